/- The engine, texts J1 J2 J2b J2c J2d J3 J4 K1 K2: how code is reckoned as Lean functions, and that it is sound. No condition. -/
import Derived.Test.YtgkgfpbdodafaaaGreatDoorPackC
import Derived.Laws.MakeOwn
import Derived.Great.BuildSlice
set_option linter.all false
/- The engine, part J1: a call. No condition. -/
namespace Go.Proofs.YtgkgfpbdodafaaaGreatDoorE
def datsOf : (rs : List Ret) → HL (rts rs) → List Dat
  | [], _ => []
  | r :: rs, y => ⟨r.t, r.m, y.1⟩ :: datsOf rs y.2
def resA (ds : List Nat) : (rs : List Ret) → HL (rts rs) → Option AV
  | [], _ => some .none
  | [r], y => if ds = [] ∨ cov r.t r.m = true then some (.dat ⟨r.t, r.m, y.1⟩) else if r.m.noOwn then some (.snp r.t y.1 ds none) else none
  | r :: r2 :: rs, y => if ds = [] ∨ (r :: r2 :: rs).all (fun r => cov r.t r.m) = true then some (.tup (datsOf (r :: r2 :: rs) y)) else none
theorem datsOf_len : ∀ (rs : List Ret) (y : HL (rts rs)), (datsOf rs y).length = rs.length
  | [], _ => rfl
  | r :: rs, y => by simp only [datsOf, List.length_cons, datsOf_len rs y.2]
theorem resA_hk {ds : List Nat} {k : Nat} {av : AV} : ∀ (rs : List Ret) (y : HL (rts rs)), resA ds rs y = some av → av.hk ≠ some k
  | [], y, hr => by simp only [resA, Option.some.injEq] at hr; subst hr; simp
  | [r], y, hr => by simp only [resA] at hr; split at hr <;> (try split at hr) <;> simp at hr <;> subst hr <;> simp
  | r :: r2 :: rs, y, hr => by simp only [resA] at hr; split at hr <;> simp at hr <;> subst hr <;> simp
def finsD : (ps : List Prm) → HL (fts ps) → List Dat
  | [], _ => []
  | ⟨.ro, _⟩ :: ps, z => finsD ps z
  | ⟨.mov _, _⟩ :: ps, z => finsD ps z
  | ⟨.inp m, t⟩ :: ps, z => ⟨t, m, z.1⟩ :: finsD ps z.2
  | ⟨.ptr m, t⟩ :: ps, z => ⟨t, m, z.1⟩ :: finsD ps z.2
def S.setFins : List (Fl × Dat) → S → Option S
  | [], σ => some σ
  | (e, D) :: r, σ => match σ.rt e.p.root with
    | some d => match ssetP e.p.path d.t d.m d.x D with
      | some (M, X) => S.setFins r (σ.setRoot e.p.root ⟨d.t, M, X⟩)
      | none => none
    | none => none
def callRs (d : Nat) (ms : List Nat) (fl : List Fl) : List Nat := 2 * d :: (ms.map (2 * ·) ++ fl.map (·.p.root))
def S.called (σ : S) (d : Nat) (av : AV) (ms : List Nat) (fl : List Fl) (Ds : List Dat) : Option S := match S.setFins (fl.zip Ds) ((σ.emptyA ms).killA (callRs d ms fl)) with
  | some σ1 => some (σ1.setSlot d av)
  | none => none
theorem Val.uniq {t : Ty} {v : Value} {cs cs' : List Value} (h : Val t v cs) (h' : Val t v cs') : cs = cs' := by
  cases t <;> simp only [Val] at h h' <;> simp_all
def EntP (G : Gh) (σ : S) (tmps : Array Value) (w w' : World) (own' : Own) (e : Fl) (D : Dat) : Prop :=
  (e.b = false ∧ ∃ L cr d x cs L', RootR G σ tmps w e.p.root d L cr ∧ getP e.p.path d.t d.m d.x = some ⟨D.t, D.m, x⟩ ∧ locP w e.p.path d.t L cr = some (L', cs) ∧ RepO w' own' D.t D.m [2 * e.i] cs D.x) ∨
  (e.b = true ∧ ∃ k x arr arr' T, e.p = ⟨2 * k + 1, []⟩ ∧ σ.box k = some (true, ⟨D.t, D.m, x⟩) ∧ w.heap[(G.bl k).1]? = some (.cells arr T (0, 0)) ∧ w'.heap[(G.bl k).1]? = some (.cells arr' T (0, 0)) ∧ arr'.size = arr.size ∧ (∀ j, (j < (G.bl k).2 ∨ (G.bl k).2 + D.t.sz ≤ j) → arr'[j]? = arr[j]?) ∧
    own' (G.bl k).1 = some [2 * e.i] ∧ ∃ cs, RepO w' own' D.t D.m [2 * e.i, 0] cs D.x ∧ ∀ j (hj : j < cs.length), arr'[(G.bl k).2 + j]? = some cs[j])
section
variable {w0 : World} {G0 : Gh} {np : Nat} {σ : S} {a : Act} {w : World} {G : Gh} (h : Rel w0 G0 np σ a w G)
include h
theorem args_fin {w' : World} {own' : Own} : ∀ (ps : List Prm) (i : Nat) (os : List Operand) {xs : HL (pts ps)} {ds : List Nat} {l : List (Nat × Nat)} {fl : List Fl} {z : HL (fts ps)}, σ.args i ps os = some (xs, ds, l, fl) → FinR w w' own' i ps (os.map a.eval) z →
    fl.length = (finsD ps z).length ∧ (∀ e ∈ fl, i ≤ e.i) ∧ (fl.map (·.i)).Nodup ∧ ∀ p ∈ fl.zip (finsD ps z), EntP G σ a.tmps w w' own' p.1 p.2
  | [], i, os, xs, ds, l, fl, z, ha, hf => by
    cases os with
    | nil =>
      simp only [S.args, Option.some.injEq, Prod.mk.injEq] at ha
      obtain ⟨_, _, _, rfl⟩ := ha
      exact ⟨rfl, (fun e he => by cases he), by simp, (fun p hp => by simp at hp)⟩
    | cons o os => simp [S.args] at ha
  | ⟨.ro, t⟩ :: ps, i, os, xs, ds, l, fl, z, ha, hf => by
    cases os with
    | nil => simp [S.args] at ha
    | cons o os =>
      simp only [S.args] at ha
      split at ha
      · rename_i x d xs' ds' l' fl' hx hr
        simp only [Option.some.injEq, Prod.mk.injEq] at ha
        obtain ⟨rfl, rfl, rfl, rfl⟩ := ha
        obtain ⟨g1, g2, g3, g4⟩ := args_fin ps (i + 1) os hr hf
        exact ⟨g1, fun e he => by have := g2 e he; omega, g3, g4⟩
      · cases ha
  | ⟨.mov m, t⟩ :: ps, i, os, xs, ds, l, fl, z, ha, hf => by
    cases os with
    | nil => simp [S.args] at ha
    | cons o os =>
      simp only [S.args] at ha
      split at ha
      · rename_i m' x ms xs' ds' l' fl' hx hr
        split at ha
        · simp only [Option.some.injEq, Prod.mk.injEq] at ha
          obtain ⟨rfl, rfl, rfl, rfl⟩ := ha
          obtain ⟨g1, g2, g3, g4⟩ := args_fin ps (i + 1) os hr hf
          exact ⟨g1, fun e he => by have := g2 e he; omega, g3, g4⟩
        · cases ha
      · cases ha
  | ⟨.inp m, t⟩ :: ps, i, os, xs, ds, l, fl, z, ha, hf => by
    cases os with
    | nil => simp [S.args] at ha
    | cons o os =>
      simp only [S.args] at ha
      split at ha
      · rename_i x p xs' ds' l' fl' hx hr
        simp only [Option.some.injEq, Prod.mk.injEq] at ha
        obtain ⟨rfl, rfl, rfl, rfl⟩ := ha
        obtain ⟨hf1, hf2⟩ := hf
        obtain ⟨g1, g2, g3, g4⟩ := args_fin ps (i + 1) os hr hf2
        refine ⟨by simp [finsD, g1], fun e he => ?_, ?_, fun q hq => ?_⟩
        · rcases List.mem_cons.1 he with rfl | he
          · exact Nat.le_refl _
          · have := g2 e he; omega
        · simp only [List.map_cons, List.nodup_cons]
          refine ⟨fun hm => ?_, g3⟩
          obtain ⟨e, he, hei⟩ := List.mem_map.1 hm
          have := g2 e he; omega
        · simp only [finsD, List.zip_cons_cons] at hq
          rcases List.mem_cons.1 hq with rfl | hq
          · obtain ⟨L, cr, d, cs, q1, q2, ⟨L', q3⟩, q4, q5⟩ := inpV_ok h hx
            obtain ⟨cs2, r1, r2⟩ := hf1
            have e1 : cs2 = cs := Val.uniq (t := t) r1 q4
            subst e1
            exact .inl ⟨rfl, L, cr, d, x, cs2, L', q1, q2, q3, r2⟩
          · exact g4 q hq
      · cases ha
  | ⟨.ptr m, t⟩ :: ps, i, os, xs, ds, l, fl, z, ha, hf => by
    cases os with
    | nil => simp [S.args] at ha
    | cons o os =>
      simp only [S.args] at ha
      split at ha
      · rename_i x p xs' ds' l' fl' hx hr
        simp only [Option.some.injEq, Prod.mk.injEq] at ha
        obtain ⟨rfl, rfl, rfl, rfl⟩ := ha
        obtain ⟨hf1, hf2⟩ := hf
        obtain ⟨g1, g2, g3, g4⟩ := args_fin ps (i + 1) os hr hf2
        refine ⟨by simp [finsD, g1], fun e he => ?_, ?_, fun q hq => ?_⟩
        · rcases List.mem_cons.1 he with rfl | he
          · exact Nat.le_refl _
          · have := g2 e he; omega
        · simp only [List.map_cons, List.nodup_cons]
          refine ⟨fun hm => ?_, g3⟩
          obtain ⟨e, he, hei⟩ := List.mem_map.1 hm
          have := g2 e he; omega
        · simp only [finsD, List.zip_cons_cons] at hq
          rcases List.mem_cons.1 hq with rfl | hq
          · obtain ⟨k, rfl, hb, hv⟩ := ptrV_ok h hx
            obtain ⟨b, o', arr, arr', T, cs, r1, r2, r3, r4, r5, r6, r7, r8⟩ := hf1
            have e0 : (Value.pointer (some ⟨b, o', none⟩)) = .pointer (some ⟨(G.bl k).1, (G.bl k).2, none⟩) := by rw [← hv]; exact r1.symm
            simp only [Value.pointer.injEq, Option.some.injEq, Addr.mk.injEq, and_true] at e0
            obtain ⟨rfl, rfl⟩ := e0
            exact .inr ⟨rfl, k, x, arr, arr', T, rfl, hb, r2, r3, r4, r5, r6, cs, r7, r8⟩
          · exact g4 q hq
      · cases ha
end
theorem S.setFins_ok : ∀ (E : List (Fl × Dat)) {σ σ' : S}, S.setFins E σ = some σ' → (E.map (·.1.p.root)).Nodup →
    σ'.sl.length = σ.sl.length ∧ (∀ j, (∀ p ∈ E, p.1.p.root ≠ 2 * j) → σ'.slot j = σ.slot j) ∧ (∀ k, (∀ p ∈ E, p.1.p.root ≠ 2 * k + 1) → σ'.box k = σ.box k) ∧
    ∀ p ∈ E, ∃ d M X, σ.rt p.1.p.root = some d ∧ ssetP p.1.p.path d.t d.m d.x p.2 = some (M, X) ∧ (∀ j, p.1.p.root = 2 * j → σ'.slot j = .dat ⟨d.t, M, X⟩) ∧ (∀ k, p.1.p.root = 2 * k + 1 → σ'.box k = (σ.box k).map fun q => (q.1, ⟨d.t, M, X⟩))
  | [], σ, σ', h, _ => by
    simp only [S.setFins, Option.some.injEq] at h
    subst h
    exact ⟨rfl, fun _ _ => rfl, fun _ _ => rfl, fun p hp => by cases hp⟩
  | (e, D) :: E, σ, σ', h, hn => by
    simp only [List.map_cons, List.nodup_cons] at hn
    simp only [S.setFins] at h
    split at h
    · rename_i d hd
      split at h
      · rename_i M X hs
        obtain ⟨a1, a2, a3, a4⟩ := S.setFins_ok E h hn.2
        have hne : ∀ p ∈ E, p.1.p.root ≠ e.p.root := fun p hp he => hn.1 (by rw [← he]; exact List.mem_map.2 ⟨p, hp, rfl⟩)
        refine ⟨by rw [a1, S.setRoot_len], fun j hj => ?_, fun k hk => ?_, fun p hp => ?_⟩
        · rw [a2 j (fun p hp => hj p (by simp [hp])), S.setRoot_slot _ hd, if_neg (hj (e, D) (by simp))]
        · rw [a3 k (fun p hp => hk p (by simp [hp])), S.setRoot_box _ hd, if_neg (hk (e, D) (by simp))]
        · rcases List.mem_cons.1 hp with rfl | hp
          · refine ⟨d, M, X, hd, hs, fun j hj => ?_, fun k hk => ?_⟩
            · simp only at hj
              rw [a2 j (fun p hp he => hne p hp (by rw [he, hj])), S.setRoot_slot _ hd, if_pos hj]
            · simp only at hk
              rw [a3 k (fun p hp he => hne p hp (by rw [he, hk])), S.setRoot_box _ hd, if_pos hk]
          · obtain ⟨d2, M2, X2, b1, b2, b3, b4⟩ := a4 p hp
            have hr : (σ.setRoot e.p.root ⟨d.t, M, X⟩).rt p.1.p.root = σ.rt p.1.p.root := by
              unfold S.rt
              split
              · rename_i he
                rw [S.setRoot_slot _ hd, if_neg (fun hh => hne p hp (by omega))]
              · rename_i he
                rw [S.setRoot_box _ hd, if_neg (fun hh => hne p hp (by omega))]
            rw [hr] at b1
            refine ⟨d2, M2, X2, b1, b2, b3, fun k hk => ?_⟩
            rw [b4 k hk, S.setRoot_box _ hd, if_neg (fun hh => hne p hp (by rw [hk, hh]))]
      · cases h
    · cases h
theorem call_ok {P : Program} {w0 : World} {G0 : Gh} {np : Nat} {σ : S} {a : Act} {w : World} {G : Gh} (h : Rel w0 G0 np σ a w G) (hI : Inv P w0 G0.own) {c : Cal} (hc : FOK P c) {os : List Operand} {x : HL (pts c.ps)} {ds : List Nat} {l : List (Nat × Nat)} {fl : List Fl}
    (ha : σ.args 0 c.ps os = some (x, ds, l, fl)) (hn : (l.map (·.1)).Nodup) (hds : ∀ p ∈ l, 2 * p.1 ∉ ds) {d : Nat} (hfn : (fl.map (·.p.root)).Nodup) (hfd : ∀ e ∈ fl, e.p.root ∉ ds ∧ (∀ p ∈ l, e.p.root ≠ 2 * p.1) ∧ e.p.root ≠ 2 * d) {y : HL (rts c.rs ++ fts c.ps)} (hy : c.F x = some y) {av : AV} (hr : resA ds c.rs (HL.left _ _ y) = some av) (hd : d < σ.sl.length)
    {σ' : S} (hσ : σ.called d av (l.map (·.1)) fl (finsD c.ps (HL.right _ _ y)) = some σ') (hcv : ∀ D ∈ finsD c.ps (HL.right _ _ y), ds = [] ∨ cov D.t D.m = true) :
    Calls P c.f (os.map a.eval).toArray w (fun e w' => ∃ v, e = .returned v ∧ ∃ G', Rel w0 G0 np σ' (a.put (some d) v) w' G' ∧ Ft w w' G G' (callRs d (l.map (·.1)) fl)) := by
  have hfroot : ∀ e ∈ fl, ∀ r s, Lab.le e.lab (r :: s) → r = e.p.root := fun e he r s ⟨q, hq⟩ => by
    obtain ⟨q', hq'⟩ := e.lab_cons
    rw [hq'] at hq
    simp at hq
    exact hq.1
  have hffn : ∀ r s, (∀ e ∈ fl, r ≠ e.p.root) → findF fl (r :: s) = none := fun r s hne => findF_none fun e he hle => hne e he (hfroot e he r s hle)
  have hcn : ∀ b, G.own b = none → cOwn G.own ds l fl b = none := fun b hb => by simp only [cOwn, hb]
  have hcf : ∀ r s b, G.own b = some (r :: s) → (∀ p ∈ l, r ≠ 2 * p.1) → findF fl (r :: s) = none → cOwn G.own ds l fl b = if r ∈ ds then none else some [] := fun r s b hb hp hff => by
    have : l.find? (fun p => r == 2 * p.1) = none := by
      rw [List.find?_eq_none]
      intro p hpl
      simp only [beq_iff_eq]
      exact hp p hpl
    simp only [cOwn, hb, this, hff]
  have hcm : ∀ p ∈ l, ∀ b s, G.own b = some (2 * p.1 :: s) → cOwn G.own ds l fl b = some (2 * p.2 :: s) := fun p hp b s hb => by
    have : l.find? (fun q => 2 * p.1 == 2 * q.1) = some p := by
      cases hf : l.find? (fun q => 2 * p.1 == 2 * q.1) with
      | none =>
        rw [List.find?_eq_none] at hf
        exact absurd (hf p hp) (by simp)
      | some q =>
        have hq := List.mem_of_find?_eq_some hf
        have he := List.find?_some hf
        simp only [beq_iff_eq] at he
        have : q = p := nodup_key hn hq hp (by omega)
        rw [this]
    simp only [cOwn, hb, this, hffn (2 * p.1) s (fun e he hh => (hfd e he).2.1 p hp hh.symm)]
  have hce : ∀ e ∈ fl, ∀ b s, G.own b = some (e.lab ++ s) → cOwn G.own ds l fl b = some (2 * e.i :: s) := fun e he b s hb => by
    obtain ⟨q, hq⟩ := e.lab_cons
    have hff := findF_at (s := s) hfn he
    rw [hq] at hb hff
    simp only [List.cons_append] at hb hff
    simp only [cOwn, hb, hff]
  have hsome : ∀ b o, cOwn G.own ds l fl b = some o → ∃ l', G.own b = some l' := fun b o hb => by
    cases ho : G.own b with
    | none => rw [hcn b ho] at hb; cases hb
    | some l' => exact ⟨l', rfl⟩
  obtain ⟨hargs, _⟩ := args_ok h (own' := cOwn G.own ds l fl) c.ps 0 os ha (fun b hb hh => by
    rcases hh with hh | ⟨r, hr, s, hs⟩
    · exact hcn b hh
    · rw [hcf r s b hs (fun p hp e => hds p hp (by rw [← e]; exact hr)) (hffn r s (fun e he hh => (hfd e he).1 (by rw [← hh]; exact hr))), if_pos hr]) hcm hce
  refine Calls.mono (hc w (cOwn G.own ds l fl) _ x y (fun b o hb => by
    obtain ⟨l', hl'⟩ := hsome b o hb
    exact h.live b l' hl') (hI.of fun b h1 h2 => ⟨hcn b (h.keep b h1 h2).1, (h.keep b h1 h2).2⟩) hargs hy) (fun e w' hpost => ?_)
  obtain ⟨v, own', rfl, p1, p2, p3, p4, p5, p6, p7, p8, p9⟩ := hpost
  refine ⟨v, rfl, ?_⟩
  obtain ⟨f1, _, f3, f4⟩ := args_fin h c.ps 0 os ha p9
  let ms := l.map (·.1)
  let own2 := bOwn G.own w.heap.size ms fl d own'
  have hmem : ∀ r, r ∈ ms.map (2 * ·) ↔ ∃ p ∈ l, r = 2 * p.1 := by
    intro r
    simp only [ms, List.map_map, List.mem_map, Function.comp_apply]
    exact ⟨fun ⟨p, hp, e⟩ => ⟨p, hp, e.symm⟩, fun ⟨p, hp, e⟩ => ⟨p, hp, e.symm⟩⟩
  have h2n : ∀ b, b < w.heap.size → G.own b = none → own2 b = none ∧ w'.heap[b]? = w.heap[b]? := fun b hb ho => by
    obtain ⟨g1, g2⟩ := p6 b hb (hcn b ho)
    refine ⟨?_, g2⟩
    simp only [own2, bOwn, bOld, g1, if_pos hb, ho]
  have h2f : ∀ b, G.own b = some [] → own2 b = some [] ∧ w'.heap[b]? = w.heap[b]? := fun b ho => by
    have hb := h.live b _ ho
    obtain ⟨g1, g2⟩ := p7 b hb (by simp only [cOwn, ho])
    refine ⟨?_, g2⟩
    simp only [own2, bOwn, bOld, g1, if_pos hb, ho]
  have h2s' : ∀ b r s, G.own b = some (r :: s) → r ∉ ms.map (2 * ·) → findF fl (r :: s) = none → own2 b = some (r :: s) ∧ w'.heap[b]? = w.heap[b]? := fun b r s ho hr hff => by
    have hb := h.live b _ ho
    have hnp : ∀ p ∈ l, r ≠ 2 * p.1 := fun p hp e => hr ((hmem r).2 ⟨p, hp, e⟩)
    have hcc := hcf r s b ho hnp hff
    have hno : ¬ (r ∈ ms.map (2 * ·) ∨ (findF fl (r :: s)).isSome = true) := by
      rintro (hh | hh)
      · exact hr hh
      · rw [hff] at hh; cases hh
    by_cases hrd : r ∈ ds
    · rw [if_pos hrd] at hcc
      obtain ⟨g1, g2⟩ := p6 b hb hcc
      refine ⟨?_, g2⟩
      simp only [own2, bOwn, bOld, g1, if_pos hb, ho, if_neg hno]
    · rw [if_neg hrd] at hcc
      obtain ⟨g1, g2⟩ := p7 b hb hcc
      refine ⟨?_, g2⟩
      simp only [own2, bOwn, bOld, g1, if_pos hb, ho, if_neg hno]
  have h2s : ∀ b r s, G.own b = some (r :: s) → r ∉ ms.map (2 * ·) → (∀ e ∈ fl, r ≠ e.p.root) → own2 b = some (r :: s) ∧ w'.heap[b]? = w.heap[b]? := fun b r s ho hr hne => h2s' b r s ho hr (hffn r s hne)
  have h2r : ∀ b s, own' b = some (resL :: s) → own2 b = some (2 * d :: s) ∧ w'.heap[b]? = w'.heap[b]? := fun b s ho => ⟨by simp only [own2, bOwn, ho, if_true], rfl⟩
  have h2e' : ∀ e ∈ fl, ∀ b s, own' b = some (2 * e.i :: s) → own2 b = some (e.lab ++ s) := fun e he b s ho => by
    have hre : ¬ 2 * e.i = resL := by unfold resL; omega
    have : fl.find? (fun e' => 2 * e'.i == 2 * e.i) = some e := by
      cases hf : fl.find? (fun e' => 2 * e'.i == 2 * e.i) with
      | none =>
        rw [List.find?_eq_none] at hf
        exact absurd (hf e he) (by simp)
      | some e' =>
        have hq := List.mem_of_find?_eq_some hf
        have hee := List.find?_some hf
        simp only [beq_iff_eq] at hee
        have : e' = e := by
          obtain ⟨i1, hi1, rfl⟩ := List.mem_iff_getElem.1 hq
          obtain ⟨i2, hi2, rfl⟩ := List.mem_iff_getElem.1 he
          have := List.pairwise_iff_getElem.1 f3
          rcases Nat.lt_trichotomy i1 i2 with hlt | heq | hgt
          · exact ((this i1 i2 (by simpa using hi1) (by simpa using hi2) hlt) (by simp only [List.getElem_map]; omega)).elim
          · subst heq; rfl
          · exact ((this i2 i1 (by simpa using hi2) (by simpa using hi1) hgt) (by simp only [List.getElem_map]; omega)).elim
        rw [this]
    simp only [own2, bOwn, ho, if_neg hre, this]
  have hlive : ∀ b o, own2 b = some o → b < w'.heap.size := fun b o hb => by
    have hold : bOld G.own w.heap.size ms fl b ≠ none → b < w'.heap.size := fun hne => by
      unfold bOld at hne
      split at hne
      · omega
      · exact absurd rfl hne
    simp only [own2, bOwn] at hb
    split at hb
    · rename_i r s hs
      exact p5 b _ hs
    · exact hold (by rw [hb]; simp)
  -- what is only looked at
  have h2v : ∀ b, own' b = none ∧ b < w'.heap.size → okd w' own2 ds b := fun b ⟨hb, hlt⟩ => by
    refine ⟨hlt, ?_⟩
    simp only [own2, bOwn, bOld, hb]
    by_cases hbn : b < w.heap.size
    · rw [if_pos hbn]
      cases ho : G.own b with
      | none => exact .inl rfl
      | some lb =>
        cases lb with
        | nil =>
          obtain ⟨g1, _⟩ := p7 b hbn (by simp only [cOwn, ho])
          rw [hb] at g1; cases g1
        | cons r s =>
          simp only
          by_cases hr : r ∈ ms.map (2 * ·) ∨ (findF fl (r :: s)).isSome = true
          · rw [if_pos hr]; exact .inl rfl
          · rw [if_neg hr]
            right
            simp only [not_or, Bool.not_eq_true, Option.isSome_eq_false_iff, Option.isNone_iff_eq_none] at hr
            have hnp : ∀ p ∈ l, r ≠ 2 * p.1 := fun p hp e => hr.1 ((hmem r).2 ⟨p, hp, e⟩)
            have hcc := hcf r s b ho hnp hr.2
            by_cases hrd : r ∈ ds
            · exact ⟨r, hrd, s, rfl⟩
            · rw [if_neg hrd] at hcc
              obtain ⟨g1, _⟩ := p7 b hbn hcc
              rw [hb] at g1; cases g1
    · rw [if_neg hbn]; exact .inl rfl
  have h2e : ds = [] → ∀ b, own' b = none → b < w'.heap.size → own2 b = none ∧ b < w'.heap.size ∧ w'.heap[b]? = w'.heap[b]? := fun hd0 b hb hlt => by
    have := (h2v b ⟨hb, hlt⟩).2
    refine ⟨?_, hlt, rfl⟩
    rcases this with h1 | ⟨r, hr, _⟩
    · exact h1
    · rw [hd0] at hr; cases hr
  have hdat : ∀ (r : Ret) (q : Lab) (cs : List Value) (z : r.t.D), (ds = [] ∨ cov r.t r.m = true) → RepO w' own' r.t r.m (resL :: q) cs z → RepO w' own2 r.t r.m (2 * d :: q) cs z := fun r q cs z hor hR => by
    rcases hor with hd0 | hcv
    · exact RepO.move (h2e hd0) hR (fun b s hb => h2r b (q ++ s) (by simpa using hb))
    · exact RepO.moveC hcv hR (fun b s hb => h2r b (q ++ s) (by simpa using hb))
  have hav : ∀ (σ2 : S) (tmps : Array Value), SlotR { G with own := own2 } σ2 tmps w' d av v := fun σ2 tmps => by
    clear hσ hcv f1 f4 p9
    have p8' := p8
    clear p8
    generalize HL.left (rts c.rs) (fts c.ps) y = y1 at hr p8'
    clear hy y
    revert y1
    cases c.rs with
    | nil => intro y hr _; simp only [resA, Option.some.injEq] at hr; subst hr; trivial
    | cons r rs =>
      cases rs with
      | nil =>
        intro y hr hR
        simp only [resA] at hr
        obtain ⟨cs, q1, q2⟩ := hR
        split at hr
        · rename_i hor
          obtain ⟨rfl⟩ := hr
          exact ⟨cs, q1, hdat r [] cs y.1 hor q2⟩
        · split at hr
          · rename_i hno
            obtain ⟨rfl⟩ := hr
            have := RepO.noOwn hno q2
            refine ⟨cs, q1, RepV.mono (fun b hb => ⟨h2v b ⟨?_, hb.1⟩, rfl⟩) this, fun p hp => by cases hp⟩
            rcases hb.2 with h1 | ⟨r, hr, _⟩
            · exact h1
            · cases hr
          · cases hr
      | cons r2 rs =>
        intro y hr hR
        simp only [resA] at hr
        obtain ⟨arr, rfl, q1, q2⟩ := hR
        split at hr
        · rename_i hor
          obtain ⟨rfl⟩ := hr
          refine ⟨arr, rfl, by rw [q1, datsOf_len]; rfl, ?_⟩
          have key : ∀ (rs : List Ret) (j : Nat) (y : HL (rts rs)), (ds = [] ∨ rs.all (fun r => cov r.t r.m) = true) → TupR w' own' arr j rs y → ∀ k (hk : k < (datsOf rs y).length), ∃ cs, Val (datsOf rs y)[k].t (arr.getD (j + k) undef) cs ∧ RepO w' own2 (datsOf rs y)[k].t (datsOf rs y)[k].m [2 * d, j + k] cs (datsOf rs y)[k].x := by
            intro rs
            induction rs with
            | nil => intro j y _ _ k hk; simp [datsOf] at hk
            | cons r rs ih =>
              intro j y hor hT k hk
              obtain ⟨⟨cs, t1, t2⟩, t3⟩ := hT
              cases k with
              | zero =>
                refine ⟨cs, t1, hdat r [j] cs y.1 ?_ t2⟩
                rcases hor with h1 | h1
                · exact .inl h1
                · simp only [List.all_cons, Bool.and_eq_true] at h1; exact .inr h1.1
              | succ k =>
                have := ih (j + 1) y.2 (by
                  rcases hor with h1 | h1
                  · exact .inl h1
                  · simp only [List.all_cons, Bool.and_eq_true] at h1; exact .inr h1.2) t3 k (by simpa [datsOf] using hk)
                rw [show j + 1 + k = j + (k + 1) by omega] at this
                exact this
          intro k hk
          have := key _ 0 y hor q2 k hk
          simpa only [Nat.zero_add] using this
        · cases hr
  have hnh : ∀ k, av.hk ≠ some k := fun k => resA_hk _ _ hr
  -- the state
  unfold S.called at hσ
  split at hσ
  · rename_i σ1 hfin
    obtain ⟨rfl⟩ := hσ
    have hzip : ((fl.zip (finsD c.ps (HL.right _ _ y))).map (·.1.p.root)) = fl.map (·.p.root) := by
      have : (fl.zip (finsD c.ps (HL.right _ _ y))).map (·.1.p.root) = ((fl.zip (finsD c.ps (HL.right _ _ y))).map (·.1)).map (·.p.root) := by rw [List.map_map]; rfl
      rw [this, List.map_fst_zip (by omega)]
    obtain ⟨b1, b2, b3, b4⟩ := S.setFins_ok _ hfin (by rw [hzip]; exact hfn)
    have hzm : ∀ e ∈ fl, ∃ p ∈ fl.zip (finsD c.ps (HL.right _ _ y)), p.1 = e := fun e he => by
      have : e ∈ (fl.zip (finsD c.ps (HL.right _ _ y))).map (·.1) := by rw [List.map_fst_zip (by omega)]; exact he
      obtain ⟨p, hp, rfl⟩ := List.mem_map.1 this
      exact ⟨p, hp, rfl⟩
    have hzf : ∀ p ∈ fl.zip (finsD c.ps (HL.right _ _ y)), p.1 ∈ fl := fun p hp => (List.of_mem_zip (a := p.1) (b := p.2) hp).1
    have hrs : ∀ r, r ∈ callRs d ms fl → r = 2 * d ∨ (∃ m ∈ ms, r = 2 * m) ∨ ∃ e ∈ fl, r = e.p.root := fun r hr => by
      rcases List.mem_cons.1 hr with h1 | h1
      · exact .inl h1
      · rcases List.mem_append.1 h1 with h1 | h1
        · obtain ⟨m, hm1, hm2⟩ := List.mem_map.1 h1
          exact .inr (.inl ⟨m, hm1, hm2.symm⟩)
        · obtain ⟨e, he1, he2⟩ := List.mem_map.1 h1
          exact .inr (.inr ⟨e, he1, he2.symm⟩)
    have hkslot : ∀ j, ((σ.emptyA ms).killA (callRs d ms fl)).slot j = if j ∈ ms then .none else (σ.slot j).kills (callRs d ms fl) := fun j => by
      rw [S.killA_slot, S.emptyA_slot]
      split
      · exact AV.kills_none _
      · rfl
    have hkbox : ∀ k, ((σ.emptyA ms).killA (callRs d ms fl)).box k = σ.box k := fun k => by rw [S.killA_box, S.emptyA_box]
    have hl1 : σ1.sl.length = σ.sl.length := by rw [b1, S.killA_len, S.emptyA_len]
    have hda : d < a.tmps.size := by rw [← h.tmps]; exact hd
    have hsl1 : ∀ j, (σ1.setSlot d av).slot j = if d = j then av else σ1.slot j := fun j => by
      rw [S.setSlot_slot, hl1]
      by_cases e : d = j
      · rw [if_pos ⟨e, hd⟩, if_pos e]
      · rw [if_neg (fun h => e h.1), if_neg e]
    have hnms : ∀ e ∈ fl, ∀ j, e.p.root = 2 * j → j ∉ ms := fun e he j hj hm => by
      obtain ⟨p, hp, hpj⟩ := List.mem_map.1 hm
      exact (hfd e he).2.1 p hp (by rw [hj, ← hpj])
    -- what is known of a root that was written in
    have hO2 : ∀ b, G.own b = none → b < w.heap.size → own2 b = none ∧ b < w'.heap.size ∧ w'.heap[b]? = w.heap[b]? := fun b h1 h2 => ⟨(h2n b h2 h1).1, by omega, (h2n b h2 h1).2⟩
    have hff1 : ∀ e ∈ fl, ∀ r s, r = e.p.root → ¬ Lab.le e.lab (r :: s) → findF fl (r :: s) = none := fun e he r s hre hnl => findF_none fun e' he' hle => by
      have h1 := hfroot e' he' r s hle
      have : e' = e := by
        obtain ⟨i1, hi1, rfl⟩ := List.mem_iff_getElem.1 he'
        obtain ⟨i2, hi2, rfl⟩ := List.mem_iff_getElem.1 he
        have := List.pairwise_iff_getElem.1 hfn
        rcases Nat.lt_trichotomy i1 i2 with hlt | heq | hgt
        · exact ((this i1 i2 (by simpa using hi1) (by simpa using hi2) hlt) (by simp only [List.getElem_map]; omega)).elim
        · subst heq; rfl
        · exact ((this i2 i1 (by simpa using hi2) (by simpa using hi1) hgt) (by simp only [List.getElem_map]; omega)).elim
      rw [this] at hle
      exact hnl hle
    have hfroot2 : ∀ e ∈ fl, e.p.root ∉ ms.map (2 * ·) := fun e he hm => by
      obtain ⟨p, hp, hpe⟩ := (hmem _).1 hm
      exact (hfd e he).2.1 p hp hpe
    have hdatF : ∀ p ∈ fl.zip (finsD c.ps (HL.right _ _ y)), ∀ (q : Lab) (cs : List Value), RepO w' own' p.2.t p.2.m (2 * p.1.i :: q) cs p.2.x → RepO w' own2 p.2.t p.2.m (p.1.lab ++ q) cs p.2.x := fun p hp q cs hR => by
      have he := hzf p hp
      have hD := (List.of_mem_zip (a := p.1) (b := p.2) hp).2
      have hlb : ∀ b s, own' b = some ((2 * p.1.i :: q) ++ s) → own2 b = some ((p.1.lab ++ q) ++ s) ∧ w'.heap[b]? = w'.heap[b]? := fun b s hb => ⟨by
        have := h2e' _ he b (q ++ s) (by simpa using hb)
        simpa using this, rfl⟩
      rcases hcv _ hD with hd0 | hc1
      · exact RepO.move (h2e hd0) hR hlb
      · exact RepO.moveC hc1 hR hlb
    have hent : ∀ p ∈ fl.zip (finsD c.ps (HL.right _ _ y)), p.1.b = false → ∀ d0 M X, σ.rt p.1.p.root = some d0 → ssetP p.1.p.path d0.t d0.m d0.x p.2 = some (M, X) → ∃ L cr, RootR G σ a.tmps w p.1.p.root d0 L cr ∧ RepO w' own2 d0.t M (rootLab p.1.p.root) cr X := by
      intro p hp hpb d0 M X hd0 hset
      rcases f4 p hp with ⟨_, L, cr, d1, x1, cs1, L1, q1, q2, q3, q4⟩ | ⟨q0, _⟩
      · have hu := q1.uniq hd0
        subst hu
        refine ⟨L, cr, q1, ?_⟩
        have hlab : p.1.lab = rootLab p.1.p.root ++ p.1.p.path.lab := by unfold Fl.lab; rw [hpb]; rfl
        have he := hzf p hp
        obtain ⟨s0, hs0⟩ := rootLab_cons p.1.p.root
        refine retagW (ρ := p.1.lab) (p0 := rootLab p.1.p.root) (fun b l' hb hle hnl => ?_) hO2 p.1.p.path (Lab.le_refl _) (h.root q1).1 q2 (setP_s _ q2 hset) q3 hlab ?_
        · obtain ⟨q, hq⟩ := hle
          rw [hs0] at hq
          simp only [List.cons_append] at hq
          subst hq
          exact h2s' b _ _ hb (hfroot2 _ he) (hff1 _ he _ _ rfl hnl)
        · have hh := hdatF p hp [] cs1 (by simpa using q4)
          rw [List.append_nil] at hh
          exact hh
      · rw [hpb] at q0; cases q0
    refine ⟨{ G with own := own2 }, h.step2 (callRs d ms fl) (fun _ _ => ⟨rfl, rfl, rfl, rfl⟩) ⟨p4, fun b hb hlt => h2n b hlt hb, fun b r s hb hr => ?_, h2f⟩ p1 p2 p3 hlive (fun _ _ => ⟨rfl, rfl, rfl, rfl⟩) ?_ h.defers (fun j => ?_) (fun k bx hb => ?_) (fun k b d1 hk hb => ?_) (fun j k hj => ?_)⟩
    · exact h2s b r s hb (fun hm => hr (List.mem_cons_of_mem _ (List.mem_append_left _ hm))) (fun e he hh => hr (List.mem_cons_of_mem _ (List.mem_append_right _ (List.mem_map.2 ⟨e, he, hh.symm⟩))))
    · rw [S.setSlot_len, hl1]; simp [Act.put, h.tmps]
    · rw [hsl1 j]
      by_cases e : d = j
      · subst e
        right
        rw [if_pos rfl, Act.put_getD _ _ _ _ hda, if_pos rfl]
        exact ⟨hav _ _, fun _ => by simp [callRs]⟩
      · rw [if_neg e, Act.put_getD _ _ _ _ hda, if_neg e]
        by_cases hex : ∃ p ∈ fl.zip (finsD c.ps (HL.right _ _ y)), p.1.p.root = 2 * j
        · obtain ⟨p, hp, hpj⟩ := hex
          right
          obtain ⟨d0, M, X, c1, c2, c3, _⟩ := b4 p hp
          rw [c3 j hpj]
          have he := hzf p hp
          have hbf : p.1.b = false := by
            cases hb : p.1.b with
            | false => rfl
            | true =>
              rcases f4 p hp with ⟨q0, _⟩ | ⟨_, k, _, _, _, _, q1, _⟩
              · rw [hb] at q0; cases q0
              · rw [q1] at hpj; simp only at hpj; omega
          have c1' : σ.rt p.1.p.root = some d0 := by
            unfold S.rt at c1 ⊢
            rw [if_pos (by omega)] at c1 ⊢
            rw [hkslot, if_neg (hnms _ he _ (by omega))] at c1
            split at c1
            · rename_i d' hs'
              obtain ⟨rfl⟩ := c1
              rcases AV.kills_or (callRs d ms fl) (σ.slot (p.1.p.root / 2)) with k1 | k1
              · rw [k1] at hs'; cases hs'
              · rw [k1] at hs'; rw [hs']
            · cases c1
          obtain ⟨L, cr, q1, q2⟩ := hent p hp hbf d0 M X c1' c2
          obtain ⟨_, _, hv'⟩ := q1.slot_inv hpj
          refine ⟨⟨cr, hv', ?_⟩, fun _ => ?_⟩
          · rw [rootLab, if_pos (by omega), hpj] at q2; exact q2
          · exact List.mem_cons_of_mem _ (List.mem_append_right _ (List.mem_map.2 ⟨p.1, he, hpj⟩))
        · left
          refine ⟨⟨?_⟩, rfl⟩
          rw [hsl1 j, if_neg e, b2 j (fun p hp hh => hex ⟨p, hp, hh⟩), hkslot]
          by_cases hm : j ∈ ms
          · rw [if_pos hm]; exact .inl rfl
          · rw [if_neg hm]
            rcases AV.kills_or (callRs d ms fl) (σ.slot j) with k1 | k1
            · exact .inl k1
            · by_cases hn' : σ.slot j = .none
              · left; rw [k1, hn']
              · refine .inr ⟨k1, AV.kills_all _ _ k1 hn', fun _ hmem' => ?_⟩
                rcases hrs _ hmem' with h1 | ⟨m, hm1, hm2⟩ | ⟨e', he1, he2⟩
                · exact e (by omega)
                · have : m = j := by omega
                  subst this; exact hm hm1
                · obtain ⟨p, hp, hpe⟩ := hzm e' he1
                  exact hex ⟨p, hp, by rw [hpe]; exact he2.symm⟩
    · rw [S.setSlot_box] at hb
      by_cases hex : ∃ p ∈ fl.zip (finsD c.ps (HL.right _ _ y)), p.1.p.root = 2 * k + 1
      · obtain ⟨p, hp, hpk⟩ := hex
        right
        have he := hzf p hp
        refine ⟨?_, List.mem_cons_of_mem _ (List.mem_append_right _ (List.mem_map.2 ⟨p.1, he, hpk⟩))⟩
        obtain ⟨d0, M, X, c1, c2, _, c4⟩ := b4 p hp
        rw [c4 k hpk, hkbox] at hb
        obtain ⟨⟨bb, dq⟩, hq, rfl⟩ := Option.map_eq_some_iff.1 hb
        have c1' : σ.rt p.1.p.root = some d0 := by
          have e1 : p.1.p.root / 2 = k := by omega
          unfold S.rt at c1 ⊢
          rw [if_neg (by omega)] at c1 ⊢
          rw [e1, hkbox] at c1
          rw [e1]; exact c1
        have hdq : dq = d0 := by
          have e1 : p.1.p.root / 2 = k := by omega
          unfold S.rt at c1'
          rw [if_neg (by omega), e1, hq] at c1'
          exact Option.some.inj c1'
        subst hdq
        have hB := h.boxes k _ hq
        have e0 : rootLab p.1.p.root = [2 * k + 1, 0] := by rw [rootLab, if_neg (by omega), hpk]
        cases hbf : p.1.b with
        | false =>
          obtain ⟨L, cr, q1, q2⟩ := hent p hp hbf dq M X c1' c2
          rw [e0] at q2
          rcases q1.box_inv hpk with ⟨hb', hL', hl', hc'⟩ | ⟨hb', hL', hc'⟩
          · rw [hq] at hb'
            simp only [Option.some.injEq, Prod.mk.injEq] at hb'
            obtain ⟨rfl, _⟩ := hb'
            obtain ⟨arr, t1, t2, t3, t4, t5, csb, t6, t7⟩ := hB
            have hnl : ¬ Lab.le p.1.lab ((2 * k + 1) :: []) := fun hle => by
              have := Lab.le_len hle
              unfold Fl.lab at this
              rw [hbf, e0] at this
              simp at this
            have hblk := h2s' _ _ _ t2 (by rw [← hpk]; exact hfroot2 _ he) (hff1 _ he _ _ hpk.symm hnl)
            refine ⟨arr, by rw [← t1]; exact hblk.2, hblk.1, t3, t4, t5, cr, q2, fun j hj => ?_⟩
            have := hc' j hj
            rwa [cell_of_heap t1] at this
          · rw [hq] at hb'
            simp only [Option.some.injEq, Prod.mk.injEq] at hb'
            obtain ⟨rfl, _⟩ := hb'
            obtain ⟨t1, t2⟩ := hB
            rw [hc'] at q2
            exact ⟨t1, q2⟩
        | true =>
          rcases f4 p hp with ⟨q0, _⟩ | ⟨_, k', x1, arr, arr', T, q1, q2, q3, q4, q5, q6, q7, cs, q8, q9⟩
          · rw [hbf] at q0; cases q0
          · have ek : k' = k := by rw [q1] at hpk; simp only at hpk; omega
            subst ek
            rw [q2] at hq
            simp only [Option.some.injEq, Prod.mk.injEq] at hq
            obtain ⟨rfl, rfl⟩ := hq
            have hpath : p.1.p.path = [] := by rw [q1]
            rw [hpath] at c2
            simp only [ssetP] at c2
            split at c2
            · simp only [Option.some.injEq, Prod.mk.injEq] at c2
              obtain ⟨rfl, rfl⟩ := c2
              obtain ⟨arr0, t1, t2, t3, t4, t5, _⟩ := hB
              rw [q3] at t1
              simp only [Option.some.injEq, Obj.cells.injEq] at t1
              obtain ⟨rfl, rfl, _⟩ := t1
              have hlab : p.1.lab = [2 * k' + 1] := by unfold Fl.lab; rw [hbf, q1]; rfl
              refine ⟨arr', q4, ?_, by rw [q5]; exact t3, by rw [q5]; exact t4, fun j hj => by rw [q6 j hj]; exact t5 j hj, cs, ?_, q9⟩
              · have := h2e' _ he _ [] q7
                rw [hlab] at this
                exact this
              · have := hdatF p hp [0] cs (by simpa using q8)
                rw [hlab] at this
                exact this
            · cases c2
      · left
        have hne : ∀ p ∈ fl.zip (finsD c.ps (HL.right _ _ y)), p.1.p.root ≠ 2 * k + 1 := fun p hp hh => hex ⟨p, hp, hh⟩
        rw [b3 k hne, hkbox] at hb
        refine ⟨hb, fun hm => ?_, rfl, rfl, rfl, rfl⟩
        rcases hrs _ hm with h1 | ⟨m, _, hm2⟩ | ⟨e', he1, he2⟩
        · omega
        · omega
        · obtain ⟨p, hp, hpe⟩ := hzm e' he1
          exact hne p hp (by rw [hpe]; exact he2.symm)
    · left
      rw [S.setSlot_box] at hb
      obtain ⟨p, hp, hpk⟩ : ∃ p ∈ fl.zip (finsD c.ps (HL.right _ _ y)), p.1.p.root = 2 * k + 1 := by
        rcases hrs _ hk with h1 | ⟨m, _, hm2⟩ | ⟨e', he1, he2⟩
        · omega
        · omega
        · obtain ⟨p, hp, hpe⟩ := hzm e' he1
          exact ⟨p, hp, by rw [hpe]; exact he2.symm⟩
      obtain ⟨d0, M, X, c1, c2, _, c4⟩ := b4 p hp
      rw [c4 k hpk, hkbox] at hb
      obtain ⟨⟨bb, dq⟩, hq, hq2⟩ := Option.map_eq_some_iff.1 hb
      simp only [Prod.mk.injEq] at hq2
      obtain ⟨rfl, rfl⟩ := hq2
      refine ⟨dq, hq, ?_, rfl, rfl⟩
      have e1 : p.1.p.root / 2 = k := by omega
      unfold S.rt at c1
      rw [if_neg (by omega), e1, hkbox, hq] at c1
      obtain rfl := Option.some.inj c1
      rfl
    · rw [hsl1 j] at hj
      by_cases e : d = j
      · rw [if_pos e] at hj
        exact absurd hj (hnh k)
      · rw [if_neg e] at hj
        by_cases hex : ∃ p ∈ fl.zip (finsD c.ps (HL.right _ _ y)), p.1.p.root = 2 * j
        · obtain ⟨p, hp, hpj⟩ := hex
          obtain ⟨d0, M, X, _, _, c3, _⟩ := b4 p hp
          rw [c3 j hpj] at hj; cases hj
        · rw [b2 j (fun p hp hh => hex ⟨p, hp, hh⟩), hkslot] at hj
          split at hj
          · cases hj
          · obtain ⟨dk, hdk⟩ := (h.slots j).hk (AV.kills_hk _ hj)
            rw [S.setSlot_box]
            by_cases hex2 : ∃ p ∈ fl.zip (finsD c.ps (HL.right _ _ y)), p.1.p.root = 2 * k + 1
            · obtain ⟨p, hp, hpk⟩ := hex2
              obtain ⟨d0, M, X, _, _, _, c4⟩ := b4 p hp
              rw [c4 k hpk, hkbox, hdk]
              exact ⟨_, rfl⟩
            · rw [b3 k (fun p hp hh => hex2 ⟨p, hp, hh⟩), hkbox, hdk]
              exact ⟨_, rfl⟩
  · cases hσ
end Go.Proofs.YtgkgfpbdodafaaaGreatDoorE
/- The engine, part J2: lists that are made: what the operations run to. No condition. -/
namespace Go.Proofs.YtgkgfpbdodafaaaGreatDoorE
theorem mod_flat (z : Array Value) (hz : 0 < z.size) : ∀ (n : Nat), ((List.range (n * z.size)).map fun i => z[i % z.size]!) = (List.replicate n z.toList).flatten
  | 0 => by simp
  | n + 1 => by
    rw [Nat.add_mul, Nat.one_mul, List.range_add, List.map_append, mod_flat z hz n, List.replicate_succ', List.flatten_append]
    congr 1
    simp only [List.flatten_cons, List.flatten_nil, List.append_nil, List.map_map]
    apply List.ext_getElem (by simp)
    intro i h1 h2
    simp only [List.length_map, List.length_range] at h1
    simp only [List.getElem_map, List.getElem_range, Function.comp_apply]
    rw [Nat.mul_comm, Nat.mul_add_mod, Nat.mod_eq_of_lt h1]
    simp [h1]
theorem offs_replicate (s : Nat) : ∀ (n i : Nat), i ≤ n → offs (List.replicate n s) i = i * s
  | _, 0, _ => by simp [offs]
  | 0, i + 1, h => by omega
  | n + 1, i + 1, h => by rw [List.replicate_succ, offs_succ, offs_replicate s n i (by omega), Nat.add_mul, Nat.one_mul, Nat.add_comm]
section
variable {P : Program} {τ : List TE} (hτ : TabOk P τ)
include hτ
theorem zero_cells {e : Nat} {tl : TE} (htl : tat τ e = some tl) : ∃ it z, P.info? e = some it ∧ it.zero = some z ∧ it.size = tl.t.sz ∧ it.bytes = tl.by_ ∧ z.cells.toList = tl.t.zc ∧ z.cells.size = tl.t.sz := by
  obtain ⟨⟨⟨it, z, hi, hz, hzv, hsz, hby, _⟩, _⟩, hid⟩ := hτ _ _ htl
  rw [hid] at hi
  have hone : ∀ u ∈ tl.t.zc, u.oneCell' = true := fun u hu => RepO.one (RepO.zero (w := default) (own := fun _ => none) tl.t .ro []) u hu
  have e1 := hzv.cells hone
  exact ⟨it, z, hi, hz, hsz, hby, e1, by rw [← Ty.zc_len, ← e1]; simp⟩
theorem run_buildS {T e : Nat} {te tl : TE} (hT : tat τ T = some te) {t : Ty} (ht : te.t = .list e t) (htl : tat τ e = some tl) {n : Nat} (hn : n * t.sz ≤ 16777216) {vals : List Value} {css : List (List Value)} (hl : vals.length = n) (hcl : css.length = n)
    (hv : ∀ k (h1 : k < vals.length) (h2 : k < css.length), vals[k].cells.toList = css[k] ∧ vals[k].cells.size = t.sz) (w : World) :
    (Instr.buildSlice T n ((List.range n).zip vals).toArray).run P w = .ok (.slice (some ⟨w.heap.size, 0, none⟩) n n) (w.alloc (.cells css.flatten.toArray e)) := by
  obtain ⟨hu, tl', htl', htt⟩ := hτ.slice hT ht
  rw [htl] at htl'
  obtain ⟨rfl⟩ := htl'
  obtain ⟨it, z, hi, hz, hsz, _, hzc, hzs⟩ := zero_cells hτ htl
  rw [htt] at hsz hzc hzs
  have hpos := Ty.sz_pos t
  by_cases h0 : n = 0
  · subst h0
    have : css = [] := List.eq_nil_of_length_eq_zero hcl
    subst this
    have : vals = [] := List.eq_nil_of_length_eq_zero hl
    subst this
    simp [Instr.buildSlice, run_underlying hu, sizeOf, typeInfo, hi, Instr.fill, newRow]
    rw [Array.range_zero']
    simp
  · have hne : ¬ n * it.size = 0 := by rw [hsz]; exact Nat.mul_ne_zero h0 (by omega)
    have hfl : ((Array.range (n * it.size)).map (z.cells[· % z.cells.size]!)).toList = (List.replicate n t.zc).flatten := by
      rw [Array.toList_map, Array.toList_range, hsz, ← hzs, mod_flat z.cells (by omega) n, hzc]
    obtain ⟨out, o1, o2⟩ := fill_ok (place := fun i => some (i * it.size, it.size)) (ss := List.replicate n t.sz) (fun i hi => by
        simp only [List.length_replicate] at hi
        rw [offs_replicate _ _ _ (by omega), hsz]
        simp [hi]) ((List.range n).zip vals) (List.replicate n t.zc) ((Array.range (n * it.size)).map (z.cells[· % z.cells.size]!)) hfl (by simp [Ty.zc_len]) (fun p hp => by
        obtain ⟨i, hi', rfl⟩ := List.mem_iff_getElem.1 hp
        simp only [List.length_zip, List.length_range] at hi'
        simp only [List.getElem_zip, List.getElem_range, List.length_replicate]
        refine ⟨by omega, ?_⟩
        rw [(hv i (by omega) (by omega)).2]
        have : i < n := by omega
        simp [this])
    have hout : out.toList = css.flatten := by
      rw [o2]
      congr 1
      apply List.ext_getElem?
      intro i
      rw [foldl_get _ _ _ (by
        rw [List.map_fst_zip (by simp [hl])]
        exact List.nodup_range)]
      simp only [List.length_replicate]
      split
      · rename_i hi'
        have hf : ((List.range n).zip vals).find? (·.1 == i) = some (i, vals[i]'(by omega)) := by
          have hmem : (i, vals[i]'(by omega)) ∈ (List.range n).zip vals := by
            rw [List.mem_iff_getElem]
            exact ⟨i, by simp; omega, by simp⟩
          cases hff : ((List.range n).zip vals).find? (·.1 == i) with
          | none => rw [List.find?_eq_none] at hff; exact absurd (hff _ hmem) (by simp)
          | some q =>
            have hq := List.mem_of_find?_eq_some hff
            have he := List.find?_some hff
            simp only [beq_iff_eq] at he
            rw [nodup_key (by rw [List.map_fst_zip (by simp [hl])]; exact List.nodup_range) hq hmem he]
        rw [hf]
        simp only
        rw [(hv i (by omega) (by omega)).1, List.getElem?_eq_getElem]
      · rw [List.getElem?_eq_none (by omega)]
    have := run_buildSlice (P := P) w T e n ((List.range n).zip vals).toArray out it z hu hi hz (by rw [hsz]; omega) hne (by simpa using o1)
    rw [this, ← hout]
theorem run_makeS {T e : Nat} {te tl : TE} (hT : tat τ T = some te) {t : Ty} (ht : te.t = .list e t) (htl : tat τ e = some tl) {k k' : IntKind} {n : Int} (h0 : 0 ≤ n) (hroom : n.toNat * tl.by_ ≤ 140737488355328) (hb : 0 < tl.by_) (w : World) :
    (Instr.makeSlice T (.int k n) (.int k' n)).run P w = .ok (.slice (some ⟨w.heap.size, 0, none⟩) n.toNat n.toNat) (w.alloc (.cells (List.replicate n.toNat t.zc).flatten.toArray e)) := by
  obtain ⟨hu, tl', htl', htt⟩ := hτ.slice hT ht
  rw [htl] at htl'
  obtain ⟨rfl⟩ := htl'
  obtain ⟨it, z, hi, hz, hsz, hby, hzc, hzs⟩ := zero_cells hτ htl
  rw [htt] at hsz hzc hzs
  have hpos := Ty.sz_pos t
  have hn1 : n.toNat * 1 ≤ n.toNat * tl.by_ := Nat.mul_le_mul_left _ hb
  have hbytes : (it.bytes : Int) * n ≤ 281474976710656 := by
    have e1 : n = (n.toNat : Int) := by omega
    have e2 : (it.bytes : Int) * (n.toNat : Int) = ((n.toNat * tl.by_ : Nat) : Int) := by rw [hby, Nat.mul_comm]; simp
    rw [e1, e2]; omega
  rw [run_make w T e it z hu hi hz k k' n n h0 (Int.le_refl _) hbytes (by omega)]
  congr 3
  unfold madeCells
  apply Array.ext'
  rw [Array.toList_map, Array.toList_range, hsz, ← hzs, mod_flat z.cells (by omega), hzc]
end
end Go.Proofs.YtgkgfpbdodafaaaGreatDoorE
/- The engine, part J2b: tuples are handed on and taken apart; what is one's own is given up, and only read from then on. No condition. -/
namespace Go.Proofs.YtgkgfpbdodafaaaGreatDoorE
theorem Rel.tupMove {w0 : World} {G0 : Gh} {np : Nat} {σ : S} {a : Act} {w : World} {G : Gh} (h : Rel w0 G0 np σ a w G) {i d : Nat} (hd : d < σ.sl.length) (hne : i ≠ d) {vs : List Dat} (hs : σ.slot i = .tup vs) :
    ∃ G', Rel w0 G0 np (σ.newA d (.tup vs) [i]) (a.put (some d) (a.tmps.getD i undef)) w G' ∧ Ft w w G G' (2 * d :: [i].map (2 * ·)) := by
  have hsl := h.slots i
  rw [hs] at hsl
  obtain ⟨arr, e1, e2, e3⟩ := hsl
  let own' := relab G.own [2 * i] [2 * d]
  have hO2 : ∀ b, G.own b = none → own' b = none := fun b hb => relab_none.2 hb
  refine ⟨{ G with own := own' }, h.newA2 hd (own' := own') ⟨Nat.le_refl _, fun b hb _ => ⟨hO2 b hb, rfl⟩, fun b r s hb hr => ⟨relab_off hb (fun ⟨s', e⟩ => ?_), rfl⟩, fun b hb => ⟨relab_nil hb (by simp), rfl⟩⟩ rfl rfl rfl (fun b l hb => ?_) (by simp) (fun σ' tmps => ⟨arr, e1, e2, fun j hj => ?_⟩)⟩
  · simp at e hr
    exact hr.2 e.1
  · obtain ⟨l', hl'⟩ := relab_some hb
    exact h.live b l' hl'
  · obtain ⟨cs, q1, q2⟩ := e3 j hj
    exact ⟨cs, q1, RepO.move (fun b h1 h2 => ⟨hO2 b h1, h2, rfl⟩) q2 (fun b s hb => ⟨by
      have : G.own b = some ([2 * i] ++ (j :: s)) := by simpa using hb
      have := relab_at (q := [2 * d]) this
      simpa [own'] using this, rfl⟩)⟩
def S.extr (σ : S) (i j d : Nat) (vs : List Dat) (D : Dat) : S := ((σ.killA [2 * d, 2 * i]).setSlot i (.tup (vs.set j ⟨D.t, hol D.t D.m, D.x⟩))).setSlot d (.dat D)
theorem S.extr_slot (σ : S) {i j d : Nat} (vs : List Dat) (D : Dat) (hd : d < σ.sl.length) (hi : i < σ.sl.length) (s : Nat) : (σ.extr i j d vs D).slot s = if d = s then .dat D else if i = s then .tup (vs.set j ⟨D.t, hol D.t D.m, D.x⟩) else (σ.slot s).kills [2 * d, 2 * i] := by
  rw [S.extr, S.setSlot_slot, S.setSlot_len, S.killA_len, S.setSlot_slot, S.killA_len, S.killA_slot]
  by_cases e : d = s
  · rw [if_pos ⟨e, hd⟩, if_pos e]
  · rw [if_neg (fun h => e h.1), if_neg e]
    by_cases e2 : i = s
    · rw [if_pos ⟨e2, hi⟩, if_pos e2]
    · rw [if_neg (fun h => e2 h.1), if_neg e2]
theorem Rel.extr {w0 : World} {G0 : Gh} {np : Nat} {σ : S} {a : Act} {w : World} {G : Gh} (h : Rel w0 G0 np σ a w G) {i j d : Nat} (hd : d < σ.sl.length) (hne : i ≠ d) {vs : List Dat} {D : Dat} (hs : σ.slot i = .tup vs) (hD : vs[j]? = some D) :
    ∃ arr G', a.tmps.getD i undef = .tuple arr ∧ j < arr.size ∧ Rel w0 G0 np (σ.extr i j d vs D) (a.put (some d) (arr.getD j undef)) w G' ∧ Ft w w G G' [2 * d, 2 * i] := by
  have hsl := h.slots i
  rw [hs] at hsl
  obtain ⟨arr, e1, e2, e3⟩ := hsl
  obtain ⟨hj, rfl⟩ := List.getElem?_eq_some_iff.1 hD
  have hi : i < σ.sl.length := by
    rcases Nat.lt_or_ge i σ.sl.length with h | h
    · exact h
    · simp only [S.slot, List.getD_eq_getElem?_getD, List.getElem?_eq_none h] at hs; cases hs
  have hda : d < a.tmps.size := by rw [← h.tmps]; exact hd
  let own' := relab G.own [2 * i, j] [2 * d]
  have hO2 : ∀ b, G.own b = none → own' b = none := fun b hb => relab_none.2 hb
  have hslot := S.extr_slot σ (j := j) vs vs[j] hd hi
  refine ⟨arr, { G with own := own' }, e1, by omega, h.step2 [2 * d, 2 * i] (fun _ _ => ⟨rfl, rfl, rfl, rfl⟩) ⟨Nat.le_refl _, fun b hb _ => ⟨hO2 b hb, rfl⟩, fun b r s hb hr => ⟨relab_off hb (fun ⟨s', e⟩ => ?_), rfl⟩, fun b hb => ⟨relab_nil hb (by simp), rfl⟩⟩ rfl rfl rfl (fun b l hb => ?_) (fun _ _ => ⟨rfl, rfl, rfl, rfl⟩) (by simp [S.extr, S.setSlot_len, S.killA_len, Act.put, h.tmps]) h.defers (fun s => ?_) (fun k bx hb => .inl ⟨hb, by simp; omega, rfl, rfl, rfl, rfl⟩) (fun k b d' hk _ => by simp at hk; omega) (fun s k hk => ?_)⟩
  · simp at e hr
    exact hr.2 e.1
  · obtain ⟨l', hl'⟩ := relab_some hb
    exact h.live b l' hl'
  · rw [hslot s]
    by_cases e : d = s
    · subst e
      right
      rw [if_pos rfl, Act.put_getD _ _ _ _ hda, if_pos rfl]
      obtain ⟨cs, q1, q2⟩ := e3 j hj
      exact ⟨⟨cs, q1, RepO.move (fun b h1 h2 => ⟨hO2 b h1, h2, rfl⟩) q2 (fun b s hb => ⟨relab_at hb, rfl⟩)⟩, fun _ => by simp⟩
    · rw [if_neg e]
      by_cases e4 : i = s
      · subst e4
        right
        rw [if_pos rfl, Act.put_getD _ _ _ _ hda, if_neg e]
        refine ⟨⟨arr, e1, by simpa using e2, fun k hk => ?_⟩, fun _ => by simp⟩
        have hk' : k < vs.length := by simpa using hk
        obtain ⟨cs, q1, q2⟩ := e3 k hk'
        generalize hg : (vs.set j ⟨vs[j].t, hol vs[j].t vs[j].m, vs[j].x⟩)[k] = D2
        by_cases ek : j = k
        · subst ek
          have : D2 = ⟨vs[j].t, hol vs[j].t vs[j].m, vs[j].x⟩ := by rw [← hg]; exact List.getElem_set_self _
          subst this
          exact ⟨cs, q1, RepO.hol (fun b h1 h2 => ⟨hO2 b h1, h2, rfl⟩) q2⟩
        · have : D2 = vs[k] := by rw [← hg]; exact List.getElem_set_ne ek _
          subst this
          refine ⟨cs, q1, RepO.move (fun b h1 h2 => ⟨hO2 b h1, h2, rfl⟩) q2 (fun b s hb => ⟨relab_off hb (fun ⟨s', e⟩ => ?_), rfl⟩)⟩
          simp at e
          exact ek e.1.symm
      · rw [if_neg e4]
        left
        refine ⟨⟨?_⟩, by rw [Act.put_getD _ _ _ _ hda, if_neg e]⟩
        rw [hslot s, if_neg e, if_neg e4]
        rcases AV.kills_or [2 * d, 2 * i] (σ.slot s) with k1 | k1
        · exact .inl k1
        · by_cases hn : σ.slot s = .none
          · left; rw [k1, hn]
          · exact .inr ⟨k1, AV.kills_all _ _ k1 hn, fun _ => by simp; omega⟩
  · rw [hslot s] at hk
    by_cases e : d = s
    · rw [if_pos e] at hk; cases hk
    · rw [if_neg e] at hk
      by_cases e4 : i = s
      · rw [if_pos e4] at hk; cases hk
      · rw [if_neg e4] at hk
        exact (h.slots s).hk (AV.kills_hk _ hk)
def S.freeze (σ : S) (i : Nat) : Option S := match σ.slot i with
  | .dat d => if d.m.full = true then some ((σ.killA [2 * i]).setSlot i (.snp d.t d.x [] none)) else none
  | .tup vs => if (vs.all fun D => D.m.full) = true then some ((σ.killA [2 * i]).setSlot i (.tup (vs.map fun D => ⟨D.t, .ro, D.x⟩))) else none
  | _ => none
theorem Rel.freeze {w0 : World} {G0 : Gh} {np : Nat} {σ σ' : S} {a : Act} {w : World} {G : Gh} (h : Rel w0 G0 np σ a w G) {i : Nat} (hf : σ.freeze i = some σ') : ∃ G', Rel w0 G0 np σ' a w G' ∧ Ft w w G G' [2 * i] := by
  unfold S.freeze at hf
  split at hf
  · rename_i d hs
    split at hf
    · rename_i hfull
      obtain ⟨rfl⟩ := hf
      have hsl := h.slots i
      rw [hs] at hsl
      obtain ⟨cs, e1, e2⟩ := hsl
      have hi : i < σ.sl.length := by
        rcases Nat.lt_or_ge i σ.sl.length with h | h
        · exact h
        · simp only [S.slot, List.getD_eq_getElem?_getD, List.getElem?_eq_none h] at hs; cases hs
      let own' := unlab G.own [2 * i]
      have hO2 : ∀ b, G.own b = none → own' b = none := fun b hb => unlab_none hb
      have hslot : ∀ s, ((σ.killA [2 * i]).setSlot i (.snp d.t d.x [] none)).slot s = if i = s then .snp d.t d.x [] none else (σ.slot s).kills [2 * i] := fun s => by
        rw [S.setSlot_slot, S.killA_len, S.killA_slot]
        by_cases e : i = s
        · rw [if_pos ⟨e, hi⟩, if_pos e]
        · rw [if_neg (fun h => e h.1), if_neg e]
      refine ⟨{ G with own := own' }, h.step2 [2 * i] (fun _ _ => ⟨rfl, rfl, rfl, rfl⟩) ⟨Nat.le_refl _, fun b hb _ => ⟨hO2 b hb, rfl⟩, fun b r s hb hr => ⟨unlab_off hb (fun ⟨s', e⟩ => ?_), rfl⟩, fun b hb => ⟨unlab_nil hb (by simp), rfl⟩⟩ rfl rfl rfl (fun b l hb => h.live b l (unlab_some hb)) (fun _ _ => ⟨rfl, rfl, rfl, rfl⟩) (by rw [S.setSlot_len, S.killA_len]; exact h.tmps) h.defers (fun s => ?_) (fun k bx hb => .inl ⟨hb, by simp; omega, rfl, rfl, rfl, rfl⟩) (fun k b d' hk _ => by simp at hk; omega) (fun s k hk => ?_)⟩
      · simp at e hr
        exact hr e.1
      · rw [hslot s]
        by_cases e : i = s
        · subst e
          right
          rw [if_pos rfl]
          refine ⟨⟨cs, e1, ?_, fun p hp => by cases hp⟩, fun hh => by cases hh⟩
          refine RepO.view (w := w) (own := G.own) (p := [2 * i]) (fun b h1 h2 => ⟨h2, .inl (hO2 b h1)⟩) hfull e2 (fun b ⟨s, hb⟩ hlt => ⟨hlt, .inl (unlab_at hb)⟩)
        · rw [if_neg e]
          left
          refine ⟨⟨?_⟩, rfl⟩
          rw [hslot s, if_neg e]
          rcases AV.kills_or [2 * i] (σ.slot s) with k1 | k1
          · exact .inl k1
          · by_cases hn : σ.slot s = .none
            · left; rw [k1, hn]
            · exact .inr ⟨k1, AV.kills_all _ _ k1 hn, fun _ => by simp; omega⟩
      · rw [hslot s] at hk
        by_cases e : i = s
        · rw [if_pos e] at hk; cases hk
        · rw [if_neg e] at hk
          exact (h.slots s).hk (AV.kills_hk _ hk)
    · cases hf
  · rename_i vs hs
    split at hf
    · rename_i hfull
      obtain ⟨rfl⟩ := hf
      have hsl := h.slots i
      rw [hs] at hsl
      obtain ⟨arr, e1, e2, e3⟩ := hsl
      have hi : i < σ.sl.length := by
        rcases Nat.lt_or_ge i σ.sl.length with h | h
        · exact h
        · simp only [S.slot, List.getD_eq_getElem?_getD, List.getElem?_eq_none h] at hs; cases hs
      let own' := unlab G.own [2 * i]
      have hO2 : ∀ b, G.own b = none → own' b = none := fun b hb => unlab_none hb
      have hslot : ∀ s, ((σ.killA [2 * i]).setSlot i (.tup (vs.map fun D => (⟨D.t, .ro, D.x⟩ : Dat)))).slot s = if i = s then .tup (vs.map fun D => (⟨D.t, .ro, D.x⟩ : Dat)) else (σ.slot s).kills [2 * i] := fun s => by
        rw [S.setSlot_slot, S.killA_len, S.killA_slot]
        by_cases e : i = s
        · rw [if_pos ⟨e, hi⟩, if_pos e]
        · rw [if_neg (fun h => e h.1), if_neg e]
      refine ⟨{ G with own := own' }, h.step2 [2 * i] (fun _ _ => ⟨rfl, rfl, rfl, rfl⟩) ⟨Nat.le_refl _, fun b hb _ => ⟨hO2 b hb, rfl⟩, fun b r s hb hr => ⟨unlab_off hb (fun ⟨s', e⟩ => ?_), rfl⟩, fun b hb => ⟨unlab_nil hb (by simp), rfl⟩⟩ rfl rfl rfl (fun b l hb => h.live b l (unlab_some hb)) (fun _ _ => ⟨rfl, rfl, rfl, rfl⟩) (by rw [S.setSlot_len, S.killA_len]; exact h.tmps) h.defers (fun s => ?_) (fun k bx hb => .inl ⟨hb, by simp; omega, rfl, rfl, rfl, rfl⟩) (fun k b d' hk _ => by simp at hk; omega) (fun s k hk => ?_)⟩
      · simp at e hr
        exact hr e.1
      · rw [hslot s]
        by_cases e : i = s
        · subst e
          right
          rw [if_pos rfl]
          refine ⟨⟨arr, e1, by rw [List.length_map]; exact e2, fun j hj => ?_⟩, fun _ => by simp⟩
          rw [List.length_map] at hj
          obtain ⟨cs, g1, g2⟩ := e3 j hj
          rw [List.getElem_map]
          refine ⟨cs, g1, RepO.ofV (RepO.view (w := w) (own := G.own) (p := [2 * i, j]) (fun b h1 h2 => ⟨hO2 b h1, h2⟩) (List.all_eq_true.1 hfull _ (List.getElem_mem hj)) g2 (fun b ⟨s, hb⟩ hlt => ⟨unlab_at (s := j :: s) (by simpa using hb), hlt⟩))⟩
        · rw [if_neg e]
          left
          refine ⟨⟨?_⟩, rfl⟩
          rw [hslot s, if_neg e]
          rcases AV.kills_or [2 * i] (σ.slot s) with k1 | k1
          · exact .inl k1
          · by_cases hn : σ.slot s = .none
            · left; rw [k1, hn]
            · exact .inr ⟨k1, AV.kills_all _ _ k1 hn, fun _ => by simp; omega⟩
      · rw [hslot s] at hk
        by_cases e : i = s
        · rw [if_pos e] at hk; cases hk
        · rw [if_neg e] at hk
          exact (h.slots s).hk (AV.kills_hk _ hk)
    · cases hf
  · cases hf
end Go.Proofs.YtgkgfpbdodafaaaGreatDoorE
/- The engine, part J2c: what is one's own is given up in part; a part of an own list; a box that holds a copy of what is handed over; a struct that is built of what is taken. No condition. -/
namespace Go.Proofs.YtgkgfpbdodafaaaGreatDoorE
def fzn : Ty → Md → Md → Lab → Bool
  | .list _ _, .own _, .ro, _ => true
  | .list _ t, .own m, .own m', _ :: s => fzn t m m' s
  | .pair a _, m, m', 0 :: s => fzn a m.fst m'.fst s
  | .pair _ b, m, m', 1 :: s => fzn b m.snd m'.snd s
  | _, _, _, _ => false
def wk : Ty → Md → Md → Bool
  | .list _ t, .own m, .own m' => wk t m m'
  | .list _ _, .own m, .ro => m.full
  | .list _ _, .ro, .ro => true
  | .list _ _, .hole, .hole => true
  | .list _ _, _, _ => false
  | .pair a b, m, m' => wk a m.fst m'.fst && wk b m.snd m'.snd
  | _, _, _ => true
theorem RepO.wk {w : World} {own own' : Own} (h2 : ∀ b, own b = none → b < w.heap.size → own' b = none) :
    ∀ {t : Ty} {m m' : Md} {p : Lab} {cs : List Value} {x : t.D}, wk t m m' = true → RepO w own t m p cs x →
    (∀ b s, own b = some (p ++ s) → (fzn t m m' s = true → own' b = none) ∧ (fzn t m m' s = false → own' b = some (p ++ s))) → RepO w own' t m' p cs x
  | .int _, _, _, _, _, _, _, h, _ => h
  | .bool, _, _, _, _, _, _, h, _ => h
  | .str, _, _, _, _, _, _, h, _ => h
  | .list e t, .own m, .own m', p, _, _, hw, h, h1 => by
    obtain ⟨A, c, rfl, hl, hr⟩ := h
    refine ⟨A, c, rfl, hl, ?_⟩
    rcases hr with hr | ⟨b, o, arr, rfl, ho, hh, hs, hi⟩
    · exact .inl hr
    · have hb := (h1 b [] (by simpa using ho)).2 (by simp [fzn])
      refine .inr ⟨b, o, arr, rfl, by simpa using hb, hh, hs, fun i h => ?_⟩
      obtain ⟨ci, hc1, hc2⟩ := hi i h
      refine ⟨ci, RepO.wk h2 (by simpa [Go.Proofs.YtgkgfpbdodafaaaGreatDoorE.wk] using hw) hc1 (fun b s hb => ?_), hc2⟩
      have := h1 b (i :: s) (by simpa using hb)
      simpa [fzn] using this
  | .list e t, .own m, .ro, p, _, _, hw, h, h1 =>
    RepO.view (w := w) (own := own) (p := p) (m := .own m) (fun b hb hlt => ⟨h2 b hb hlt, hlt⟩) (by simpa [Md.full, Go.Proofs.YtgkgfpbdodafaaaGreatDoorE.wk] using hw) h (fun b ⟨s, hb⟩ hlt => ⟨(h1 b s hb).1 (by simp [fzn]), hlt⟩)
  | .list _ _, .ro, .ro, _, _, _, _, h, _ => RepV.mono (fun b hb => ⟨⟨h2 b hb.1 hb.2, hb.2⟩, rfl⟩) h
  | .list _ _, .hole, .hole, _, _, _, _, h, _ => h
  | .list _ _, .own _, .hole, _, _, _, hw, _, _ => by simp [Go.Proofs.YtgkgfpbdodafaaaGreatDoorE.wk] at hw
  | .list _ _, .own _, .pr _ _, _, _, _, hw, _, _ => by simp [Go.Proofs.YtgkgfpbdodafaaaGreatDoorE.wk] at hw
  | .list _ _, .ro, .own _, _, _, _, hw, _, _ => by simp [Go.Proofs.YtgkgfpbdodafaaaGreatDoorE.wk] at hw
  | .list _ _, .ro, .hole, _, _, _, hw, _, _ => by simp [Go.Proofs.YtgkgfpbdodafaaaGreatDoorE.wk] at hw
  | .list _ _, .ro, .pr _ _, _, _, _, hw, _, _ => by simp [Go.Proofs.YtgkgfpbdodafaaaGreatDoorE.wk] at hw
  | .list _ _, .hole, .own _, _, _, _, hw, _, _ => by simp [Go.Proofs.YtgkgfpbdodafaaaGreatDoorE.wk] at hw
  | .list _ _, .hole, .ro, _, _, _, hw, _, _ => by simp [Go.Proofs.YtgkgfpbdodafaaaGreatDoorE.wk] at hw
  | .list _ _, .hole, .pr _ _, _, _, _, hw, _, _ => by simp [Go.Proofs.YtgkgfpbdodafaaaGreatDoorE.wk] at hw
  | .list _ _, .pr _ _, _, _, _, _, hw, _, _ => by simp [Go.Proofs.YtgkgfpbdodafaaaGreatDoorE.wk] at hw
  | .pair a b, m, m', p, _, _, hw, h, h1 => by
    simp only [Go.Proofs.YtgkgfpbdodafaaaGreatDoorE.wk, Bool.and_eq_true] at hw
    obtain ⟨c1, c2, rfl, ha, hb⟩ := h
    refine ⟨c1, c2, rfl, RepO.wk h2 hw.1 ha (fun b s hb => ?_), RepO.wk h2 hw.2 hb (fun b s hb => ?_)⟩
    · have := h1 b (0 :: s) (by simpa using hb)
      simpa [fzn] using this
    · have := h1 b (1 :: s) (by simpa using hb)
      simpa [fzn] using this
def frzO (own : Own) (t : Ty) (m m' : Md) (p : Lab) : Own := fun b => match own b with
  | some l => match strip p l with
    | some s => if fzn t m m' s = true then none else some l
    | none => some l
  | none => none
theorem frzO_at {own : Own} {t : Ty} {m m' : Md} {p s : Lab} {b : Nat} (h : own b = some (p ++ s)) : (fzn t m m' s = true → frzO own t m m' p b = none) ∧ (fzn t m m' s = false → frzO own t m m' p b = some (p ++ s)) := by
  unfold frzO
  rw [h]
  simp only
  rw [strip_some.2 rfl]
  refine ⟨fun hf => ?_, fun hf => ?_⟩ <;> simp [hf]
theorem frzO_off {own : Own} {t : Ty} {m m' : Md} {p l : Lab} {b : Nat} (h : own b = some l) (hl : ¬ Lab.le p l) : frzO own t m m' p b = some l := by
  unfold frzO
  rw [h]
  simp only
  cases hs : strip p l with
  | none => rfl
  | some s => exact absurd ⟨s, strip_some.1 hs⟩ hl
theorem frzO_some {own : Own} {t : Ty} {m m' : Md} {p l : Lab} {b : Nat} (h : frzO own t m m' p b = some l) : own b = some l := by
  unfold frzO at h
  cases ho : own b with
  | none => rw [ho] at h; cases h
  | some l' =>
    rw [ho] at h
    simp only at h
    split at h
    · split at h
      · cases h
      · exact h
    · exact h
theorem frzO_none {own : Own} {t : Ty} {m m' : Md} {p : Lab} {b : Nat} (h : own b = none) : frzO own t m m' p b = none := by
  unfold frzO; rw [h]
def S.weak (σ : S) (r : Nat) (m' : Md) : Option S := match σ.rt r with
  | some d => if wk d.t d.m m' = true then some ((σ.killA [r]).setRoot r ⟨d.t, m', d.x⟩) else none
  | none => none
theorem Rel.weak' {w0 : World} {G0 : Gh} {np : Nat} {σ σ' : S} {a : Act} {w : World} {G : Gh} (h : Rel w0 G0 np σ a w G) {r : Nat} {m' : Md} (hg : σ.weak r m' = some σ') : ∃ G', Rel w0 G0 np σ' a w G' ∧ Ft w w G G' [r] := by
  unfold S.weak at hg
  split at hg
  case h_2 => cases hg
  rename_i d hd
  split at hg
  case isFalse => cases hg
  rename_i hwk
  obtain ⟨rfl⟩ := hg
  obtain ⟨L, cr, hroot⟩ := h.rt hd
  have hR := h.root hroot
  let own' := frzO G.own d.t d.m m' (rootLab r)
  have hO2 : ∀ b, G.own b = none → own' b = none := fun b hb => frzO_none hb
  have hroot' : RepO w own' d.t m' (rootLab r) cr d.x := RepO.wk (fun b hb _ => hO2 b hb) hwk hR.1 (fun b s hb => frzO_at hb)
  have hkrt : ((σ.killA [r])).rt r = some d := by
    unfold S.rt at hd ⊢
    split
    · rename_i he
      rw [if_pos he] at hd
      rw [S.killA_slot]
      cases hsp : σ.slot (r / 2) <;> rw [hsp] at hd <;> simp at hd
      rw [AV.kills_dat _ rfl]; simp [hd]
    · rename_i he
      rw [if_neg he] at hd
      exact hd
  have hslot : ∀ j, ((σ.killA [r]).setRoot r ⟨d.t, m', d.x⟩).slot j = if r = 2 * j then .dat ⟨d.t, m', d.x⟩ else (σ.slot j).kills [r] := by
    intro j
    rw [S.setRoot_slot _ hkrt, S.killA_slot]
  have hbox : ∀ k, ((σ.killA [r]).setRoot r ⟨d.t, m', d.x⟩).box k = if r = 2 * k + 1 then (σ.box k).map (fun q => (q.1, ⟨d.t, m', d.x⟩)) else σ.box k := by
    intro k
    rw [S.setRoot_box _ hkrt]; rfl
  refine ⟨{ G with own := own' }, h.step2 [r] (fun _ _ => ⟨rfl, rfl, rfl, rfl⟩) ⟨Nat.le_refl _, fun b hb _ => ⟨hO2 b hb, rfl⟩, fun b r' s hb hr => ⟨frzO_off hb ?_, rfl⟩, fun b hb => ⟨frzO_off hb (fun ⟨s', hs'⟩ => by
    obtain ⟨s0, e0⟩ := rootLab_cons r
    rw [e0] at hs'; simp at hs'), rfl⟩⟩ rfl rfl rfl ?_ (fun _ _ => ⟨rfl, rfl, rfl, rfl⟩) ?_ h.defers (fun j => ?_) (fun k bx hb => ?_) (fun k b d1 hk hb => ?_) (fun j k hj => ?_)⟩
  · rintro ⟨s', hs'⟩
    obtain ⟨s0, e0⟩ := rootLab_cons r
    rw [e0] at hs'
    simp at hs'
    simp [hs'.1] at hr
  · intro b l hb
    exact h.live b l (frzO_some hb)
  · rw [S.setRoot_len, S.killA_len]; exact h.tmps
  · rw [hslot j]
    by_cases e2 : r = 2 * j
    · right
      rw [if_pos e2]
      refine ⟨?_, fun _ => by simp [e2]⟩
      obtain ⟨_, _, hv'⟩ := hroot.slot_inv e2
      refine ⟨cr, hv', ?_⟩
      rw [rootLab, if_pos (by omega), e2] at hroot'
      exact hroot'
    · left
      refine ⟨⟨?_⟩, rfl⟩
      rw [hslot j, if_neg e2]
      rcases AV.kills_or [r] (σ.slot j) with k1 | k1
      · exact .inl k1
      · by_cases hn : σ.slot j = .none
        · left; rw [k1, hn]
        · exact .inr ⟨k1, AV.kills_all _ _ k1 hn, fun _ => by simp; exact fun h => e2 h.symm⟩
  · rw [hbox k] at hb
    by_cases e : r = 2 * k + 1
    · rw [if_pos e] at hb
      right
      refine ⟨?_, by simp [e]⟩
      obtain ⟨q, hq, rfl⟩ := Option.map_eq_some_iff.1 hb
      obtain ⟨bb, dq⟩ := q
      have hB := h.boxes k _ hq
      have e0 : rootLab r = [2 * k + 1, 0] := by rw [rootLab, if_neg (by omega), e]
      rw [e0] at hroot'
      rcases hroot.box_inv e with ⟨hb', hL', hl', hc'⟩ | ⟨hb', hL', hc'⟩
      · rw [hq] at hb'
        simp only [Option.some.injEq, Prod.mk.injEq] at hb'
        obtain ⟨rfl, rfl⟩ := hb'
        obtain ⟨arr, q1, q2, q3, q4, q5, csb, q6, q7⟩ := hB
        refine ⟨arr, q1, ?_, q3, q4, q5, cr, hroot', fun j hj => ?_⟩
        · exact frzO_off q2 (fun hle => by
            have := Lab.le_len hle
            rw [e0] at this
            simp at this)
        · have := hc' j hj
          rwa [cell_of_heap q1] at this
      · rw [hq] at hb'
        simp only [Option.some.injEq, Prod.mk.injEq] at hb'
        obtain ⟨rfl, rfl⟩ := hb'
        obtain ⟨q1, q2⟩ := hB
        rw [hc'] at hroot'
        exact ⟨q1, hroot'⟩
    · rw [if_neg e] at hb
      left
      exact ⟨hb, by simp; exact fun h => e h.symm, rfl, rfl, rfl, rfl⟩
  · have hk' : r = 2 * k + 1 := by simp at hk; omega
    rw [hbox k, if_pos hk'] at hb
    obtain ⟨q, hq, hq2⟩ := Option.map_eq_some_iff.1 hb
    obtain ⟨bb, dq⟩ := q
    simp only [Prod.mk.injEq] at hq2
    obtain ⟨rfl, rfl⟩ := hq2
    left
    refine ⟨dq, hq, ?_, rfl, rfl⟩
    have : σ.rt (2 * k + 1) = some dq := by
      have e1 : (2 * k + 1) / 2 = k := by omega
      have e2 : ¬ (2 * k + 1) % 2 = 0 := by omega
      simp only [S.rt, if_neg e2, e1, hq, Option.map_some]
    rw [hk', this] at hd
    rw [Option.some.inj hd]
  · rw [hslot j] at hj
    by_cases e2 : r = 2 * j
    · rw [if_pos e2] at hj; cases hj
    · rw [if_neg e2] at hj
      obtain ⟨dk, hdk⟩ := (h.slots j).hk (AV.kills_hk _ hj)
      rw [hbox k, hdk]
      by_cases e3 : r = 2 * k + 1
      · rw [if_pos e3]; exact ⟨_, rfl⟩
      · rw [if_neg e3]; exact ⟨_, rfl⟩
theorem Addr.add_plain (b o n : Nat) : ((⟨b, o, none⟩ : Addr).add n) = ⟨b, o + n, none⟩ := by
  simp only [Addr.add]; split
  · subst_vars; simp
  · rfl
theorem Rel.cutO {w0 : World} {G0 : Gh} {np : Nat} {σ : S} {a : Act} {w : World} {G : Gh} (h : Rel w0 G0 np σ a w G) {i d : Nat} (hd : d < σ.sl.length) {e : Nat} {t : Ty} {xs : List t.D} (hs : σ.slot i = .dat ⟨.list e t, .own .ro, xs⟩) :
    ∃ A c, a.tmps.getD i undef = .slice A (List.length xs) c ∧ List.length xs ≤ c ∧ ∀ (l r : Int), 0 ≤ l → l ≤ r → r ≤ (List.length xs : Int) →
      ∃ G', Rel w0 G0 np (σ.newA d (.dat ⟨.list e t, .own .ro, lsub xs l r⟩) [i]) (a.put (some d) (sliced A l.toNat r.toNat c t.sz)) w G' ∧ Ft w w G G' (2 * d :: [i].map (2 * ·)) := by
  have hsl := h.slots i
  rw [hs] at hsl
  obtain ⟨cs, hval, hR⟩ := hsl
  have hval' : cs = [a.tmps.getD i undef] := hval
  subst hval'
  obtain ⟨A, c, e1, hle, hrow⟩ := hR
  obtain ⟨e2⟩ := List.cons.inj e1
  have hle : List.length xs ≤ c := hle
  refine ⟨A, c, e2, hle, fun l r h0 h1 h2 => ?_⟩
  let own' := relab G.own [2 * i] [2 * d]
  have hO2 : ∀ b, G.own b = none → own' b = none := fun b hb => relab_none.2 hb
  have hlen : List.length (lsub xs l r) = r.toNat - l.toNat := by simp only [lsub, List.length_take, List.length_drop]; omega
  refine ⟨{ G with own := own' }, h.newA2 hd (own' := own') ⟨Nat.le_refl _, fun b hb _ => ⟨hO2 b hb, rfl⟩, fun b r s hb hr => ⟨relab_off hb (fun ⟨s', e⟩ => ?_), rfl⟩, fun b hb => ⟨relab_nil hb (by simp), rfl⟩⟩ rfl rfl rfl (fun b l hb => ?_) (by simp) (fun σ' tmps => ⟨[_], rfl, ?_⟩)⟩
  · simp at e hr
    exact hr.2 e.1
  · obtain ⟨l', hl'⟩ := relab_some hb
    exact h.live b l' hl'
  · refine ⟨(if c = l.toNat then A else A.map (·.add (l.toNat * t.sz))), c - l.toNat, by rw [hlen]; rfl, by rw [hlen]; omega, ?_⟩
    rcases hrow with ⟨rfl, rfl⟩ | ⟨b, o, arr, rfl, ho, hh, hsz, hi⟩
    · left
      have : l.toNat = 0 := by omega
      simp [this]
    · right
      have ho' : own' b = some [2 * d] := by
        have := relab_at (p := [2 * i]) (q := [2 * d]) (s := []) (by simpa using ho)
        simpa [own'] using this
      by_cases hcl : c = l.toNat
      · refine ⟨b, o, arr, by rw [if_pos hcl], ho', hh, by rw [hcl]; simp; rw [hcl] at hsz; omega, fun j hj => ?_⟩
        rw [hlen] at hj; omega
      · refine ⟨b, o + l.toNat * t.sz, arr, by rw [if_neg hcl, Option.map_some, Addr.add_plain], ho', hh, ?_, fun j hj => ?_⟩
        · have : (c - l.toNat) * t.sz + l.toNat * t.sz = c * t.sz := by rw [← Nat.add_mul]; congr 1; omega
          omega
        · rw [hlen] at hj
          have hlj : l.toNat + j < List.length xs := by omega
          obtain ⟨ci, g1, g2⟩ := hi (l.toNat + j) hlj
          refine ⟨ci, ?_, fun k hk => ?_⟩
          · have : List.get (lsub xs l r) ⟨j, by rw [hlen]; exact hj⟩ = List.get xs ⟨l.toNat + j, by omega⟩ := by
              simp [lsub]
            rw [this]
            have gV := RepO.noOwn rfl g1
            exact RepO.ofV (RepV.mono (fun b hb => ⟨⟨hO2 b (by
              rcases hb.2 with h1 | ⟨r, hr, _⟩
              · exact h1
              · cases hr), hb.1⟩, rfl⟩) gV)
          · have := g2 k hk
            rw [← this, Nat.add_mul]
            congr 1; omega
theorem run_cut {P : Program} {τ : List TE} (hτ : TabOk P τ) {T : Nat} {te : TE} (he : tat τ T = some te) {e : Nat} {t : Ty} (ht : te.t = .list e t) {A : Option Addr} {n cp : Nat} (hle : n ≤ cp) {w : World}
    {lo hi : Option Value} {l r : Int} (hlo : (lo = none ∧ l = 0) ∨ ∃ k, lo = some (.int k l)) (hhi : (hi = none ∧ r = (n : Int)) ∨ ∃ k, hi = some (.int k r)) (h0 : 0 ≤ l) (h1 : l ≤ r) (h2 : r ≤ (n : Int)) :
    (Instr.sliceAt T (.slice A n cp) lo hi none).run P w = .ok (sliced A l.toNat r.toNat cp t.sz) w := by
  obtain ⟨hu, tel, htel, hte⟩ := hτ.slice he ht
  have hue : P.elem T = e := by simp [Program.elem, hu]
  have hsl : P.underlying T = some (.slice (P.elem T)) := by rw [hue]; exact hu
  have hs := hτ.size htel w
  rw [hte] at hs
  rw [run_sliceAt_slice w T _ _ _ _ hsl]
  rcases hlo with ⟨rfl, rfl⟩ | ⟨k, rfl⟩ <;> rcases hhi with ⟨rfl, rfl⟩ | ⟨k', rfl⟩
  · rw [run_slice_all w T A _ cp hsl, hue, hs]; rfl
  · rw [run_slice_h w T A _ cp hsl k' r (by omega) (by omega), hue, hs]; rfl
  · rw [run_slice_l w T A _ cp hsl k l h0 h1, hue, hs]; rfl
  · rw [run_slice_lh w T A _ cp hsl k k' l r h0 h1 (by omega), hue, hs]; rfl
theorem Rel.view {w0 : World} {G0 : Gh} {np : Nat} {σ : S} {a : Act} {w : World} {G : Gh} (h : Rel w0 G0 np σ a w G) {d k : Nat} (hd : d < σ.sl.length) {D : Dat} (hb : σ.box k = some (false, D)) (T : Nat) :
    ∃ G', Rel w0 G0 np (σ.newA d (.vw k []) []) (a.put (some d) (.pointer (some ⟨w.heap.size, 0, none⟩))) (w.alloc (.cells (G.hv k).2.toArray T)) G' ∧ Ft w (w.alloc (.cells (G.hv k).2.toArray T)) G G' [2 * d] := by
  have hheap : ∀ b, b < w.heap.size → (w.alloc (.cells (G.hv k).2.toArray T)).heap[b]? = w.heap[b]? := fun b hb => World.heap_alloc_old w _ hb
  have hc : Chg w (w.alloc (.cells (G.hv k).2.toArray T)) G.own G.own (2 * d :: ([] : List Nat).map (2 * ·)) := ⟨by rw [World.size_alloc]; omega, fun b hb hlt => ⟨hb, hheap b hlt⟩, fun b r s hb _ => ⟨hb, hheap b (h.live b _ hb)⟩, fun b hb => ⟨hb, hheap b (h.live b _ hb)⟩⟩
  refine ⟨{ G with own := G.own }, ?_, ⟨hc, rfl, rfl, rfl, fun _ _ => ⟨rfl, rfl, rfl, rfl⟩⟩⟩
  refine h.newA3 hd (own' := G.own) hc rfl rfl rfl (fun b l hb => by have := h.live b l hb; rw [World.size_alloc]; omega) (fun k' hk => ?_) (fun σ' tmps hbx => ?_)
  · simp only [AV.hk, Option.some.injEq] at hk
    subst hk
    exact ⟨D, hb⟩
  · refine ⟨⟨⟨w.heap.size, 0, none⟩, (G.hv k).2, rfl, rfl, h.chead _ (Nat.le_refl _), by rw [World.size_alloc]; exact Nat.lt_succ_self _, rfl, fun j hj => ?_⟩, D, by rw [hbx]; exact hb⟩
    rw [cell_of_heap (World.heap_alloc_new w _)]
    simp [hj]
def S.partT (σ : S) (parts : List (Nat × Operand)) (j : Nat) (t : Ty) (m : Md) (p : Lab) : Option (Md × t.D × List (Nat × Lab)) := match parts.find? (·.1 == j) with
  | none => some (m, t.zero, [])
  | some (_, o) => match σ.take t m o with
    | some (m', x, ms) => some (m', x, ms.map fun i => (i, p))
    | none => none
def S.buildT (σ : S) (parts : List (Nat × Operand)) : (n j : Nat) → (t : Ty) → Md → Lab → Option (Md × t.D × List (Nat × Lab))
  | 0, _, _, _, _ => none
  | 1, j, t, m, p => σ.partT parts j t m p
  | n + 2, j, .pair a b, m, p => match σ.partT parts j a m.fst (p ++ [0]), S.buildT σ parts (n + 1) (j + 1) b m.snd (p ++ [1]) with
    | some (m1, x, l1), some (m2, y, l2) => some (.mk2 m1 m2, (x, y), l1 ++ l2)
    | _, _ => none
  | _ + 2, _, _, _, _ => none
def Built (w : World) (own : Own) (t : Ty) (m : Md) (p : Lab) (cs : List Value) (x : t.D) (l : List (Nat × Lab)) : Prop := ∀ (w' : World) (own' : Own), (∀ b, own b = none → b < w.heap.size → own' b = none ∧ b < w'.heap.size ∧ w'.heap[b]? = w.heap[b]?) →
    (∀ q ∈ l, ∀ b s, own b = some (2 * q.1 :: s) → own' b = some (q.2 ++ s) ∧ w'.heap[b]? = w.heap[b]?) → RepO w' own' t m p cs x
section
variable {w0 : World} {G0 : Gh} {np : Nat} {σ : S} {a : Act} {w : World} {G : Gh} (h : Rel w0 G0 np σ a w G)
include h
theorem partT_ok {parts : List (Nat × Operand)} {j : Nat} {t : Ty} {m m' : Md} {p : Lab} {x : t.D} {l : List (Nat × Lab)} (hp : σ.partT parts j t m p = some (m', x, l)) :
    (partC a.eval parts t j).length = t.sz ∧ (∀ q ∈ l, Lab.le p q.2) ∧ Built w G.own t m' p (partC a.eval parts t j) x l := by
  unfold S.partT at hp
  unfold partC
  split at hp
  · rename_i hf
    simp only [Option.some.injEq, Prod.mk.injEq] at hp
    obtain ⟨rfl, rfl, rfl⟩ := hp
    simp only [hf]
    exact ⟨Ty.zc_len t, (by simp), fun w' own' _ _ => RepO.zero t _ _⟩
  · rename_i o hf
    simp only [hf]
    split at hp
    · rename_i m2 x2 ms htk
      simp only [Option.some.injEq, Prod.mk.injEq] at hp
      obtain ⟨rfl, rfl, rfl⟩ := hp
      obtain ⟨_, cs, hval, hT⟩ := h.take htk
      rw [hval.cells hT.2.1]
      refine ⟨hT.1, fun q hq => ?_, fun w' own' hn hm => hT.2.2 p w' own' hn (fun i hi b s hb => ?_)⟩
      · obtain ⟨i, _, rfl⟩ := List.mem_map.1 hq
        exact Lab.le_refl p
      · exact hm (i, p) (List.mem_map.2 ⟨i, hi, rfl⟩) b s hb
    · cases hp
theorem buildT_ok {parts : List (Nat × Operand)} : ∀ (n j : Nat) {t : Ty} {m m' : Md} {p : Lab} {x : t.D} {l : List (Nat × Lab)}, σ.buildT parts n j t m p = some (m', x, l) →
    ∃ css : List (List Value), css.length = n ∧ (∀ i, i < n → ∃ ti, (comps n t)[i]? = some ti ∧ css[i]? = some (partC a.eval parts ti (j + i)) ∧ (partC a.eval parts ti (j + i)).length = ti.sz) ∧ (∀ q ∈ l, Lab.le p q.2) ∧ Built w G.own t m' p css.flatten x l
  | 0, _, _, _, _, _, _, _, hb => by simp [S.buildT] at hb
  | 1, j, t, m, m', p, x, l, hb => by
    simp only [S.buildT] at hb
    obtain ⟨e1, e2, e3⟩ := partT_ok h hb
    refine ⟨[partC a.eval parts t j], rfl, fun i hi => ?_, e2, by simpa using e3⟩
    have : i = 0 := by omega
    subst this
    exact ⟨t, rfl, rfl, e1⟩
  | n + 2, j, t, m, m', p, x, l, hb => by
    cases t <;> simp only [S.buildT, reduceCtorEq] at hb
    rename_i ta tb
    split at hb
    · rename_i m1 x1 l1 m2 y1 l2 h1 h2
      simp only [Option.some.injEq, Prod.mk.injEq] at hb
      obtain ⟨rfl, rfl, rfl⟩ := hb
      obtain ⟨e1, e2, e3⟩ := partT_ok h h1
      obtain ⟨css, f1, f2, f3, f4⟩ := buildT_ok (n + 1) (j + 1) h2
      refine ⟨partC a.eval parts ta j :: css, by simp [f1], fun i hi => ?_, fun q hq => ?_, fun w' own' hn hm => ?_⟩
      · cases i with
        | zero => exact ⟨ta, rfl, rfl, e1⟩
        | succ i =>
          obtain ⟨ti, g1, g2, g3⟩ := f2 i (by omega)
          refine ⟨ti, by simpa [comps] using g1, ?_, ?_⟩
          · rw [List.getElem?_cons_succ, g2]; congr 2; omega
          · rw [show j + (i + 1) = j + 1 + i by omega]; exact g3
      · rcases List.mem_append.1 hq with hq | hq
        · exact Lab.le_trans (Lab.le_app p [0]) (e2 q hq)
        · exact Lab.le_trans (Lab.le_app p [1]) (f3 q hq)
      · exact RepO.mk2 (e3 w' own' hn (fun q hq => hm q (List.mem_append_left _ hq))) (f4 w' own' hn (fun q hq => hm q (List.mem_append_right _ hq)))
    · cases hb
theorem buildO_ok {P : Program} {τ : List TE} (hτ : TabOk P τ) {d : Nat} (hd : d < σ.sl.length) {T : Nat} {te : TE} (he : tat τ T = some te) {parts : Array (Nat × Operand)} {m m' : Md} {x : te.t.D} {l : List (Nat × Lab)}
    (hb : σ.buildT parts.toList te.k 0 te.t m [2 * d] = some (m', x, l)) (hn : (parts.toList.map (·.1)).Nodup) (hk : parts.toList.all (·.1 < te.k) = true) (hln : (l.map (·.1)).Nodup) (hdl : d ∉ l.map (·.1)) :
    ∃ cs G', (Instr.build T (parts.map fun (i, x) => (i, a.eval x))).run P w = .ok (.agg cs) w ∧ Rel w0 G0 np (σ.newA d (.dat ⟨te.t, m', x⟩) (l.map (·.1))) (a.put (some d) (.agg cs)) w G' ∧ Ft w w G G' (2 * d :: (l.map (·.1)).map (2 * ·)) := by
  obtain ⟨css, c1, c2, c3, c4⟩ := buildT_ok h te.k 0 hb
  have hpos : 0 < te.k := by
    rcases Nat.eq_zero_or_pos te.k with h0 | h0
    · rw [h0] at hb; simp [S.buildT] at hb
    · exact h0
  obtain ⟨hrun, hisP⟩ := build_run hτ (a := a) (w := w) he c1 c2 hpos hn hk
  let own' := relabs G.own l
  have hhead : ∀ p ∈ l, ∃ r s0, p.2 = r :: s0 ∧ ∀ p' ∈ l, r ≠ 2 * p'.1 := by
    intro p hp
    obtain ⟨s, hs⟩ := c3 p hp
    refine ⟨2 * d, s, by simpa using hs, fun p' hp' e => hdl ?_⟩
    have : d = p'.1 := by omega
    rw [this]
    exact List.mem_map.2 ⟨p', hp', rfl⟩
  refine ⟨css.flatten.toArray, { G with own := own' }, hrun, h.newA2 hd (own' := own') ⟨Nat.le_refl _, fun b hb hlt => ⟨(relabs_none _).2 hb, rfl⟩, fun b r s hb hr => ⟨relabs_off _ hb (fun p hp e => hr ?_), rfl⟩, fun b hb => ⟨relabs_nil _ hb, rfl⟩⟩ rfl rfl rfl (fun b l' hb => ?_) (by simp) (fun σ' tmps => ⟨css.flatten, ?_, ?_⟩)⟩
  · rw [e]
    exact List.mem_cons_of_mem _ (List.mem_map.2 ⟨p.1, List.mem_map.2 ⟨p, hp, rfl⟩, rfl⟩)
  · obtain ⟨l2, hl2⟩ := relabs_some hb
    exact h.live b l2 hl2
  · show Val te.t (.agg css.flatten.toArray) css.flatten
    obtain ⟨pa, pb, hp⟩ : ∃ pa pb, te.t = .pair pa pb := by
      cases ht : te.t <;> rw [ht] at hisP <;> simp [Ty.isP] at hisP
      exact ⟨_, _, rfl⟩
    rw [hp]; rfl
  · exact c4 w own' (fun b hb hlt => ⟨(relabs_none _).2 hb, hlt, rfl⟩) (fun q hq b s hb => ⟨relabs_at _ hb hq hln hhead, rfl⟩)
end
end Go.Proofs.YtgkgfpbdodafaaaGreatDoorE
/- The engine, part J2d: a list of which one element after the other is taken out. No condition. -/
namespace Go.Proofs.YtgkgfpbdodafaaaGreatDoorE
def S.toQ (σ : S) (i : Nat) : Option S := match σ.slot i with
  | .dat ⟨.list e t, .own m, x⟩ => some ((σ.killA [2 * i]).setSlot i (.que e t m (0 : Int) x))
  | _ => none
theorem Rel.toQ {w0 : World} {G0 : Gh} {np : Nat} {σ σ' : S} {a : Act} {w : World} {G : Gh} (h : Rel w0 G0 np σ a w G) {i : Nat} (hf : σ.toQ i = some σ') : ∃ G', Rel w0 G0 np σ' a w G' ∧ Ft w w G G' [2 * i] := by
  unfold S.toQ at hf
  split at hf
  case h_2 => cases hf
  rename_i e t m x hs
  obtain ⟨rfl⟩ := hf
  have hsl := h.slots i
  rw [hs] at hsl
  obtain ⟨cs, e1, A, c, e2, hl, hr⟩ := hsl
  have hi : i < σ.sl.length := by
    rcases Nat.lt_or_ge i σ.sl.length with h | h
    · exact h
    · simp only [S.slot, List.getD_eq_getElem?_getD, List.getElem?_eq_none h] at hs; cases hs
  have hslot : ∀ s, ((σ.killA [2 * i]).setSlot i (.que e t m (0 : Int) x)).slot s = if i = s then .que e t m (0 : Int) x else (σ.slot s).kills [2 * i] := fun s => by
    rw [S.setSlot_slot, S.killA_len, S.killA_slot]
    by_cases e : i = s
    · rw [if_pos ⟨e, hi⟩, if_pos e]
    · rw [if_neg (fun h => e h.1), if_neg e]
  refine ⟨G, h.step2 [2 * i] (fun _ _ => ⟨rfl, rfl, rfl, rfl⟩) (Chg.refl _ _ _) rfl rfl rfl h.live (fun _ _ => ⟨rfl, rfl, rfl, rfl⟩) (by rw [S.setSlot_len, S.killA_len]; exact h.tmps) h.defers (fun s => ?_) (fun k bx hb => .inl ⟨hb, by simp; omega, rfl, rfl, rfl, rfl⟩) (fun k b d' hk _ => by simp at hk; omega) (fun s k hk => ?_)⟩
  · rw [hslot s]
    by_cases es : i = s
    · subst es
      right
      rw [if_pos rfl]
      refine ⟨⟨A, c, ?_, fun j hj _ => ?_⟩, fun _ => by simp⟩
      · have e1' : cs = [a.tmps.getD i undef] := e1
        rw [e1'] at e2
        exact (List.cons.inj e2).1
      · rcases hr with ⟨_, hc⟩ | ⟨b, o, arr, rfl, ho, hh, hsz, hel⟩
        · exact absurd (Nat.lt_of_lt_of_le hj (hc ▸ hl)) (Nat.not_lt_zero _)
        · obtain ⟨ci, hc1, hc2⟩ := hel j hj
          refine ⟨b, o, ci, rfl, ho, fun k hk => ?_, hc1⟩
          rw [Addr.add_add, cell_of_heap hh, ← Nat.add_assoc]
          exact hc2 k hk
    · rw [if_neg es]
      left
      refine ⟨⟨?_⟩, rfl⟩
      rw [hslot s, if_neg es]
      rcases AV.kills_or [2 * i] (σ.slot s) with k1 | k1
      · exact .inl k1
      · by_cases hn : σ.slot s = .none
        · left; rw [k1, hn]
        · exact .inr ⟨k1, AV.kills_all _ _ k1 hn, fun _ => by simp; omega⟩
  · rw [hslot s] at hk
    by_cases e : i = s
    · rw [if_pos e] at hk; cases hk
    · rw [if_neg e] at hk
      exact (h.slots s).hk (AV.kills_hk _ hk)
def S.popQ (σ : S) (d j e : Nat) (t : Ty) (m : Md) (xs : List t.D) (n : Int) : S := ((σ.killA [2 * d, 2 * j]).setSlot j (.que e t m (n + 1) xs)).setSlot d (.pp t m (rd xs n t.zero) (2 * j))
theorem S.popQ_slot (σ : S) {d j : Nat} (e : Nat) (t : Ty) (m : Md) (xs : List t.D) (n : Int) (hd : d < σ.sl.length) (hj : j < σ.sl.length) (s : Nat) :
    (σ.popQ d j e t m xs n).slot s = if d = s then .pp t m (rd xs n t.zero) (2 * j) else if j = s then .que e t m (n + 1) xs else (σ.slot s).kills [2 * d, 2 * j] := by
  rw [S.popQ, S.setSlot_slot, S.setSlot_len, S.killA_len, S.setSlot_slot, S.killA_len, S.killA_slot]
  by_cases e1 : d = s
  · rw [if_pos ⟨e1, hd⟩, if_pos e1]
  · rw [if_neg (fun h => e1 h.1), if_neg e1]
    by_cases e2 : j = s
    · rw [if_pos ⟨e2, hj⟩, if_pos e2]
    · rw [if_neg (fun h => e2 h.1), if_neg e2]
theorem Rel.popQ {w0 : World} {G0 : Gh} {np : Nat} {σ : S} {a : Act} {w : World} {G : Gh} (h : Rel w0 G0 np σ a w G) {d j e : Nat} {t : Ty} {m : Md} {n0 n : Int} {xs : List t.D} (hs : σ.slot j = .que e t m n0 xs) (hd : d < σ.sl.length) (h0 : 0 ≤ n) (hlt : n < (xs.length : Int)) (hn : n0 ≤ n) :
    ∃ A c, a.tmps.getD j undef = .slice (some A) xs.length c ∧ ∃ G', Rel w0 G0 np (σ.popQ d j e t m xs n) (a.put (some d) (.pointer (some (A.add (n.toNat * t.sz))))) w G' ∧ Ft w w G G' [2 * d, 2 * j] := by
  have hjl : j < σ.sl.length := by
    rcases Nat.lt_or_ge j σ.sl.length with h | h
    · exact h
    · simp only [S.slot, List.getD_eq_getElem?_getD, List.getElem?_eq_none h] at hs; cases hs
  have hsl := h.slots j
  rw [hs] at hsl
  obtain ⟨A, c, e1, hel⟩ := hsl
  have hnl : n.toNat < List.length xs := by omega
  obtain ⟨b, o, ci, rfl, ho, hca, hr⟩ := hel n.toNat hnl (by omega)
  refine ⟨⟨b, o, none⟩, c, e1, ?_⟩
  have ex : rd xs n t.zero = List.get xs ⟨n.toNat, hnl⟩ := by simp [rd, List.getD_eq_getElem?_getD, List.getElem?_eq_getElem hnl]
  let own' := relab G.own [2 * j, n.toNat] [2 * d]
  have hO2 : ∀ b, G.own b = none → own' b = none := fun b hb => relab_none.2 hb
  have hda : d < a.tmps.size := by rw [← h.tmps]; exact hd
  have hslot := S.popQ_slot σ e t m xs n hd hjl
  have hlen : (σ.popQ d j e t m xs n).sl.length = σ.sl.length := by rw [S.popQ, S.setSlot_len, S.setSlot_len, S.killA_len]
  have hbo : own' b = some [2 * j] := relab_off ho (fun ⟨s, hs⟩ => by simp at hs)
  refine ⟨{ G with own := own' }, h.step2 [2 * d, 2 * j] (fun _ _ => ⟨rfl, rfl, rfl, rfl⟩) ⟨Nat.le_refl _, fun b hb _ => ⟨hO2 b hb, rfl⟩, fun b r s hb hr => ⟨relab_off hb (fun ⟨s', e⟩ => ?_), rfl⟩, fun b hb => ⟨relab_nil hb (by simp), rfl⟩⟩ rfl rfl rfl (fun b l hb => ?_) (fun _ _ => ⟨rfl, rfl, rfl, rfl⟩) (by rw [hlen]; simp [Act.put, h.tmps]) h.defers (fun s => ?_) (fun k bx hb => .inl ⟨hb, by simp; omega, rfl, rfl, rfl, rfl⟩) (fun k b d' hk _ => by simp at hk; omega) (fun s k hk => ?_)⟩
  · simp at e hr
    exact hr.2 e.1
  · obtain ⟨l', hl'⟩ := relab_some hb
    exact h.live b l' hl'
  · rw [hslot s]
    by_cases e2 : d = s
    · subst e2
      right
      rw [if_pos rfl, Act.put_getD _ _ _ _ hda, if_pos rfl]
      refine ⟨⟨_, ci, rfl, ⟨[], by rw [Addr.add_block]; exact hbo⟩, hca, ?_⟩, fun _ => by simp⟩
      rw [ex]
      exact RepO.move (fun b h1 h2 => ⟨hO2 b h1, h2, rfl⟩) hr (fun b s hb => ⟨relab_at hb, rfl⟩)
    · rw [if_neg e2]
      by_cases e3 : j = s
      · subst e3
        right
        rw [if_pos rfl, Act.put_getD _ _ _ _ hda, if_neg e2]
        refine ⟨⟨some ⟨b, o, none⟩, c, e1, fun k hk hnk => ?_⟩, fun _ => by simp⟩
        obtain ⟨b2, o2, ci2, q1, q2, q3, q4⟩ := hel k hk (by omega)
        refine ⟨b2, o2, ci2, q1, relab_off q2 (fun ⟨s, hs⟩ => by simp at hs), q3, ?_⟩
        refine RepO.move (fun b h1 h2 => ⟨hO2 b h1, h2, rfl⟩) q4 (fun b s hb => ⟨relab_off hb (fun ⟨s', hs'⟩ => ?_), rfl⟩)
        simp at hs'
        omega
      · rw [if_neg e3]
        left
        refine ⟨⟨?_⟩, by rw [Act.put_getD _ _ _ _ hda, if_neg e2]⟩
        rw [hslot s, if_neg e2, if_neg e3]
        rcases AV.kills_or [2 * d, 2 * j] (σ.slot s) with k1 | k1
        · exact .inl k1
        · by_cases hn : σ.slot s = .none
          · left; rw [k1, hn]
          · exact .inr ⟨k1, AV.kills_all _ _ k1 hn, fun _ => by simp; omega⟩
  · rw [hslot s] at hk
    by_cases e2 : d = s
    · rw [if_pos e2] at hk; cases hk
    · rw [if_neg e2] at hk
      by_cases e3 : j = s
      · rw [if_pos e3] at hk; cases hk
      · rw [if_neg e3] at hk
        exact (h.slots s).hk (AV.kills_hk _ hk)
theorem Rel.loadP {w0 : World} {G0 : Gh} {np : Nat} {σ : S} {a : Act} {w : World} {G : Gh} (h : Rel w0 G0 np σ a w G) {d i r : Nat} {t : Ty} {m : Md} {x : t.D} (hs : σ.slot i = .pp t m x r) (hd : d < σ.sl.length) (hm : m.full = true) :
    ∃ A ci, a.tmps.getD i undef = .pointer (some A) ∧ CellsAt w A ci ∧ RepV w (fun _ => True) t ci x ∧ ∀ u, Val t u ci → ∃ G', Rel w0 G0 np (σ.newA d (.dat ⟨t, m, x⟩) [i]) (a.put (some d) u) w G' ∧ Ft w w G G' (2 * d :: [i].map (2 * ·)) := by
  have hsl := h.slots i
  rw [hs] at hsl
  obtain ⟨A, ci, e1, _, hca, hr⟩ := hsl
  refine ⟨A, ci, e1, hca, RepO.view (fun _ _ _ => trivial) hm hr (fun _ _ _ => trivial), fun u hu => ?_⟩
  let own' := relab G.own [2 * i] [2 * d]
  have hO2 : ∀ b, G.own b = none → own' b = none := fun b hb => relab_none.2 hb
  refine ⟨{ G with own := own' }, h.newA2 hd (own' := own') (ms := [i]) ⟨Nat.le_refl _, fun b hb _ => ⟨hO2 b hb, rfl⟩, fun b r s hb hr => ⟨relab_off hb (fun ⟨s', e⟩ => ?_), rfl⟩, fun b hb => ⟨relab_nil hb (by simp), rfl⟩⟩ rfl rfl rfl (fun b l hb => ?_) (by simp) (fun σ' tmps => ⟨ci, hu, RepO.move (fun b h1 h2 => ⟨hO2 b h1, h2, rfl⟩) hr (fun b s hb => ⟨relab_at hb, rfl⟩)⟩)⟩
  · simp at e hr
    exact hr.2 e.1
  · obtain ⟨l', hl'⟩ := relab_some hb
    exact h.live b l' hl'
end Go.Proofs.YtgkgfpbdodafaaaGreatDoorE
/- The engine, part J3: an operation as a step. No condition. -/
namespace Go.Proofs.YtgkgfpbdodafaaaGreatDoorE
inductive Gr where
  | g (i : Nat)
  | z (i : Nat)
  | w (r : Nat) (m : Md)
  | q (i : Nat)
structure OH where
  gr : List Gr
  m : Md
  ts : List Nat
  bs : List Nat
  sh : Option Nat
def frcL {α β : Type} : List β → (List β → α) → α
  | [], k => k []
  | b :: l, k => frcL l fun l => k (b :: l)
theorem frcL_eq {α β : Type} : ∀ (l : List β) (k : List β → α), frcL l k = k l
  | [], _ => rfl
  | b :: l, k => frcL_eq l _
def AV.frc {α : Type} : AV → (AV → α) → α
  | .none, k => k .none
  | .dat ⟨t, m, x⟩, k => k (.dat ⟨t, m, x⟩)
  | .snp t x ds Option.none, k => frcL ds fun ds => k (.snp t x ds Option.none)
  | .snp t x ds (some ⟨r, π⟩), k => frcL ds fun ds => frcL π fun π => k (.snp t x ds (some ⟨r, π⟩))
  | .ptr ⟨r, π⟩, k => frcL π fun π => k (.ptr ⟨r, π⟩)
  | .rp t x ds, k => frcL ds fun ds => k (.rp t x ds)
  | .nilS, k => k .nilS
  | .hdr i, k => k (.hdr i)
  | .vw i π, k => frcL π fun π => k (.vw i π)
  | .tup vs, k => frcL vs fun vs => k (.tup vs)
  | .fn f, k => k (.fn f)
  | .que e t m n x, k => k (.que e t m n x)
  | .pp t m x r, k => k (.pp t m x r)
  | .cp s, k => k (.cp s)
theorem AV.frc_eq {α : Type} (a : AV) (k : AV → α) : a.frc k = k a := by
  unfold AV.frc
  split <;> simp only [frcL_eq]
def frcA {α : Type} : List AV → (List AV → α) → α
  | [], k => k []
  | a :: l, k => a.frc fun a => frcA l fun l => k (a :: l)
theorem frcA_eq {α : Type} : ∀ (l : List AV) (k : List AV → α), frcA l k = k l
  | [], _ => rfl
  | a :: l, k => by unfold frcA; rw [AV.frc_eq, frcA_eq l]
def frcB {α : Type} : List (Option (Bool × Dat)) → (List (Option (Bool × Dat)) → α) → α
  | [], k => k []
  | none :: l, k => frcB l fun l => k (none :: l)
  | some (b, ⟨t, m, x⟩) :: l, k => frcB l fun l => k (some (b, ⟨t, m, x⟩) :: l)
theorem frcB_eq {α : Type} : ∀ (l : List (Option (Bool × Dat))) (k : List (Option (Bool × Dat)) → α), frcB l k = k l
  | [], _ => rfl
  | none :: l, k => by unfold frcB; rw [frcB_eq l]
  | some (b, ⟨t, m, x⟩) :: l, k => by unfold frcB; rw [frcB_eq l]
def S.frc {α : Type} : S → (S → α) → α
  | ⟨sl, bx, lk⟩, k => frcA sl fun sl => frcB bx fun bx => k ⟨sl, bx, lk⟩
theorem S.frc_eq {α : Type} (σ : S) (k : S → α) : σ.frc k = k σ := by
  obtain ⟨sl, bx, lk⟩ := σ
  show frcA sl (fun sl => frcB bx fun bx => k ⟨sl, bx, lk⟩) = _
  rw [frcA_eq, frcB_eq]
def bindD {α : Type} {t : Ty} (x : t.D) (k : t.D → Option α) : Option α := k x
def S.share {α : Type} (sh : Option Nat) (σ : S) (k : S → Option α) : Option α := match sh with
  | none => k σ
  | some r => match σ.rt r with
    | some d => bindD d.x fun x => k (σ.setRoot r ⟨d.t, d.m, x⟩)
    | none => k σ
theorem S.setRoot_self {σ : S} {r : Nat} {d : Dat} (h : σ.rt r = some d) : σ.setRoot r d = σ := by
  obtain ⟨sl, bx, ts⟩ := σ
  unfold S.rt at h
  unfold S.setRoot
  by_cases h2 : r % 2 = 0
  · rw [if_pos h2] at h ⊢
    split at h
    · rename_i d' hs
      obtain ⟨rfl⟩ := h
      simp only [S.setSlot, S.mk.injEq, and_true]
      simp only [S.slot, List.getD_eq_getElem?_getD] at hs
      cases hg : sl[r / 2]? with
      | none => rw [hg] at hs; cases hs
      | some av =>
        rw [hg] at hs
        simp only [Option.getD_some] at hs
        subst hs
        obtain ⟨hlt, he⟩ := List.getElem?_eq_some_iff.1 hg
        rw [← he, List.set_getElem_self]
    · cases h
  · rw [if_neg h2] at h ⊢
    cases hb : S.box ⟨sl, bx, ts⟩ (r / 2) with
    | none => rfl
    | some q =>
      obtain ⟨b, d'⟩ := q
      rw [hb] at h
      simp only [Option.map_some, Option.some.injEq] at h
      subst h
      simp only [S.setBox, S.mk.injEq, and_true, true_and]
      simp only [S.box, List.getD_eq_getElem?_getD] at hb
      cases hg : bx[r / 2]? with
      | none => rw [hg] at hb; cases hb
      | some av =>
        rw [hg] at hb
        simp only [Option.getD_some] at hb
        subst hb
        obtain ⟨hlt, he⟩ := List.getElem?_eq_some_iff.1 hg
        rw [if_pos hlt, ← he, List.set_getElem_self]
theorem S.share_eq {α : Type} (sh : Option Nat) (σ : S) (k : S → Option α) : σ.share sh k = k σ := by
  unfold S.share
  split
  · rfl
  · split
    · rename_i d hd
      show k (σ.setRoot _ d) = k σ
      rw [S.setRoot_self hd]
    · rfl
def S.grab2 (σ : S) : Gr → Option S
  | .g i => σ.grab i
  | .z i => σ.freeze i
  | .w r m => σ.weak r m
  | .q i => σ.toQ i
def S.grab2R (σ : S) : Gr → List Nat
  | .g i => σ.grabR i
  | .z i => [2 * i]
  | .w r _ => [r]
  | .q i => [2 * i]
def S.grabs : List Gr → S → Option S
  | [], σ => some σ
  | i :: l, σ => S.grabs l (match σ.grab2 i with
    | some σ' => σ'
    | none => σ)
def S.grabsR : List Gr → S → List Nat
  | [], _ => []
  | i :: l, σ => match σ.grab2 i with
    | some σ' => σ.grab2R i ++ S.grabsR l σ'
    | none => S.grabsR l σ
def elsV (σ : S) (e : Nat) (t : Ty) (em : Md) (o : Operand) : Option (List t.D × Option Nat) :=
  match (if em = .ro then (match roV (.list e t) (σ.ev o) with
    | some (ys, ds) => if ds = [] ∨ t.flat = true then some ys else none
    | none => none) else none) with
  | some ys => some (ys, none)
  | none => match o with
    | .tmp i => match σ.slot i with
      | .dat d => if h : d.t = .list e t then (if d.m = .own em then some ((h ▸ d.x : (Ty.list e t).D), some i) else none) else none
      | _ => none
    | _ => none
def srcV (σ : S) (e : Nat) (t : Ty) (em : Md) (o : Operand) : Option (List t.D × Option Nat) := match σ.ev o with
  | .nilS => some ([], none)
  | _ => match o with
    | .tmp i => match σ.slot i with
      | .dat d => if h : d.t = .list e t then (if d.m = .own em then some ((h ▸ d.x : (Ty.list e t).D), some i) else none) else none
      | _ => none
    | _ => none
def opEq : Operand → Operand → Bool
  | .tmp i, .tmp j => i == j
  | .const (.int _ n), .const (.int _ n') => n == n'
  | _, _ => false
def appV (τ : List TE) (σ : S) (m : Md) (d : Nat) : List Operand → List Nat → Option (Cnd × S × List Nat)
  | [s, x], [T, Tx] => match tat τ T, tat τ Tx with
    | some ⟨_, .list e t, _, _⟩, some ⟨_, .list e' _, _, _⟩ => match tat τ e with
      | some tl => match srcV σ e t m s, elsV σ e t m x with
        | some (xs, i0), some (ys, i1) => if d < σ.sl.length ∧ i0 ≠ some d ∧ i1 ≠ some d ∧ (i0 = none ∨ i0 ≠ i1) ∧ 0 < tl.by_ then
            some (.le ((xs.length + ys.length) * tl.by_) 140737488355328, σ.newA d (.dat ⟨.list e t, .own m, xs ++ ys⟩) (i0.toList ++ i1.toList), 2 * d :: (i0.toList ++ i1.toList).map (2 * ·)) else none
        | _, _ => none
      | none => none
    | _, _ => none
  | _, _ => none
def ef1 (τ : List TE) (np : Nat) (σ : S) (m : Md) (o : Oper) : Option (Cnd × S × List Nat) := match o.op, o.dst with
  | .box T v, some d => match tat τ T with
    | some te => match σ.take te.t m v with
      | some (m', x, ms) => if d < σ.sl.length ∧ np ≤ d then some (.tt, σ.newB d ⟨te.t, m', x⟩ ms, 2 * d :: (2 * d + 1) :: ms.map (2 * ·)) else none
      | none => none
    | none => none
  | .alloc T, some d => match tat τ T with
    | some te => if d < σ.sl.length ∧ np ≤ d then some (.tt, σ.newB d ⟨te.t, m, te.t.zero⟩ [], [2 * d, 2 * d + 1]) else none
    | none => none
  | .store T ad v, none => match tat τ T, σ.ev ad with
    | some te, .ptr p => match σ.take te.t m v with
      | some (m', x, ms) => match σ.rt p.root with
        | some d => match sgetP p.path d.t d.m d.x with
          | some d' => if d'.t = te.t ∧ (∀ i ∈ ms, p.root ≠ 2 * i) then (match σ.st p ⟨te.t, m', x⟩ ms with
            | some σ' => some (.tt, σ', p.root :: ms.map (2 * ·))
            | none => none) else none
          | none => none
        | none => none
      | none => none
    | _, _ => none
  | .buildSlice T n parts, some d => match tat τ T with
    | some ⟨_, .list e t, _, _⟩ => match tat τ e with
      | some _ => if parts.toList.map (·.1) = List.range n ∧ n * t.sz ≤ 16777216 ∧ d < σ.sl.length then (match σ.takes t m 0 (parts.toList.map (·.2)) with
        | some (xs, l) => if (l.map (·.1)).Nodup ∧ d ∉ l.map (·.1) then some (.tt, σ.newA d (.dat ⟨.list e t, .own m, xs⟩) (l.map (·.1)), 2 * d :: (l.map (·.1)).map (2 * ·)) else none
        | none => none) else none
      | none => none
    | _ => none
  | .makeSlice T a b, some d => match tat τ T, σ.ev a with
    | some ⟨_, .list e t, _, _⟩, .snp (.int _) n _ _ => match tat τ e with
      | some tl => if opEq a b = true ∧ d < σ.sl.length ∧ 0 < tl.by_ then
          some (.both (.nn n) (.le (n.toNat * tl.by_) 140737488355328), σ.newA d (.dat ⟨.list e t, .own m, List.replicate n.toNat t.zero⟩) [], [2 * d]) else none
      | none => none
    | _, _ => none
  | .extract (.tmp i) j, some d => match σ.slot i with
    | .tup vs => match vs[j]? with
      | some D => if D.m.noOwn = true then (if d < σ.sl.length then some (.tt, σ.put d (.snp D.t D.x [] none), [2 * d]) else none) else
          (if d < σ.sl.length ∧ i ≠ d then some (.tt, σ.extr i j d vs D, [2 * d, 2 * i]) else none)
      | none => none
    | _ => none
  | .move (.tmp i), some d => match σ.slot i with
    | .tup (D :: vs) => if d < σ.sl.length ∧ i ≠ d then some (.tt, σ.newA d (.tup (D :: vs)) [i], [2 * d, 2 * i]) else none
    | _ => none
  | .call c, some d => match c.callee with
    | .builtin .append => appV τ σ m d c.args.toList c.argTypes.toList
    | _ => none
  | _, _ => none
def ef2 (τ : List TE) (σ : S) (m : Md) (o : Oper) : Option (Cnd × S × List Nat) := match o.op, o.dst with
  | .box T v, some d => match tat τ T, σ.ev v with
    | some te, .snp t _ _ (some ⟨r, []⟩) => match σ.box (r / 2) with
      | some (false, D) => if r % 2 = 1 ∧ t = te.t ∧ D.t = te.t ∧ d < σ.sl.length then some (.tt, σ.newA d (.vw (r / 2) []) [], [2 * d]) else none
      | _ => none
    | _, _ => none
  | .slice T (.tmp i) lo hi none, some d => match tat τ T, σ.slot i with
    | some te, .dat ⟨.list e t, .own .ro, xs⟩ => match bnd σ.ev 0 lo, bnd σ.ev (List.length xs) hi with
      | some l, some r => if te.t = .list e t ∧ m = .own .ro ∧ d < σ.sl.length then some (.cut l r (List.length xs), σ.newA d (.dat ⟨.list e t, .own .ro, lsub xs l r⟩) [i], 2 * d :: [i].map (2 * ·)) else none
      | _, _ => none
    | _, _ => none
  | .build T parts, some d => match tat τ T with
    | some te => if m = .ro then none else match σ.buildT parts.toList te.k 0 te.t m [2 * d] with
      | some (m', x, l) => if d < σ.sl.length ∧ (parts.toList.map (·.1)).Nodup ∧ parts.toList.all (·.1 < te.k) = true ∧ (l.map (·.1)).Nodup ∧ d ∉ l.map (·.1) then some (.tt, σ.newA d (.dat ⟨te.t, m', x⟩) (l.map (·.1)), 2 * d :: (l.map (·.1)).map (2 * ·)) else none
      | none => none
    | none => none
  | .indexAddr T (.tmp j) ix, some d => match tat τ T, σ.slot j, σ.ev ix with
    | some te, .que e t m n0 xs, .snp (.int _) n _ _ => if te.t = .list e t ∧ d < σ.sl.length ∧ d ≠ j then some (.both (.idx n xs.length) (.cut n0 n xs.length), σ.popQ d j e t m xs n, [2 * d, 2 * j]) else none
    | _, _, _ => none
  | .move (.tmp s), some d => match σ.slot s with
    | .none => if d < σ.sl.length ∧ s ≠ d then some (.tt, σ.put d (.cp s), [2 * d]) else none
    | _ => none
  | .load T (.tmp i), some d => match tat τ T, σ.slot i with
    | some te, .pp t m x _ => if te.t = t ∧ m.full = true ∧ d < σ.sl.length then some (.tt, σ.newA d (.dat ⟨t, m, x⟩) [i], 2 * d :: [i].map (2 * ·)) else none
    | _, _ => none
  | _, _ => none
def ef (τ : List TE) (np : Nat) (σ : S) (m : Md) (o : Oper) : Option (Cnd × S × List Nat) := match ef1 τ np σ m o with
  | some r => some r
  | none => ef2 τ σ m o
def stepR {α : Type} (τ : List TE) (Φ : List Cal) (np : Nat) (hh : OH) (σ0 : S) (o : Oper) (k : S → List Nat → Option α) : Option α :=
  match S.grabs hh.gr σ0 with
  | none => none
  | some σ => match ef τ np σ hh.m o with
    | some (c, σ', rs) => c.run (σ'.share hh.sh fun σ' => k σ' (S.grabsR hh.gr σ0 ++ rs))
    | none => match pv τ σ.ev σ.rt o.op, o.dst with
      | some (c, av), some d => if d < σ.sl.length then c.run (k (σ.put d av) (S.grabsR hh.gr σ0 ++ [2 * d])) else none
      | _, _ => match o.op, o.dst with
        | .call c, some d => match c.callee with
          | .value (.func f) => match Φ.find? (fun c => c.f == f) with
            | some cal => match σ.args 0 cal.ps c.args.toList with
              | some (x, ds, l, fl) => if (l.map (·.1)).Nodup ∧ (∀ p ∈ l, 2 * p.1 ∉ ds) ∧ d < σ.sl.length ∧ (fl.map (·.p.root)).Nodup ∧ (∀ e ∈ fl, e.p.root ∉ ds ∧ (∀ p ∈ l, e.p.root ≠ 2 * p.1) ∧ e.p.root ≠ 2 * d) then
                  (cal.F x).bind fun y => match resA ds cal.rs (HL.left _ _ y) with
                    | some av => if ((finsD cal.ps (HL.right _ _ y)).all fun D => decide (ds = []) || cov D.t D.m) = true then (match σ.called d av (l.map (·.1)) fl (finsD cal.ps (HL.right _ _ y)) with
                      | some σ' => k σ' (S.grabsR hh.gr σ0 ++ callRs d (l.map (·.1)) fl)
                      | none => none) else none
                    | none => none
                else none
              | none => none
            | none => none
          | _ => none
        | _, _ => none
def stepK {α : Type} (τ : List TE) (Φ : List Cal) (np : Nat) (hh : OH) (σ0 : S) (o : Oper) (k : S → Option α) : Option α := stepR τ Φ np hh σ0 o fun σ _ => k σ
def Cok (P : Program) (c : Cal) : Prop := (∃ fn, P.funcs[c.f]? = some fn ∧ (fn.name == "runtime.NumGoroutine") = false ∧ fn.body.isSome = true) ∧ FOK P c
def CalsOk (P : Program) (Φ : List Cal) (w0 : World) (own0 : Own) : Prop := (∀ c ∈ Φ, Cok P c) ∧ Inv P w0 own0
theorem Rel.grab2 {w0 : World} {G0 : Gh} {np : Nat} {σ σ' : S} {a : Act} {w : World} {G : Gh} (h : Rel w0 G0 np σ a w G) {i : Gr} (hg : σ.grab2 i = some σ') : ∃ G', Rel w0 G0 np σ' a w G' ∧ Ft w w G G' (σ.grab2R i) := by
  cases i with
  | g i => exact h.grab hg
  | z i => exact h.freeze hg
  | w r m => exact h.weak' hg
  | q i => exact h.toQ hg
theorem Rel.grabs {w0 : World} {G0 : Gh} {np : Nat} {a : Act} {w : World} : ∀ (l : List Gr) {σ σ' : S} {G : Gh}, Rel w0 G0 np σ a w G → S.grabs l σ = some σ' → ∃ G', Rel w0 G0 np σ' a w G' ∧ Ft w w G G' (S.grabsR l σ)
  | [], σ, σ', G, h, hg => by simp only [S.grabs, Option.some.injEq] at hg; subst hg; exact ⟨G, h, Ft.refl _ _ _⟩
  | i :: l, σ, σ', G, h, hg => by
    simp only [S.grabs] at hg
    simp only [S.grabsR]
    split at hg
    · rename_i σ1 h1
      obtain ⟨G1, h2, h3⟩ := h.grab2 h1
      obtain ⟨G2, h4, h5⟩ := Rel.grabs l h2 hg
      exact ⟨G2, h4, by first | exact h3.trans h5 | (simp only [h1]; exact h3.trans h5)⟩
    · rename_i h1
      obtain ⟨G2, h4, h5⟩ := Rel.grabs l h hg
      exact ⟨G2, h4, by first | exact h5 | (simp only [h1]; exact h5)⟩
section
variable {P : Program} {τ : List TE} (hτ : TabOk P τ) {w0 : World} {G0 : Gh} {np : Nat} {σ : S} {a : Act} {w : World} {G : Gh} (h : Rel w0 G0 np σ a w G)
include hτ h
theorem srcV_ok {e : Nat} {t : Ty} {em : Md} {o : Operand} {xs : List t.D} {i0 : Option Nat} (hs : srcV σ e t em o = some (xs, i0)) :
    (∃ i, i0 = some i ∧ RepO w G.own (.list e t) (.own em) [2 * i] [a.eval o] xs) ∨ (i0 = none ∧ a.eval o = .slice none 0 0 ∧ xs = []) := by
  have hev := (h.ev 0 o).1
  unfold srcV at hs
  split at hs
  · rename_i hx
    rw [hx] at hev
    simp only [Option.some.injEq, Prod.mk.injEq] at hs
    exact .inr ⟨hs.2.symm, hev, hs.1.symm⟩
  · split at hs
    · rename_i i _
      split at hs
      · rename_i d hd
        split at hs
        · rename_i ht
          split at hs
          · rename_i hm
            obtain ⟨dt, dm, dx⟩ := d
            simp only at ht hm
            subst ht hm
            simp only [Option.some.injEq, Prod.mk.injEq] at hs
            obtain ⟨rfl, rfl⟩ := hs
            have hsl := h.slots i
            rw [hd] at hsl
            obtain ⟨cs, h1, h2⟩ := hsl
            have h1' : cs = [a.tmps.getD i undef] := h1
            subst h1'
            exact .inl ⟨i, rfl, h2⟩
          · cases hs
        · cases hs
      · cases hs
    · cases hs
theorem elsV_ok {e : Nat} {t : Ty} {em : Md} {o : Operand} {ys : List t.D} {i1 : Option Nat} (hs : elsV σ e t em o = some (ys, i1)) : ∃ css, Els w G.own t em ys i1 (a.eval o) css := by
  unfold elsV at hs
  split at hs
  · rename_i ys' hy
    simp only [Option.some.injEq, Prod.mk.injEq] at hs
    obtain ⟨rfl, rfl⟩ := hs
    split at hy
    · rename_i hem
      split at hy
      · rename_i ys2 ds hr
        split at hy
        · rename_i hcd
          obtain ⟨rfl⟩ := hy
          obtain ⟨cs, q1, q2⟩ := roV_ok h hr
          have q1' : cs = [a.eval o] := q1
          subst q1'
          refine Els.ofV q2 ?_ hem
          rcases hcd with hd | hf
          · left
            intro b hb
            refine ⟨hb.1, ?_⟩
            rcases hb.2 with h1 | ⟨r, hr, _⟩
            · exact h1
            · rw [hd] at hr; cases hr
          · exact .inr hf
        · cases hy
      · cases hy
    · cases hy
  · split at hs
    · rename_i i _
      split at hs
      · rename_i d hd
        split at hs
        · rename_i ht
          split at hs
          · rename_i hm
            obtain ⟨dt, dm, dx⟩ := d
            simp only at ht hm
            subst ht hm
            simp only [Option.some.injEq, Prod.mk.injEq] at hs
            obtain ⟨rfl, rfl⟩ := hs
            have hsl := h.slots i
            rw [hd] at hsl
            obtain ⟨cs, h1, h2⟩ := hsl
            have h1' : cs = [a.tmps.getD i undef] := h1
            subst h1'
            exact Els.ofO h2
          · cases hs
        · cases hs
      · cases hs
    · cases hs
theorem appV_ok {m : Md} {d : Nat} {args : List Operand} {Ts : List Nat} {c : Cnd} {σ' : S} {rs : List Nat} (hs : appV τ σ m d args Ts = some (c, σ', rs)) (hc : c.holds) (ty : TypeId) (consts : Array Bool) :
    ∃ w' v G', (builtin .append ⟨Ts⟩ ty consts (args.map a.eval).toArray).run P w = .ok (.value v) w' ∧ Rel w0 G0 np σ' (a.put (some d) v) w' G' ∧ Ft w w' G G' rs := by
  unfold appV at hs
  split at hs
  · rename_i s x T Tx
    split at hs
    · rename_i id1 e t k1 b1 id2 e' t' k2 b2 hT hTx
      split at hs
      · rename_i tl htl
        split at hs
        · rename_i xs i0 ys i1 h1 h2
          split at hs
          · rename_i hcd
            obtain ⟨c1, c2, c3, c4, c5⟩ := hcd
            simp only [Option.some.injEq, Prod.mk.injEq] at hs
            obtain ⟨rfl, rfl, rfl⟩ := hs
            obtain ⟨css, hcss⟩ := elsV_ok hτ h h2
            obtain ⟨w', v, G', r1, r2⟩ := append_ok hτ h c1 hT rfl htl (hτ.slice hTx rfl).1 (srcV_ok hτ h h1) hcss c2 c3 c4 c5 hc ty
            exact ⟨w', v, G', by simp only [builtin, List.map_cons, List.map_nil, Sem.run_bind, r1, Result.andThen, Sem.run_pure], r2⟩
          · cases hs
        · cases hs
      · cases hs
    · cases hs
  · cases hs
end
end Go.Proofs.YtgkgfpbdodafaaaGreatDoorE
/- The engine, part J4: a step is what the machine does. No condition. -/
namespace Go.Proofs.YtgkgfpbdodafaaaGreatDoorE
theorem newB_undef {a : Act} {v : Value} : a.put none v = a := rfl
section
variable {P : Program} {τ : List TE} (hτ : TabOk P τ) {w0 : World} {G0 : Gh} {np : Nat} {σ : S} {a : Act} {w : World} {G : Gh} (h : Rel w0 G0 np σ a w G)
include hτ h
theorem opEq_ok {x y : Operand} {k : IntKind} {n : Int} {ds : List Nat} {src : Option Place} (hx : σ.ev x = .snp (.int k) n ds src) (he : opEq x y = true) : a.eval x = .int k n ∧ ∃ k', a.eval y = .int k' n := by
  have hv := (h.ev 0 x).1
  rw [hx] at hv
  have hv := hv.int
  refine ⟨hv, ?_⟩
  unfold opEq at he
  split at he
  · simp only [beq_iff_eq] at he
    subst he
    exact ⟨k, hv⟩
  · simp only [beq_iff_eq] at he
    subst he
    simp only [Act.eval, Value.int.injEq] at hv
    rw [← hv.2]
    exact ⟨_, rfl⟩
  · cases he
theorem ef1_ok (o : Oper) {m : Md} {c : Cnd} {σ' : S} {rs : List Nat} (hs : ef1 τ np σ m o = some (c, σ', rs)) (hc : c.holds) :
    ∃ w' v G', ((execOp a.eval o).run P w = .ok (.value v) w' ∨ ((execOp a.eval o).run P w = .ok .skip w' ∧ v = undef)) ∧ Rel w0 G0 np σ' (a.put o.dst v) w' G' ∧ Ft w w' G G' rs := by
  obtain ⟨dst, op, type, pos, after, guard⟩ := o
  unfold ef1 at hs
  simp only at hs
  split at hs
  · -- box
    rename_i T v d
    split at hs
    · rename_i te hte
      split at hs
      · rename_i m' x ms htk
        split at hs
        · rename_i hcd
          simp only [Option.some.injEq, Prod.mk.injEq] at hs
          obtain ⟨_, rfl, rfl⟩ := hs
          obtain ⟨hms, cs, hval, hT⟩ := h.take htk
          obtain ⟨G', hG⟩ := box_ok h hcd.1 hcd.2 T hT hms
          refine ⟨_, _, G', .inl ?_, hG⟩
          have e := hval.cells hT.2.1
          simp only [execOp, Instr.box, newVar, newRow, Sem.run_bind, run_newObj_alloc, Result.andThen, Sem.run_pure]
          congr 3
          rw [← e]
        · cases hs
      · cases hs
    · cases hs
  · -- alloc
    rename_i T d
    split at hs
    · rename_i te hte
      split at hs
      · rename_i hcd
        simp only [Option.some.injEq, Prod.mk.injEq] at hs
        obtain ⟨_, rfl, rfl⟩ := hs
        obtain ⟨z, hz, hrun⟩ := hτ.zero hte
        have hone : ∀ u ∈ te.t.zc, u.oneCell' = true := fun u hu => RepO.one (RepO.zero (w := w) (own := G.own) te.t .ro []) u hu
        have hT : Take w G.own te.t m te.t.zero te.t.zc [] := ⟨Ty.zc_len te.t, hone, fun q w' own' _ _ => RepO.zero te.t m q⟩
        obtain ⟨G', hG⟩ := box_ok h hcd.1 hcd.2 T hT (.inl rfl)
        refine ⟨_, _, G', .inl ?_, hG⟩
        have e := hz.cells hone
        simp only [execOp, Instr.alloc, newVar, newRow, Sem.run_bind, hrun, run_newObj_alloc, Result.andThen, Sem.run_pure]
        congr 3
        rw [← e]
      · cases hs
    · cases hs
  · -- store
    rename_i T ad v
    split at hs
    · rename_i te p hte had
      split at hs
      · rename_i m' x ms htk
        split at hs
        · rename_i d hd
          split at hs
          · rename_i d' hd'
            split at hs
            · rename_i hcd
              split at hs
              · rename_i σ2 hst
                simp only [Option.some.injEq, Prod.mk.injEq] at hs
                obtain ⟨_, rfl, rfl⟩ := hs
                obtain ⟨hms, cs, hval, hT⟩ := h.take htk
                have hv := (h.ev 0 ad).1
                rw [had] at hv
                obtain ⟨A, arr, Tb, e1, e2, e3, e4, G', hG⟩ := h.st hst hv (fun d0 d2 hd2 hg => by
                  rw [hd] at hd2
                  obtain ⟨rfl⟩ := hd2
                  have := getP_s _ hg
                  rw [hd'] at this
                  rw [← Option.some.inj this]; exact hcd.1) hT (by
                    rcases hms with hms | ⟨i, hms, _⟩
                    · exact .inl hms
                    · exact .inr ⟨i, hms, hcd.2 i (by rw [hms]; simp)⟩) hcd.2 none rfl
                refine ⟨_, undef, G', .inr ⟨?_, rfl⟩, hG⟩
                have hsz := Take.size hval hT
                have := run_storeAt (P := P) (T := T) (v := a.eval v) (hτ.size hte w) hsz.2 (by rw [hsz.1]; exact hT.2.1) e2 e3 e4
                rw [hsz.1] at this
                simp only [execOp, e1, Sem.run_bind, this, Result.andThen, Sem.run_pure]
              · cases hs
            · cases hs
          · cases hs
        · cases hs
      · cases hs
    · cases hs
  · -- buildSlice
    rename_i T n parts d
    split at hs
    · rename_i id1 e t k1 b1 hte
      split at hs
      · rename_i tl htl
        split at hs
        · rename_i hcd
          obtain ⟨c1, c2, c3⟩ := hcd
          split at hs
          · rename_i xs l htk
            split at hs
            · rename_i hnd
              simp only [Option.some.injEq, Prod.mk.injEq] at hs
              obtain ⟨_, rfl, rfl⟩ := hs
              obtain ⟨css, g1, g2, g3, g4⟩ := takes_ok h _ 0 htk
              have hpl : parts.toList.length = n := by
                have := congrArg List.length c1
                simpa using this
              simp only [List.length_map] at g1 g2
              have hzip : (parts.map fun (i, x) => (i, a.eval x)) = ((List.range n).zip (parts.toList.map (fun p => a.eval p.2))).toArray := by
                apply Array.ext'
                rw [Array.toList_map]
                apply List.ext_getElem
                · simp [hpl]
                · intro i h1 h2
                  simp only [List.length_map] at h1
                  have hk := List.getElem_of_eq c1 (i := i) (by simpa using h1)
                  simp only [List.getElem_map, List.getElem_range] at hk
                  simp only [List.getElem_map, List.getElem_zip, List.getElem_range]
                  exact Prod.ext hk rfl
              have hrun := run_buildS hτ hte rfl htl c2 (vals := parts.toList.map (fun p => a.eval p.2)) (css := css) (by simp [hpl]) (by omega) (fun k h1 h2 => by
                simp only [List.length_map] at h1
                obtain ⟨q1, ms, q2, _⟩ := g3 k (by omega) h2 (by simpa using h1)
                have := Take.size q1 q2
                simp only [List.getElem_map] at this ⊢
                exact this) w
              obtain ⟨G', hG⟩ := newList_ok h c3 (e := e) (t := t) (em := m) (xs := xs) (css := css) (l := l) (by omega) (fun k h1 h2 => by
                obtain ⟨q1, ms, q2, q3⟩ := g3 k h1 h2 (by simp only [List.length_map]; omega)
                exact ⟨ms, q2, fun i hi => by simpa using q3 i hi⟩) hnd.1 hnd.2 n [] (by omega) (by rw [show xs.length = n by omega]; simp)
              rw [List.append_nil, show xs.length = n by omega] at hG
              refine ⟨_, _, G', .inl ?_, hG⟩
              simp only [execOp, hzip, Sem.run_bind, hrun, Result.andThen, Sem.run_pure]
            · cases hs
          · cases hs
        · cases hs
      · cases hs
    · cases hs
  · -- makeSlice
    rename_i T x y d
    split at hs
    · rename_i id1 e t k1 b1 k n ds src hte hx
      split at hs
      · rename_i tl htl
        split at hs
        · rename_i hcd
          obtain ⟨c1, c2, c3⟩ := hcd
          simp only [Option.some.injEq, Prod.mk.injEq] at hs
          obtain ⟨rfl, rfl, rfl⟩ := hs
          obtain ⟨hc1, hc2⟩ := hc
          obtain ⟨v1, k', v2⟩ := opEq_ok hτ h hx c1
          have hrun := run_makeS hτ hte rfl htl (k := k) (k' := k') hc1 hc2 c3 w
          have hone : ∀ u ∈ t.zc, u.oneCell' = true := fun u hu => RepO.one (RepO.zero (w := w) (own := G.own) t .ro []) u hu
          obtain ⟨G', hG⟩ := newList_ok h c2 (e := e) (t := t) (em := m) (xs := List.replicate n.toNat t.zero) (css := List.replicate n.toNat t.zc) (l := []) (by simp) (fun k h1 h2 => by
            refine ⟨[], ?_, fun i hi => by cases hi⟩
            simp only [List.getElem_replicate]
            exact ⟨Ty.zc_len t, hone, fun q w' own' _ _ => RepO.zero t m q⟩) (by simp) (by simp) n.toNat [] (by simp) (by simp)
          rw [List.append_nil, List.length_replicate] at hG
          refine ⟨_, _, G', .inl ?_, hG⟩
          simp only [execOp, v1, v2, Sem.run_bind, hrun, Result.andThen, Sem.run_pure]
        · cases hs
      · cases hs
    · cases hs
  · -- extract
    rename_i i j d
    split at hs
    · rename_i vs hvs
      split at hs
      · rename_i D hD
        split at hs
        · rename_i hno
          split at hs
          · rename_i hcd
            simp only [Option.some.injEq, Prod.mk.injEq] at hs
            obtain ⟨_, rfl, rfl⟩ := hs
            have hsl := h.slots i
            rw [hvs] at hsl
            obtain ⟨arr, e1, e2, e3⟩ := hsl
            obtain ⟨hj, rfl⟩ := List.getElem?_eq_some_iff.1 hD
            obtain ⟨cs, q1, q2⟩ := e3 j hj
            have hjs : j < arr.size := by omega
            have hput := h.put (d := d) hcd (i := 0) (av := .snp vs[j].t vs[j].x [] none) (v := arr.getD j undef) ⟨cs, q1, RepO.noOwn hno q2, fun p hp => by cases hp⟩ rfl
            refine ⟨w, arr.getD j undef, G, .inl ?_, hput, Ft.refl _ _ _⟩
            have e4 : a.eval (.tmp i) = .tuple arr := e1
            simp only [execOp, e4, Instr.extract, Array.getElem?_eq_getElem hjs, Sem.run_bind, Sem.run_pure, Result.andThen]
            simp [hjs]
          · cases hs
        · split at hs
          · rename_i hcd
            simp only [Option.some.injEq, Prod.mk.injEq] at hs
            obtain ⟨_, rfl, rfl⟩ := hs
            obtain ⟨arr, G', e1, hjs, hR, hF⟩ := h.extr hcd.1 hcd.2 hvs hD
            refine ⟨w, arr.getD j undef, G', .inl ?_, hR, hF⟩
            have e4 : a.eval (.tmp i) = .tuple arr := e1
            simp only [execOp, e4, Instr.extract, Array.getElem?_eq_getElem hjs, Sem.run_bind, Sem.run_pure, Result.andThen]
            simp [hjs]
          · cases hs
      · cases hs
    · cases hs
  · -- move
    rename_i i d
    split at hs
    · rename_i D vs hvs
      split at hs
      · rename_i hcd
        simp only [Option.some.injEq, Prod.mk.injEq] at hs
        obtain ⟨_, rfl, rfl⟩ := hs
        obtain ⟨G', hR, hF⟩ := h.tupMove hcd.1 hcd.2 hvs
        refine ⟨w, a.tmps.getD i undef, G', .inl ?_, hR, hF⟩
        simp only [execOp, Act.eval, Sem.run_bind, Sem.run_pure, Result.andThen]
      · cases hs
    · cases hs
  · -- append
    rename_i cl d
    obtain ⟨callee, args, argTypes⟩ := cl
    simp only at hs
    split at hs
    · obtain ⟨args⟩ := args
      obtain ⟨argTypes⟩ := argTypes
      obtain ⟨w', v, G', r1, r2⟩ := appV_ok hτ h hs hc type (args.map fun | .const _ => true | _ => false).toArray
      refine ⟨w', v, G', .inl ?_, r2⟩
      simp [execOp, resolve, invoke]
      exact r1
    · cases hs
  · cases hs
theorem ef2_ok (o : Oper) {m : Md} {c : Cnd} {σ' : S} {rs : List Nat} (hs : ef2 τ σ m o = some (c, σ', rs)) (hc : c.holds) :
    ∃ w' v G', (execOp a.eval o).run P w = .ok (.value v) w' ∧ Rel w0 G0 np σ' (a.put o.dst v) w' G' ∧ Ft w w' G G' rs := by
  obtain ⟨dst, op, type, pos, after, guard⟩ := o
  unfold ef2 at hs
  simp only at hs
  split at hs
  · -- box
    rename_i T v d
    split at hs
    · rename_i te t x ds r hte hv
      split at hs
      · rename_i D hD
        split at hs
        · rename_i hcd
          obtain ⟨c1, c2, c3, c4⟩ := hcd
          simp only [Option.some.injEq, Prod.mk.injEq] at hs
          obtain ⟨_, rfl, rfl⟩ := hs
          obtain ⟨G', hR, hF⟩ := h.view c4 hD T
          refine ⟨_, _, G', ?_, hR, hF⟩
          have hev := (h.ev 0 v).1
          rw [hv] at hev
          obtain ⟨cs, q1, q2, q3⟩ := hev
          have hr : 2 * (r / 2) + 1 = r := by omega
          have hroot : RootR G σ a.tmps w r D none (G.hv (r / 2)).2 := by
            have := RootR.hdr (G := G) (σ := σ) (tmps := a.tmps) (w := w) (r / 2) D hD
            rwa [hr] at this
          obtain ⟨mm, L', q4, q5⟩ := q3 _ rfl D none _ hroot
          simp only [locP, Option.some.injEq, Prod.mk.injEq] at q5
          obtain ⟨_, q6⟩ := q5
          have e : (a.eval v).cells.toList = cs := q1.cells (RepV.one q2)
          have e2 : (a.eval v).cells = (G.hv (r / 2)).2.toArray := by rw [q6, ← e]
          simp only [execOp, Instr.box, newVar, newRow, Sem.run_bind, run_newObj_alloc, Result.andThen, Sem.run_pure, e2]
        · cases hs
      · cases hs
    · cases hs
  · -- slice
    rename_i T i lo hi d
    split at hs
    · rename_i te e t xs hte hi'
      split at hs
      · rename_i l r hl hr
        split at hs
        · rename_i hcd
          obtain ⟨c1, c2, c3⟩ := hcd
          simp only [Option.some.injEq, Prod.mk.injEq] at hs
          obtain ⟨rfl, rfl, rfl⟩ := hs
          obtain ⟨A, cp, e1, hle, hcut⟩ := h.cutO c3 hi'
          obtain ⟨h0, h1, h2⟩ := hc
          obtain ⟨G', hR, hF⟩ := hcut l r h0 h1 h2
          refine ⟨w, _, G', ?_, hR, hF⟩
          have e4 : a.eval (.tmp i) = .slice A (List.length xs) cp := e1
          have hrun := run_cut hτ hte c1 hle (w := w) (A := A) (bnd_ok hτ h hl) (bnd_ok hτ h hr) h0 h1 h2
          simp only [execOp, e4, Option.map_none]
          simp only [Sem.run_bind, hrun, Result.andThen, Sem.run_pure]
        · cases hs
      · cases hs
    · cases hs
  · -- build
    rename_i T parts d
    split at hs
    · rename_i te hte
      split at hs
      · cases hs
      · split at hs
        · rename_i m' x l hb
          split at hs
          · rename_i hcd
            obtain ⟨c1, c2, c3, c4, c5⟩ := hcd
            simp only [Option.some.injEq, Prod.mk.injEq] at hs
            obtain ⟨_, rfl, rfl⟩ := hs
            obtain ⟨cs, G', hrun, hR, hF⟩ := buildO_ok h hτ c1 hte hb c2 c3 c4 c5
            refine ⟨w, _, G', ?_, hR, hF⟩
            simp only [execOp, Sem.run_bind, hrun, Result.andThen, Sem.run_pure]
          · cases hs
        · cases hs
    · cases hs
  · -- indexAddr
    rename_i T j ix d
    split at hs
    · rename_i te e t m n0 xs k n di si hte hj hix
      split at hs
      · rename_i hcd
        obtain ⟨c1, c2, c3⟩ := hcd
        simp only [Option.some.injEq, Prod.mk.injEq] at hs
        obtain ⟨rfl, rfl, rfl⟩ := hs
        obtain ⟨⟨b1, b2⟩, b3, b4, b5⟩ := hc
        obtain ⟨A, cp, e1, G', hR, hF⟩ := h.popQ hj c2 b1 b2 b4
        have hev := (h.ev 0 ix).1
        rw [hix] at hev
        have hvi := hev.int
        obtain ⟨hu, tel, htel, hte'⟩ := hτ.slice hte c1
        have hue : P.elem T = e := by simp [Program.elem, hu]
        refine ⟨w, _, G', ?_, hR, hF⟩
        have e4 : a.eval (.tmp j) = .slice (some A) xs.length cp := e1
        have hrun : (Instr.indexAt T (.slice (some A) xs.length cp) (.int k n)).run P w = .ok (.pointer (some (A.add (n.toNat * t.sz)))) w := by
          rw [run_indexAt_slice w T A xs.length cp k n (by rw [hue]; exact hu), if_pos ⟨b1, b2⟩, hue, hτ.size htel w, hte']
          rfl
        simp only [execOp, e4, hvi, Sem.run_bind, hrun, Result.andThen, Sem.run_pure]
      · cases hs
    · cases hs
  · -- move
    rename_i s d
    split at hs
    · split at hs
      · rename_i hcd
        simp only [Option.some.injEq, Prod.mk.injEq] at hs
        obtain ⟨_, rfl, rfl⟩ := hs
        have hS : SlotR G σ a.tmps w d (.cp s) (a.tmps.getD s undef) := rfl
        exact ⟨w, _, G, rfl, h.put hcd.1 hS rfl, ⟨Chg.refl _ _ _, rfl, rfl, rfl, fun _ _ => ⟨rfl, rfl, rfl, rfl⟩⟩⟩
      · cases hs
    · cases hs
  · -- load
    rename_i T i d
    split at hs
    · rename_i te t m x r hte hi
      split at hs
      · rename_i hcd
        obtain ⟨c1, c2, c3⟩ := hcd
        subst c1
        simp only [Option.some.injEq, Prod.mk.injEq] at hs
        obtain ⟨rfl, rfl, rfl⟩ := hs
        obtain ⟨A, ci, e1, hca, hV, hL⟩ := h.loadP hi c3 c2
        obtain ⟨u, hu, hval⟩ := run_loadAt hτ hte hca hV
        obtain ⟨G', hR, hF⟩ := hL u hval
        refine ⟨w, u, G', ?_, hR, hF⟩
        have e4 : a.eval (.tmp i) = .pointer (some A) := e1
        simp only [execOp, e4, Sem.run_bind, hu, Result.andThen, Sem.run_pure]
      · cases hs
    · cases hs
  · cases hs
theorem ef_ok (o : Oper) {m : Md} {c : Cnd} {σ' : S} {rs : List Nat} (hs : ef τ np σ m o = some (c, σ', rs)) (hc : c.holds) :
    ∃ w' v G', ((execOp a.eval o).run P w = .ok (.value v) w' ∨ ((execOp a.eval o).run P w = .ok .skip w' ∧ v = undef)) ∧ Rel w0 G0 np σ' (a.put o.dst v) w' G' ∧ Ft w w' G G' rs := by
  unfold ef at hs
  split at hs
  · rename_i r hr
    rw [hs] at hr
    exact ef1_ok hτ h o hr hc
  · obtain ⟨w', v, G', h1, h2⟩ := ef2_ok hτ h o hs hc
    exact ⟨w', v, G', .inl h1, h2⟩
theorem stepR_ok {Φ : List Cal} (hΦ : CalsOk P Φ w0 G0.own) (o : Oper) {hh : OH} {α : Type} {k : S → List Nat → Option α} {r : α} (hs : stepR τ Φ np hh σ o k = some r) {K : Act → World → Prop} {Q : Exit → Act → World → Prop}
    (hK : ∀ σ' rs v w' G', Rel w0 G0 np σ' (a.put o.dst v) w' G' → Ft w w' G G' rs → k σ' rs = some r → K (a.put o.dst v) w') : o.wp P a w K Q := by
  unfold stepR at hs
  simp only [S.share_eq] at hs
  split at hs
  · cases hs
  · rename_i σ1 hg
    obtain ⟨G1, h1, hf1⟩ := h.grabs _ hg
    split at hs
    · rename_i c σ' rs hef
      obtain ⟨hc, hk⟩ := Cnd.run_some hs
      obtain ⟨w', v, G', hrun, hR, hF⟩ := ef_ok hτ h1 o hef hc
      unfold Oper.wp
      rcases hrun with hrun | ⟨hrun, rfl⟩
      · rw [hrun]; exact hK σ' _ v w' G' hR (hf1.trans hF) hk
      · rw [hrun]; exact hK σ' _ undef w' G' hR (hf1.trans hF) hk
    · split at hs
      · rename_i c av d hpv hd
        split at hs
        · rename_i hlt
          obtain ⟨hc, hk⟩ := Cnd.run_some hs
          obtain ⟨v, i, hrun, hS, hf⟩ := pv_ok hτ h1 o hpv hc
          unfold Oper.wp
          rw [hrun]
          have := h1.put hlt hS (AV.free_isDat hf)
          rw [hd] at hK
          simp only [Oper.upon, hd]
          exact hK _ _ v w G1 this (hf1.trans (Ft.refl _ _ _)) hk
        · cases hs
      · split at hs
        · rename_i cl d hop hd
          obtain ⟨callee, args, argTypes⟩ := cl
          simp only at hs
          split at hs
          · rename_i f
            split at hs
            · rename_i cal hcal
              have hmem := List.mem_of_find?_eq_some hcal
              have hfe := List.find?_some hcal
              simp only [beq_iff_eq] at hfe
              split at hs
              · rename_i x ds l fl hargs
                split at hs
                · rename_i hcd
                  simp only [Option.bind_eq_some_iff] at hs
                  obtain ⟨y, hy, hs⟩ := hs
                  split at hs
                  · rename_i av hav
                    split at hs
                    case isFalse => cases hs
                    rename_i hcv
                    split at hs
                    case h_2 => cases hs
                    rename_i σ' hcal'
                    obtain ⟨⟨fn, f1, f2, f3⟩, hF⟩ := hΦ.1 cal hmem
                    have hcall := call_ok h1 hΦ.2 hF hargs hcd.1 hcd.2.1 hcd.2.2.2.1 hcd.2.2.2.2 hy hav hcd.2.2.1 hcal' (fun D hD => by
                      have := List.all_eq_true.1 hcv D hD
                      simpa using this)
                    unfold Oper.wp
                    rw [hfe] at f1 hcall
                    have hrun : (execOp a.eval o).run P w = .ok (.enter f (args.toList.map a.eval).toArray) w := by
                      have hb : ¬ fn.body = none := by cases hbb : fn.body <;> simp [hbb] at f3 ⊢
                      have f2' : ¬ fn.name = "runtime.NumGoroutine" := by simpa using f2
                      simp [execOp, hop, resolve, invoke, callFunc, Act.eval, f1, f2', hb, Deferred.ofValue]
                      apply Array.ext'
                      simp
                    rw [hrun]
                    refine Calls.mono hcall (fun e w' he => ?_)
                    obtain ⟨v, rfl, G', hR, hFt⟩ := he
                    rw [hd] at hK
                    simp only [hd]
                    exact hK _ _ v w' G' hR (hf1.trans hFt) hs
                  · cases hs
                · cases hs
              · cases hs
            · cases hs
          · cases hs
        · cases hs
theorem stepK_ok {Φ : List Cal} (hΦ : CalsOk P Φ w0 G0.own) (o : Oper) {hh : OH} {α : Type} {k : S → Option α} {r : α} (hs : stepK τ Φ np hh σ o k = some r) {K : Act → World → Prop} {Q : Exit → Act → World → Prop}
    (hK : ∀ σ' v w' G', Rel w0 G0 np σ' (a.put o.dst v) w' G' → k σ' = some r → K (a.put o.dst v) w') : o.wp P a w K Q :=
  stepR_ok hτ h hΦ o hs fun σ' _ v w' G' hR _ hk => hK σ' v w' G' hR hk
end
end Go.Proofs.YtgkgfpbdodafaaaGreatDoorE
/- The engine, part K1: a state is cut down to what is still wanted of it. No condition. -/
namespace Go.Proofs.YtgkgfpbdodafaaaGreatDoorE
def S.isDt (σ : S) (i : Nat) : Bool := match σ.slot i with
  | .dat _ => true
  | _ => false
theorem S.isDt_ok {σ : S} {i : Nat} (h : σ.isDt i = true) : ∃ d, σ.slot i = .dat d := by
  unfold S.isDt at h
  split at h
  · rename_i d hd; exact ⟨d, hd⟩
  · cases h
def AV.lone : AV → Bool
  | .fn _ | .que .. => true
  | _ => false
theorem Rel.weak {w0 : World} {G0 : Gh} {np : Nat} {σ σ2 : S} {a : Act} {w : World} {G : Gh} (h : Rel w0 G0 np σ a w G) (hlen : σ2.sl.length = σ.sl.length) (hbox : ∀ k bx, σ2.box k = some bx → σ.box k = some bx)
    (hsl : ∀ i, σ2.slot i = .none ∨ (∃ e t m, σ2.slot i = .dat ⟨.list e t, m, []⟩ ∧ σ.slot i = .nilS) ∨ (∃ d, σ2.slot i = .dat d ∧ σ.slot i = .dat d) ∨ (∃ t x deps, σ2.slot i = .snp t x deps none ∧ SlotR G σ a.tmps w i (.snp t x deps none) (a.tmps.getD i undef)) ∨
      (∃ p, σ2.slot i = .ptr p ∧ σ.slot i = .ptr p ∧ (p.root % 2 == 1 || σ.isDt (p.root / 2)) = true) ∨ (∃ k d, σ2.slot i = .hdr k ∧ σ.slot i = .hdr k ∧ σ2.box k = some (false, d)) ∨ (∃ av, σ2.slot i = av ∧ σ.slot i = av ∧ av.lone = true)) : Rel w0 G0 np σ2 a w G := by
  refine { os := h.os, tape := h.tape, output := h.output, size := h.size, live := h.live, keep := h.keep, frn := h.frn, ext := h.ext, slots := fun i => ?_, boxes := fun k bx hb => h.boxes k bx (hbox k bx hb), tmps := hlen.trans h.tmps, defers := h.defers }
  have hs := h.slots i
  rcases hsl i with e | ⟨e, t, m, e1, e2⟩ | ⟨d, e1, e2⟩ | ⟨t, x, deps, e1, e2⟩ | ⟨p, e1, e2, e3⟩ | ⟨k, d, e1, e2, e3⟩ | ⟨f, e1, e2, e3⟩
  · rw [e]; trivial
  · rw [e1]
    rw [e2] at hs
    have hs' : a.tmps.getD i undef = .slice none 0 0 := hs
    rw [hs']
    exact ⟨[.slice none 0 0], rfl, RepO.nil m _⟩
  · rw [e1]; rw [e2] at hs; exact hs
  · rw [e1]
    obtain ⟨cs, h1, h2, _⟩ := e2
    exact ⟨cs, h1, h2, fun p hp => by cases hp⟩
  · rw [e1]
    rw [e2] at hs
    intro d L cr hroot
    have : RootR G σ a.tmps w p.root d L cr := by
      by_cases hev : p.root % 2 = 0
      · have hdt : σ.isDt (p.root / 2) = true := by
          simp only [Bool.or_eq_true, beq_iff_eq] at e3
          rcases e3 with e3 | e3
          · omega
          · exact e3
        obtain ⟨d1, hd1⟩ := S.isDt_ok hdt
        obtain ⟨hs2, hL, hv⟩ := hroot.slot_inv (j := p.root / 2) (by omega)
        subst hL
        have hs3 : σ.slot (p.root / 2) = .dat d := by
          rcases hsl (p.root / 2) with f | ⟨e, t, m, f1, f2⟩ | ⟨d', f1, f2⟩ | ⟨t, x, deps, f1, f2⟩ | ⟨p', f1, f2, f3⟩ | ⟨k, d', f1, f2, f3⟩ | ⟨f, f1, f2, f3⟩
          · rw [f] at hs2; cases hs2
          · rw [f2] at hd1; cases hd1
          · rw [f1] at hs2; rw [f2, hs2]
          · rw [f1] at hs2; cases hs2
          · rw [f1] at hs2; cases hs2
          · rw [f1] at hs2; cases hs2
          · rw [f2, ← f1, hs2]
        have := RootR.slot (G := G) (σ := σ) (tmps := a.tmps) (w := w) (p.root / 2) d cr hs3 hv
        rwa [show 2 * (p.root / 2) = p.root by omega] at this
      rcases hroot.box_inv (k := p.root / 2) (by omega) with ⟨hb, hL, hl, hc⟩ | ⟨hb, hL, hc⟩
      · subst hL
        have := RootR.box (G := G) (σ := σ) (tmps := a.tmps) (w := w) (p.root / 2) d cr (hbox _ _ hb) hl hc
        rwa [show 2 * (p.root / 2) + 1 = p.root by omega] at this
      · subst hL hc
        have := RootR.hdr (G := G) (σ := σ) (tmps := a.tmps) (w := w) (p.root / 2) d (hbox _ _ hb)
        rwa [show 2 * (p.root / 2) + 1 = p.root by omega] at this
    exact hs d L cr this
  · rw [e1]
    rw [e2] at hs
    exact ⟨hs.1, d, e3⟩
  · rw [e1]; rw [e2] at hs
    cases f <;> first | exact hs | simp [AV.lone] at e3
inductive En where
  | dat (i : Nat) (t : Ty) (m : Md)
  | snp (i : Nat) (t : Ty) (deps : List Nat)
  | box (k : Nat) (b : Bool) (t : Ty) (m : Md)
  | pt (i r : Nat) (π1 π2 : Path)
  | que (i e : Nat) (t : Ty) (m : Md)
@[reducible] def En.t : En → Ty
  | .dat _ t _ => t
  | .snp _ t _ => t
  | .box _ _ t _ => t
  | .pt _ _ _ _ => .int .i64
  | .que _ e t _ => .pair (.list e t) (.int .i64)
structure Gam where
  es : List En
  ps : List (Nat × Place)
  hs : List (Nat × Nat)
def stEq : Path → Path → Bool
  | [], [] => true
  | .f :: π, .f :: π' => stEq π π'
  | .s :: π, .s :: π' => stEq π π'
  | _, _ => false
def splitI : Path → Path → Path → Option Int
  | .i n :: π, [], π2 => if stEq π π2 then some n else none
  | .f :: π, .f :: π1, π2 => splitI π π1 π2
  | .s :: π, .s :: π1, π2 => splitI π π1 π2
  | _, _, _ => none
@[reducible] def ets (es : List En) : List Ty := es.map En.t
def En.get (σ : S) : (e : En) → Option e.t.D
  | .dat i t m => match σ.slot i with
    | .dat d => if h : d.t = t then (if d.m = m then some (h ▸ d.x) else none) else none
    | .nilS => match t with
      | .list _ _ => some []
      | _ => none
    | _ => none
  | .snp i t deps => match roV t (σ.ev (.tmp i)) with
    | some (x, ds) => if ds.all (fun r => deps.contains r) then some x else none
    | none => none
  | .box k b t m => match σ.box k with
    | some (b', d) => if h : d.t = t then (if d.m = m ∧ b' = b then some (h ▸ d.x) else none) else none
    | none => none
  | .pt i r π1 π2 => match σ.slot i with
    | .ptr p => if p.root == r && (r % 2 == 1 || σ.isDt (r / 2)) then splitI p.path π1 π2 else none
    | _ => none
  | .que i e t m => match σ.slot i with
    | .que e' t' m' n x => if h : t' = t then (if e' = e ∧ m' = m then some ((h ▸ x : List t.D), n) else none) else none
    | _ => none
def packE (σ : S) : (es : List En) → Option (HL (ets es))
  | [] => some ()
  | e :: es => match e.get σ, packE σ es with
    | some x, some xs => some (x, xs)
    | _, _ => none
def ptrIs (σ : S) (q : Nat × Place) : Bool := match σ.slot q.1 with
  | .ptr p => p.root == q.2.root && (p.root % 2 == 1 || σ.isDt (p.root / 2)) && stEq p.path q.2.path
  | _ => false
def hdrIs (σ : S) (q : Nat × Nat) : Bool := match σ.slot q.1 with
  | .hdr k => k == q.2
  | _ => false
def Gam.hok (Γ : Gam) : Bool := Γ.hs.all fun q => Γ.es.any fun | .box k false _ _ => k == q.2 | _ => false
def Gam.pack (Γ : Gam) (σ : S) : Option (HL (ets Γ.es)) := if Γ.ps.all (ptrIs σ) && Γ.hs.all (hdrIs σ) && Γ.hok then packE σ Γ.es else none
def unE : (es : List En) → HL (ets es) → S → S
  | [], _, σ => σ
  | .dat i t m :: es, x, σ => unE es x.2 (σ.setSlot i (.dat ⟨t, m, x.1⟩))
  | .snp i t deps :: es, x, σ => unE es x.2 (σ.setSlot i (mkSnp t x.1 deps none))
  | .box k b t m :: es, x, σ => unE es x.2 (σ.setBox k (some (b, ⟨t, m, x.1⟩)))
  | .pt i r π1 π2 :: es, x, σ => unE es x.2 (σ.setSlot i (.ptr ⟨r, π1 ++ .i x.1 :: π2⟩))
  | .que i e t m :: es, x, σ => unE es x.2 (σ.setSlot i (.que e t m x.1.2 x.1.1))
def Gam.un (Γ : Gam) (n : Nat) (x : HL (ets Γ.es)) : S :=
  Γ.hs.foldl (fun σ q => σ.setSlot q.1 (.hdr q.2)) (Γ.ps.foldl (fun σ q => σ.setSlot q.1 (.ptr q.2)) (unE Γ.es x ⟨List.replicate n .none, [], []⟩))
theorem stEq_eq : ∀ {π π' : Path}, stEq π π' = true → π = π'
  | [], [], _ => rfl
  | .f :: π, .f :: π', h => by rw [stEq_eq (π := π) (π' := π') h]
  | .s :: π, .s :: π', h => by rw [stEq_eq (π := π) (π' := π') h]
  | [], .f :: _, h => by simp [stEq] at h
  | [], .s :: _, h => by simp [stEq] at h
  | [], .i _ :: _, h => by simp [stEq] at h
  | .f :: _, [], h => by simp [stEq] at h
  | .s :: _, [], h => by simp [stEq] at h
  | .i _ :: _, _, h => by simp [stEq] at h
  | .f :: _, .s :: _, h => by simp [stEq] at h
  | .f :: _, .i _ :: _, h => by simp [stEq] at h
  | .s :: _, .f :: _, h => by simp [stEq] at h
  | .s :: _, .i _ :: _, h => by simp [stEq] at h
theorem splitI_eq : ∀ {π π1 π2 : Path} {n : Int}, splitI π π1 π2 = some n → π = π1 ++ .i n :: π2
  | .i m :: π, [], π2, n, h => by
    simp only [splitI] at h
    split at h
    · rename_i he
      simp only [Option.some.injEq] at h
      rw [stEq_eq he, h]; rfl
    · cases h
  | .f :: π, .f :: π1, π2, n, h => by rw [splitI_eq (π := π) (π1 := π1) h]; rfl
  | .s :: π, .s :: π1, π2, n, h => by rw [splitI_eq (π := π) (π1 := π1) h]; rfl
  | [], [], _, _, h => by simp [splitI] at h
  | [], _ :: _, _, _, h => by simp [splitI] at h
  | .f :: _, [], _, _, h => by simp [splitI] at h
  | .s :: _, [], _, _, h => by simp [splitI] at h
  | .i _ :: _, _ :: _, _, _, h => by simp [splitI] at h
  | .f :: _, .s :: _, _, _, h => by simp [splitI] at h
  | .f :: _, .i _ :: _, _, _, h => by simp [splitI] at h
  | .s :: _, .f :: _, _, _, h => by simp [splitI] at h
  | .s :: _, .i _ :: _, _, _, h => by simp [splitI] at h
section
variable {w0 : World} {G0 : Gh} {np : Nat} {σ : S} {a : Act} {w : World} {G : Gh} (h : Rel w0 G0 np σ a w G)
include h
def Fine (G : Gh) (σ : S) (a : Act) (w : World) (i : Nat) (av : AV) : Prop := av = .none ∨ (∃ e t m, av = .dat ⟨.list e t, m, []⟩ ∧ σ.slot i = .nilS) ∨ (∃ d, av = .dat d ∧ σ.slot i = .dat d) ∨
  (∃ t x deps, av = .snp t x deps none ∧ SlotR G σ a.tmps w i (.snp t x deps none) (a.tmps.getD i undef)) ∨ (∃ p, av = .ptr p ∧ σ.slot i = .ptr p ∧ (p.root % 2 == 1 || σ.isDt (p.root / 2)) = true) ∨ (∃ av', av = av' ∧ σ.slot i = av' ∧ av'.lone = true)
theorem unE_ok : ∀ (es : List En) {x : HL (ets es)} {σ2 : S}, packE σ es = some x → (∀ k bx, σ2.box k = some bx → σ.box k = some bx) → (∀ i, Fine G σ a w i (σ2.slot i)) →
    (unE es x σ2).sl.length = σ2.sl.length ∧ (∀ k bx, (unE es x σ2).box k = some bx → σ.box k = some bx) ∧ (∀ i, Fine G σ a w i ((unE es x σ2).slot i)) ∧
    (∀ k bx, σ2.box k = some bx → (unE es x σ2).box k ≠ none) ∧ (∀ k t m, En.box k false t m ∈ es → ∃ d, (unE es x σ2).box k = some (false, d))
  | [], x, σ2, _, h1, h2 => ⟨rfl, h1, h2, fun k bx hb => by simp [unE, hb], fun k t m hm => by cases hm⟩
  | e :: es, x, σ2, hp, h1, h2 => by
    simp only [packE] at hp
    split at hp
    · rename_i x1 xs hx hxs
      simp only [Option.some.injEq] at hp
      subst hp
      have key : ∀ (σ3 : S), unE (e :: es) (x1, xs) σ2 = unE es xs σ3 → σ3.sl.length = σ2.sl.length → (∀ k bx, σ3.box k = some bx → σ.box k = some bx) → (∀ i, Fine G σ a w i (σ3.slot i)) → (∀ k bx, σ2.box k = some bx → σ3.box k ≠ none) →
          (∀ k t m, e = En.box k false t m → ∃ d, σ3.box k = some (false, d)) →
          ((unE (e :: es) (x1, xs) σ2).sl.length = σ2.sl.length ∧ (∀ k bx, (unE (e :: es) (x1, xs) σ2).box k = some bx → σ.box k = some bx) ∧ (∀ i, Fine G σ a w i ((unE (e :: es) (x1, xs) σ2).slot i)) ∧ (∀ k bx, σ2.box k = some bx → (unE (e :: es) (x1, xs) σ2).box k ≠ none) ∧ (∀ k t m, En.box k false t m ∈ (e :: es) → ∃ d, (unE (e :: es) (x1, xs) σ2).box k = some (false, d))) := fun σ3 e0 k1 k2 k3 k4 k5 => by
        obtain ⟨g1, g2, g3, g4, g5⟩ := unE_ok es hxs k2 k3
        rw [e0]
        refine ⟨g1.trans k1, g2, g3, fun k bx hb => ?_, fun k t m hm => ?_⟩
        · cases h3 : σ3.box k with
          | none => exact absurd h3 (k4 k bx hb)
          | some bx3 => exact g4 k bx3 h3
        · rcases List.mem_cons.1 hm with hm | hm
          · obtain ⟨d, hd⟩ := k5 k t m hm.symm
            have h5 := g4 k _ hd
            cases h6 : (unE es xs σ3).box k with
            | none => exact absurd h6 h5
            | some bx6 =>
              have := g2 k bx6 h6
              rw [k2 k _ hd] at this
              obtain ⟨rfl⟩ := this
              exact ⟨d, rfl⟩
          · exact g5 k t m hm
      have hset : ∀ i av, Fine G σ a w i av → ∀ j, Fine G σ a w j ((σ2.setSlot i av).slot j) := fun i av hf j => by
        rw [S.setSlot_slot]
        split
        · rename_i hh; rw [← hh.1]; exact hf
        · exact h2 j
      cases e with
      | dat i t m =>
        refine key (σ2.setSlot i (.dat ⟨t, m, x1⟩)) rfl (S.setSlot_len _ _ _) h1 (hset i _ ?_) (fun k bx hb => by rw [S.setSlot_box, hb]; simp) (fun k t m hh => by cases hh)
        simp only [En.get] at hx
        split at hx
        · rename_i d hd
          split at hx
          · rename_i ht
            obtain ⟨dt, dm, dx⟩ := d
            simp only at ht
            subst ht
            split at hx
            · rename_i hm
              simp only at hm
              subst hm
              simp only [Option.some.injEq] at hx
              subst hx
              exact .inr (.inr (.inl ⟨_, rfl, hd⟩))
            · cases hx
          · cases hx
        · rename_i hn
          split at hx
          · simp only [Option.some.injEq] at hx
            subst hx
            exact .inr (.inl ⟨_, _, _, rfl, hn⟩)
          · cases hx
        · cases hx
      | snp i t deps =>
        refine key (σ2.setSlot i (mkSnp t x1 deps none)) rfl (S.setSlot_len _ _ _) h1 (hset i _ ?_) (fun k bx hb => by rw [S.setSlot_box, hb]; simp) (fun k t m hh => by cases hh)
        simp only [En.get] at hx
        split at hx
        · rename_i x2 ds hr
          split at hx
          · rename_i hall
            simp only [Option.some.injEq] at hx
            subst hx
            obtain ⟨cs, q1, q2⟩ := roV_ok h hr
            have hsub : ∀ r ∈ ds, r ∈ deps := fun r hr => by
              have := List.all_eq_true.1 hall r hr
              simpa using this
            have hS : SlotR G σ a.tmps w i (.snp t x2 deps none) (a.tmps.getD i undef) := ⟨cs, q1, RepV.deps hsub q2, fun p hp => by cases hp⟩
            have hS2 := hS.mk
            unfold mkSnp at hS2 ⊢
            split
            · rename_i hf
              rw [if_pos hf] at hS2
              exact .inr (.inr (.inr (.inl ⟨t, x2, [], rfl, hS2⟩)))
            · exact .inr (.inr (.inr (.inl ⟨t, x2, deps, rfl, hS⟩)))
          · cases hx
        · cases hx
      | box k b t m =>
        simp only [En.get] at hx
        split at hx
        · rename_i b' d hd
          split at hx
          · rename_i ht
            obtain ⟨dt, dm, dx⟩ := d
            simp only at ht
            subst ht
            split at hx
            · rename_i hm
              simp only at hm
              obtain ⟨rfl, rfl⟩ := hm
              simp only [Option.some.injEq] at hx
              subst hx
              refine key (σ2.setBox k (some (b', ⟨dt, dm, dx⟩))) rfl rfl (fun k2 bx hb => ?_) (fun j => h2 j) (fun k2 bx hb => ?_) (fun k2 t2 m2 hh => ?_)
              · rw [S.setBox_box] at hb
                split at hb
                · rename_i e; subst e; obtain ⟨rfl⟩ := hb; exact hd
                · exact h1 k2 bx hb
              · rw [S.setBox_box]
                split
                · simp
                · rw [hb]; simp
              · simp only [En.box.injEq] at hh
                obtain ⟨rfl, rfl, _, _⟩ := hh
                exact ⟨_, by rw [S.setBox_box, if_pos rfl]⟩
            · cases hx
          · cases hx
        · cases hx
      | pt i r π1 π2 =>
        refine key (σ2.setSlot i (.ptr ⟨r, π1 ++ .i x1 :: π2⟩)) rfl (S.setSlot_len _ _ _) h1 (hset i _ ?_) (fun k bx hb => by rw [S.setSlot_box, hb]; simp) (fun k t m hh => by cases hh)
        simp only [En.get] at hx
        split at hx
        · rename_i p hp
          split at hx
          · rename_i hcd
            rw [Bool.and_eq_true, beq_iff_eq] at hcd
            have e := splitI_eq hx
            have ep : p = ⟨r, π1 ++ .i x1 :: π2⟩ := by
              cases p
              simp only at e hcd
              rw [e, hcd.1]
            rw [← ep]
            exact .inr (.inr (.inr (.inr (.inl ⟨p, rfl, hp, by rw [hcd.1]; exact hcd.2⟩))))
          · cases hx
        · cases hx
      | que i e t m =>
        refine key (σ2.setSlot i (.que e t m x1.2 x1.1)) rfl (S.setSlot_len _ _ _) h1 (hset i _ ?_) (fun k bx hb => by rw [S.setSlot_box, hb]; simp) (fun k t m hh => by cases hh)
        simp only [En.get] at hx
        split at hx
        · rename_i e' t' m' n y hq
          split at hx
          · rename_i ht
            subst ht
            split at hx
            · rename_i hcd
              obtain ⟨rfl, rfl⟩ := hcd
              simp only [Option.some.injEq] at hx
              subst hx
              exact .inr (.inr (.inr (.inr (.inr ⟨_, rfl, hq, rfl⟩))))
            · cases hx
          · cases hx
        · cases hx
    · cases hp
theorem Gam.ok (Γ : Gam) {x : HL (ets Γ.es)} (hp : Γ.pack σ = some x) : Rel w0 G0 np (Γ.un σ.sl.length x) a w G := by
  unfold Gam.pack at hp
  split at hp
  · rename_i hcd
    simp only [Bool.and_eq_true, List.all_eq_true] at hcd
    obtain ⟨⟨hps, hhs⟩, hok⟩ := hcd
    obtain ⟨g1, g2, g3, _, g5⟩ := unE_ok h Γ.es (σ2 := ⟨List.replicate σ.sl.length .none, [], []⟩) hp (fun k bx hb => by simp [S.box] at hb) (fun i => .inl (by
      simp only [S.slot, List.getD_eq_getElem?_getD, List.getElem?_replicate]
      split <;> rfl))
    simp only [List.length_replicate] at g1
    have hps2 : ∀ (l : List (Nat × Place)) (σ3 : S), (∀ q ∈ l, ptrIs σ q = true) → (∀ i, Fine G σ a w i (σ3.slot i)) → (l.foldl (fun σ q => σ.setSlot q.1 (.ptr q.2)) σ3).sl.length = σ3.sl.length ∧ (∀ k, (l.foldl (fun σ q => σ.setSlot q.1 (.ptr q.2)) σ3).box k = σ3.box k) ∧
        ∀ i, Fine G σ a w i ((l.foldl (fun σ q => σ.setSlot q.1 (.ptr q.2)) σ3).slot i) := by
      intro l
      induction l with
      | nil => intro σ3 _ h3; exact ⟨rfl, fun _ => rfl, h3⟩
      | cons q l ih =>
        intro σ3 hq h3
        obtain ⟨a1, a2, a3⟩ := ih (σ3.setSlot q.1 (.ptr q.2)) (fun q' hq' => hq q' (by simp [hq'])) (fun i => by
          rw [S.setSlot_slot]
          split
          · rename_i hh
            have := hq q (by simp)
            unfold ptrIs at this
            split at this
            · rename_i p hp
              rw [Bool.and_eq_true, Bool.and_eq_true, beq_iff_eq] at this
              obtain ⟨⟨e1, e2⟩, e3⟩ := this
              have e4 := stEq_eq e3
              have : p = q.2 := by cases p; cases hq2 : q.2; rw [hq2] at e1 e4; simp_all
              rw [← this, ← hh.1]
              exact .inr (.inr (.inr (.inr (.inl ⟨p, rfl, hp, e2⟩))))
            · cases this
          · exact h3 i)
        exact ⟨by rw [List.foldl_cons, a1, S.setSlot_len], fun k => by rw [List.foldl_cons, a2 k]; rfl, by rw [List.foldl_cons]; exact a3⟩
    obtain ⟨b1, b2, b3⟩ := hps2 Γ.ps _ hps g3
    have hhs2 : ∀ (l : List (Nat × Nat)) (σ3 : S), (∀ q ∈ l, hdrIs σ q = true ∧ ∃ d, σ3.box q.2 = some (false, d)) → (∀ i, Fine G σ a w i (σ3.slot i) ∨ ∃ k d, σ3.slot i = .hdr k ∧ σ.slot i = .hdr k ∧ σ3.box k = some (false, d)) →
        (l.foldl (fun σ q => σ.setSlot q.1 (.hdr q.2)) σ3).sl.length = σ3.sl.length ∧ (∀ k, (l.foldl (fun σ q => σ.setSlot q.1 (.hdr q.2)) σ3).box k = σ3.box k) ∧
        ∀ i, Fine G σ a w i ((l.foldl (fun σ q => σ.setSlot q.1 (.hdr q.2)) σ3).slot i) ∨ ∃ k d, (l.foldl (fun σ q => σ.setSlot q.1 (.hdr q.2)) σ3).slot i = .hdr k ∧ σ.slot i = .hdr k ∧ σ3.box k = some (false, d) := by
      intro l
      induction l with
      | nil => intro σ3 _ h3; exact ⟨rfl, fun _ => rfl, h3⟩
      | cons q l ih =>
        intro σ3 hq h3
        obtain ⟨a1, a2, a3⟩ := ih (σ3.setSlot q.1 (.hdr q.2)) (fun q' hq' => hq q' (by simp [hq'])) (fun i => by
          rw [S.setSlot_slot]
          split
          · rename_i hh
            obtain ⟨this, d, hd⟩ := hq q (by simp)
            unfold hdrIs at this
            split at this
            · rename_i k hk
              simp only [beq_iff_eq] at this
              subst this
              rw [← hh.1]
              exact .inr ⟨q.2, d, rfl, hk, hd⟩
            · cases this
          · exact h3 i)
        exact ⟨by rw [List.foldl_cons, a1, S.setSlot_len], fun k => by rw [List.foldl_cons, a2 k]; rfl, by rw [List.foldl_cons]; exact a3⟩
    have hbx : ∀ q ∈ Γ.hs, ∃ d, (unE Γ.es x ⟨List.replicate σ.sl.length .none, [], []⟩).box q.2 = some (false, d) := by
      intro q hq
      have := List.all_eq_true.1 hok q hq
      obtain ⟨e, he, hek⟩ := List.any_eq_true.1 this
      cases e with
      | box k b t m =>
        cases b with
        | false =>
          simp only [beq_iff_eq] at hek
          subst hek
          exact g5 _ t m he
        | true => simp at hek
      | _ => simp at hek
    obtain ⟨c1, c2, c3⟩ := hhs2 Γ.hs _ (fun q hq => ⟨hhs q hq, by rw [b2]; exact hbx q hq⟩) (fun i => .inl (b3 i))
    refine h.weak (by rw [Gam.un, c1, b1, g1]) (fun k bx hb => ?_) (fun i => ?_)
    · rw [Gam.un, c2, b2] at hb
      exact g2 k bx hb
    · rcases c3 i with h1 | ⟨k, d, e1, e2, e3⟩
      · rcases h1 with h1 | h1 | h1 | h1 | h1 | h1
        · exact .inl h1
        · exact .inr (.inl h1)
        · exact .inr (.inr (.inl h1))
        · exact .inr (.inr (.inr (.inl h1)))
        · exact .inr (.inr (.inr (.inr (.inl h1))))
        · exact .inr (.inr (.inr (.inr (.inr (.inr h1)))))
      · refine .inr (.inr (.inr (.inr (.inr (.inl ⟨k, d, e1, e2, ?_⟩)))))
        rw [Gam.un, c2]; exact e3
  · cases hp
end
end Go.Proofs.YtgkgfpbdodafaaaGreatDoorE
/- The engine, part K2: operations one behind the other. No condition. -/
namespace Go.Proofs.YtgkgfpbdodafaaaGreatDoorE
def ohAt (l : List (Nat × OH)) (i : Nat) : OH := match l.find? (fun p => p.1 == i) with
  | some p => p.2
  | none => ⟨[], .ro, [], [], none⟩
def S.skip (σ : S) : Option Nat → S
  | some d => σ.newA d (.tup []) []
  | none => σ
def dstIn (σ : S) : Option Nat → Bool
  | some d => decide (d < σ.sl.length)
  | none => true
def und : AV → Bool
  | .tup [] => true
  | _ => false
def denOps {α : Type} (τ : List TE) (Φ : List Cal) (np : Nat) (all : List Oper) (hs : List (Nat × OH)) : Nat → List Oper → S → (S → Option α) → Option α
  | _, [], σ, k => k σ
  | i, o :: os, σ, k => match o.guard with
    | none => stepK τ Φ np (ohAt hs i) σ o fun σ' => denOps τ Φ np all hs (i + 1) os σ' k
    | some (j, want) => match (all[j]?).bind (·.dst) with
      | some t => match σ.ev (.tmp t) with
        | .snp .bool b _ _ => match want with
          | true => bif b then stepK τ Φ np (ohAt hs i) (σ.setSlot t (snpB true)) o (fun σ' => denOps τ Φ np all hs (i + 1) os σ' k) else
              (if dstIn σ o.dst = true then denOps τ Φ np all hs (i + 1) os ((σ.setSlot t (snpB false)).skip o.dst) k else none)
          | false => bif b then (if dstIn σ o.dst = true then denOps τ Φ np all hs (i + 1) os ((σ.setSlot t (snpB true)).skip o.dst) k else none) else
              stepK τ Φ np (ohAt hs i) (σ.setSlot t (snpB false)) o (fun σ' => denOps τ Φ np all hs (i + 1) os σ' k)
        | _ => if und (σ.slot t) = true ∧ dstIn σ o.dst = true then denOps τ Φ np all hs (i + 1) os (σ.skip o.dst) k else none
      | none => none
theorem Rel.know {w0 : World} {G0 : Gh} {np : Nat} {σ : S} {a : Act} {w : World} {G : Gh} (h : Rel w0 G0 np σ a w G) {t : Nat} {b : Bool} {ds : List Nat} {src : Option Place} (hs : σ.ev (.tmp t) = .snp .bool b ds src) :
    Rel w0 G0 np (σ.setSlot t (snpB b)) a w G ∧ a.tmps[t]? = some (.bool b) := by
  have hsl := (h.ev 0 (.tmp t)).1
  rw [hs] at hsl
  have hb : a.tmps.getD t undef = .bool b := hsl.bool
  have hlt : t < σ.sl.length := by
    rcases Nat.lt_or_ge t σ.sl.length with h | h
    · exact h
    · simp only [S.ev, S.slot, List.getD_eq_getElem?_getD, List.getElem?_eq_none h, Option.getD_none] at hs; cases hs
  have hlt2 : t < a.tmps.size := by rw [← h.tmps]; exact hlt
  refine ⟨?_, ?_⟩
  · have hne : ∀ i, (σ.setSlot t (snpB b)).slot i = if t = i then snpB b else σ.slot i := fun i => by
      rw [S.setSlot_slot]
      by_cases e : t = i
      · rw [if_pos ⟨e, hlt⟩, if_pos e]
      · rw [if_neg (fun hh => e hh.1), if_neg e]
    have hroots : ∀ r d L cs, RootR G (σ.setSlot t (snpB b)) a.tmps w r d L cs → RootR G σ a.tmps w r d L cs := by
      intro r d L cs hr
      cases hr with
      | slot i d cs hs' hv =>
        rw [hne i] at hs'
        split at hs'
        · cases hs'
        · exact .slot i d cs hs' hv
      | box k d cs hb hl hc => exact .box k d cs hb hl hc
      | hdr k d hb => exact .hdr k d hb
    refine { os := h.os, tape := h.tape, output := h.output, size := h.size, live := h.live, keep := h.keep, frn := h.frn, ext := h.ext, slots := fun i => ?_, boxes := fun k bx hb => h.boxes k bx hb, tmps := by rw [S.setSlot_len]; exact h.tmps, defers := h.defers }
    rw [hne i]
    split
    · rename_i e
      subst e
      rw [hb]
      exact ⟨[.bool b], rfl, rfl, fun p hp => by cases hp⟩
    · have hsi := h.slots i
      cases hav : σ.slot i <;> rw [hav] at hsi
      case none => trivial
      case dat d => exact hsi
      case snp t' x deps src' =>
        obtain ⟨cs, q1, q2, q3⟩ := hsi
        exact ⟨cs, q1, q2, fun p hp d L cr hr => q3 p hp d L cr (hroots _ _ _ _ hr)⟩
      case ptr p => exact fun d L cr hr => hsi d L cr (hroots _ _ _ _ hr)
      case rp t' x deps => exact hsi
      case nilS => exact hsi
      case hdr k => exact hsi
      case vw k π => exact hsi
      case que e t m n x => exact hsi
      case cp s => exact hsi
      case pp t m x r => exact hsi
      case tup vs => exact hsi
      case fn f => exact hsi
  · rw [Array.getD_eq_getD_getElem?, Array.getElem?_eq_getElem hlt2] at hb
    simp only [Option.getD_some] at hb
    rw [Array.getElem?_eq_getElem hlt2, hb]
theorem Rel.skip {w0 : World} {G0 : Gh} {np : Nat} {σ : S} {a : Act} {w : World} {G : Gh} (h : Rel w0 G0 np σ a w G) {dst : Option Nat} (hd : dstIn σ dst = true) : Rel w0 G0 np (σ.skip dst) (a.put dst undef) w G := by
  cases dst with
  | none => exact h
  | some d =>
    have hd' : d < σ.sl.length := by simpa [dstIn] using hd
    exact h.newA hd' (av := .tup []) (v := undef) (ms := []) (w' := w) (own' := G.own) (Chg.refl _ _ _) rfl rfl rfl h.live (by simp) (fun σ' tmps => ⟨#[], rfl, rfl, fun j hj => absurd hj (Nat.not_lt_zero j)⟩)
theorem Rel.und {w0 : World} {G0 : Gh} {np : Nat} {σ : S} {a : Act} {w : World} {G : Gh} (h : Rel w0 G0 np σ a w G) {t : Nat} (hu : und (σ.slot t) = true) {ops : Array Oper} {j : Nat} (hj : (ops[j]?).bind (·.dst) = some t) : yielded ops a.tmps j = none := by
  have hsl := h.slots t
  unfold Go.Proofs.YtgkgfpbdodafaaaGreatDoorE.und at hu
  split at hu
  · rename_i hs
    rw [hs] at hsl
    obtain ⟨arr, e1, e2, _⟩ := hsl
    have hlt : t < a.tmps.size := by
      rw [← h.tmps]
      rcases Nat.lt_or_ge t σ.sl.length with h | h
      · exact h
      · simp only [S.slot, List.getD_eq_getElem?_getD, List.getElem?_eq_none h] at hs; cases hs
    rw [Array.getD_eq_getD_getElem?, Array.getElem?_eq_getElem hlt, Option.getD_some] at e1
    simp only [yielded, hj, Option.bind_some, Array.getElem?_eq_getElem hlt, e1]
  · cases hu
section
variable {P : Program} {τ : List TE} (hτ : TabOk P τ) {Φ : List Cal} {w0 : World} {G0 : Gh} {np : Nat} (hΦ : CalsOk P Φ w0 G0.own)
include hτ hΦ
theorem denOps_ok {α : Type} {ops : Array Oper} {hs : List (Nat × OH)} {k : S → Option α} {r : α} {Q : Exit → Act → World → Prop} : ∀ (os : List Oper) (i : Nat) {σ : S} {a : Act} {w : World} {G : Gh},
    denOps τ Φ np ops.toList hs i os σ k = some r → ops.toList.drop i = os → Rel w0 G0 np σ a w G → (∀ σ' a' w' G', Rel w0 G0 np σ' a' w' G' → k σ' = some r → Q .normal a' w') → wpOps P ops Q (List.range' i os.length) a w
  | [], i, σ, a, w, G, hd, _, h, hQ => hQ σ a w G h hd
  | o :: os, i, σ, a, w, G, hd, hdrop, h, hQ => by
    have hlt : i < ops.toList.length := by
      rcases Nat.lt_or_ge i ops.toList.length with h1 | h1
      · exact h1
      · rw [List.drop_of_length_le h1] at hdrop; cases hdrop
    have hcons := List.drop_eq_getElem_cons hlt
    rw [hdrop] at hcons
    obtain ⟨ho, hos⟩ := List.cons.inj hcons
    have hoi : ops[i]? = some o := by
      rw [ho]
      simp only [Array.length_toList] at hlt
      simp [hlt]
    rw [List.length_cons, List.range'_succ]
    simp only [wpOps, hoi]
    simp only [denOps] at hd
    have next : ∀ (σ1 : S) (G1 : Gh), Rel w0 G0 np σ1 a w G1 → stepK τ Φ np (ohAt hs i) σ1 o (fun σ' => denOps τ Φ np ops.toList hs (i + 1) os σ' k) = some r → o.wp P a w (wpOps P ops Q (List.range' (i + 1) os.length)) Q := fun σ1 G1 h1 hk =>
      stepK_ok hτ h1 hΦ o hk (fun σ' v w' G' hR hk' => denOps_ok os (i + 1) hk' hos.symm hR hQ)
    split at hd
    · rename_i hg
      have hw : Region.wanted o (yielded ops a.tmps) = true := by simp only [Region.wanted, hg]
      rw [if_pos hw]
      exact .inl (next σ G h hd)
    · rename_i j want hg
      split at hd
      · rename_i t ht
        have ht' : (ops[j]?).bind (·.dst) = some t := by simpa using ht
        split at hd
        · rename_i b ds src hs'
          obtain ⟨hkn, htm⟩ := h.know hs'
          have hy : yielded ops a.tmps j = some b := by simp only [yielded, ht', Option.bind_some, htm]
          have hw : Region.wanted o (yielded ops a.tmps) = (b == want) := by
            simp only [Region.wanted, hg, hy]
            cases b <;> cases want <;> rfl
          rw [hw]
          cases want with
          | true =>
            cases b with
            | true =>
              simp only [cond_true] at hd
              exact .inl (next _ G hkn hd)
            | false =>
              simp only [cond_false] at hd
              split at hd
              · rename_i hl
                have := hkn.skip (dst := o.dst) (by unfold dstIn at hl ⊢; rw [S.setSlot_len]; exact hl)
                exact denOps_ok os (i + 1) hd hos.symm this hQ
              · cases hd
          | false =>
            cases b with
            | true =>
              simp only [cond_true] at hd
              split at hd
              · rename_i hl
                have := hkn.skip (dst := o.dst) (by unfold dstIn at hl ⊢; rw [S.setSlot_len]; exact hl)
                exact denOps_ok os (i + 1) hd hos.symm this hQ
              · cases hd
            | false =>
              simp only [cond_false] at hd
              exact .inl (next _ G hkn hd)
        · split at hd
          · rename_i hc
            have hy := h.und hc.1 ht'
            have hw : Region.wanted o (yielded ops a.tmps) = false := by simp only [Region.wanted, hg, hy]; rfl
            rw [hw]
            exact denOps_ok os (i + 1) hd hos.symm (h.skip hc.2) hQ
          · cases hd
      · cases hd
end
end Go.Proofs.YtgkgfpbdodafaaaGreatDoorE
