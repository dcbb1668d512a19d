/- The engine, texts K3 K3b K3c K3d K3e K4 K5 L1: how code is reckoned as Lean functions, and that it is sound. No condition. -/
import Derived.Test.YtmpfjlolcmokbaaPackD
import Derived.Orders
set_option linter.all false
/- The engine, part K3: operations whose order is left open. No condition. -/
namespace Go.Proofs.YtmpfjlolcmokbaaE

def AV.hits (r : Nat) : AV → Bool
  | .snp _ _ deps src => deps.contains r || (match src with | Option.some p => p.root == r | Option.none => false)
  | .ptr p => p.root == r
  | .rp _ _ deps => deps.contains r
  | _ => false
theorem AV.hits_kill {r : Nat} {av : AV} (h : av.hits r = false) : av.kill r = av := by
  cases av with
  | snp t x deps src =>
    simp only [AV.hits, Bool.or_eq_false_iff] at h
    simp only [AV.kill]
    rw [if_neg]
    rintro (h1 | h1)
    · have := h.1; simp at this; exact this h1
    · cases src with
      | none => simp at h1
      | some p =>
        simp at h1
        have := h.2
        simp at this; exact this h1
  | ptr p =>
    simp only [AV.hits, beq_eq_false_iff_ne] at h
    simp only [AV.kill]
    rw [if_neg (fun h1 => h h1.1)]
  | rp t x deps =>
    simp only [AV.hits] at h
    simp only [AV.kill]
    rw [if_neg]
    intro h1; simp at h; exact h h1
  | _ => all_goals rfl
theorem AV.kill_hits {r : Nat} {av : AV} (h : av.kill r = av) (hp : ∀ p, av ≠ .ptr p) : av.hits r = false := by
  cases av with
  | snp t x deps src =>
    simp only [AV.kill] at h
    split at h
    · cases h
    · rename_i hn
      simp only [AV.hits, Bool.or_eq_false_iff]
      refine ⟨?_, ?_⟩
      · simp; exact fun h1 => hn (.inl h1)
      · cases src with
        | none => rfl
        | some p => simp; exact fun h1 => hn (.inr (by simp [h1]))
  | ptr p => exact absurd rfl (hp p)
  | rp t x deps =>
    simp only [AV.kill] at h
    split at h
    · cases h
    · rename_i hn; simp [AV.hits]; exact hn
  | _ => all_goals rfl
theorem S.ext' {σ σ' : S} (hl : σ.sl.length = σ'.sl.length) (hs : ∀ i, σ.slot i = σ'.slot i) (hb : σ.bx = σ'.bx) (hk : σ.lk = σ'.lk) : σ = σ' := by
  obtain ⟨sl, bx, lk⟩ := σ
  obtain ⟨sl', bx', lk'⟩ := σ'
  simp only at hl hb hk
  subst hb hk
  congr 1
  apply List.ext_getElem hl
  intro i h1 h2
  have := hs i
  simp only [S.slot, List.getD_eq_getElem?_getD, List.getElem?_eq_getElem h1, List.getElem?_eq_getElem h2, Option.getD_some] at this
  exact this
/-- What was known of some slots is left aside. -/
theorem Rel.hide {w0 : World} {G0 : Gh} {np : Nat} {σ σ2 : S} {a : Act} {w : World} {G : Gh} (h : Rel w0 G0 np σ a w G) (hl : σ2.sl.length = σ.sl.length) (hs : ∀ i, σ2.slot i = .none ∨ σ2.slot i = σ.slot i) (hb : σ2.bx = σ.bx) : Rel w0 G0 np σ2 a w G := by
  have hbx : ∀ k, σ2.box k = σ.box k := fun k => by simp only [S.box, hb]
  have hroots : ∀ r d L cs, RootR G σ2 a.tmps w r d L cs → RootR G σ a.tmps w r d L cs := by
    intro r d L cs hr
    cases hr with
    | slot i d cs hs' hv =>
      rcases hs i with e | e
      · rw [e] at hs'; cases hs'
      · exact .slot i d cs (by rw [← e]; exact hs') hv
    | box k d cs hb' hl hc => exact .box k d cs (by rw [← hbx]; exact hb') hl hc
    | hdr k d hb' => exact .hdr k d (by rw [← hbx]; exact hb')
  refine { os := h.os, tape := h.tape, output := h.output, size := h.size, live := h.live, keep := h.keep, frn := h.frn, ext := h.ext, slots := fun i => ?_, boxes := fun k bx hb' => h.boxes k bx (by rw [← hbx]; exact hb'), tmps := hl.trans h.tmps, defers := h.defers }
  rcases hs i with e | e
  · rw [e]; trivial
  · rw [e]
    have hsi := h.slots i
    cases hav : σ.slot i <;> rw [hav] at hsi
    case none => trivial
    case dat d => exact hsi
    case snp t' x deps src' =>
      obtain ⟨cs, q1, q2, q3⟩ := hsi
      exact ⟨cs, q1, q2, fun p hp d L cr hr => q3 p hp d L cr (hroots _ _ _ _ hr)⟩
    case ptr p => exact fun d L cr hr => hsi d L cr (hroots _ _ _ _ hr)
    case rp t' x deps => exact hsi
    case nilS => exact hsi
    case hdr k => exact ⟨hsi.1, by rw [hbx]; exact hsi.2⟩
    case tup vs => exact hsi
    case fn f => exact hsi

/-- What an operation that changes nothing yields. -/
def OpFact (τ : List TE) (Φ : List Cal) (σ : S) (o : Oper) (av : AV) : Prop :=
  (∃ c, pv τ σ.ev σ.rt o.op = some (c, av) ∧ c.holds) ∨
  (∃ i j D vs, o.op = .extract (.tmp i) j ∧ σ.slot i = .tup vs ∧ vs[j]? = some D ∧ D.m.noOwn = true ∧ av = .snp D.t D.x [] none) ∨
  (∃ cl f cal x ds y, o.op = .call cl ∧ cl.callee = .value (.func f) ∧ cal ∈ Φ ∧ cal.f = f ∧ σ.args 0 cal.ps cl.args.toList = some (x, ds, []) ∧ cal.F x = some y ∧ resA ds cal.rs y = some av)
def pureK {α : Type} (τ : List TE) (Φ : List Cal) (σ : S) (o : Oper) (k : AV → Option α) : Option α := match pv τ σ.ev σ.rt o.op with
  | some (c, av) => c.run (k av)
  | none => match o.op with
    | .extract (.tmp i) j => match σ.slot i with
      | .tup vs => match vs[j]? with
        | some D => if D.m.noOwn then k (.snp D.t D.x [] none) else none
        | none => none
      | _ => none
    | .call cl => match cl.callee with
      | .value (.func f) => match Φ.find? (fun c => c.f == f) with
        | some cal => match σ.args 0 cal.ps cl.args.toList with
          | some (x, ds, []) => (cal.F x).bind fun y => match resA ds cal.rs y with
            | some av => k av
            | none => none
          | _ => none
        | none => none
      | _ => none
    | _ => none
theorem pureK_ok {α : Type} {τ : List TE} {Φ : List Cal} {σ : S} {o : Oper} {k : AV → Option α} {r : α} (h : pureK τ Φ σ o k = some r) : ∃ av, OpFact τ Φ σ o av ∧ k av = some r := by
  unfold pureK at h
  split at h
  · rename_i c av hp
    obtain ⟨h1, h2⟩ := Cnd.run_some h
    exact ⟨av, .inl ⟨c, hp, h1⟩, h2⟩
  · split at h
    · rename_i i j hop
      split at h
      · rename_i vs hvs
        split at h
        · rename_i D hD
          split at h
          · rename_i hno
            exact ⟨_, .inr (.inl ⟨i, j, D, vs, hop, hvs, hD, hno, rfl⟩), h⟩
          · cases h
        · cases h
      · cases h
    · rename_i cl hop
      split at h
      · rename_i f hf
        split at h
        · rename_i cal hcal
          split at h
          · rename_i x ds hargs
            simp only [Option.bind_eq_some_iff] at h
            obtain ⟨y, hy, h⟩ := h
            split at h
            · rename_i av hav
              have hfe := List.find?_some hcal
              simp only [beq_iff_eq] at hfe
              exact ⟨av, .inr (.inr ⟨cl, f, cal, x, ds, y, hop, hf, List.mem_of_find?_eq_some hcal, hfe, hargs, hy, hav⟩), h⟩
            · cases h
          · cases h
        · cases h
      · cases h
    · cases h

theorem ev_up {σ σ2 : S} (hs : ∀ i, σ.slot i = .none ∨ σ.slot i = σ2.slot i) (hb : σ.bx = σ2.bx) (o : Operand) : σ.ev o = .none ∨ σ.ev o = σ2.ev o := by
  have hbx : ∀ k, σ.box k = σ2.box k := fun k => by simp only [S.box, hb]
  cases o with
  | tmp t =>
    simp only [S.ev]
    rcases hs t with e | e
    · left; rw [e]
    · right; rw [e]
      cases σ2.slot t <;> simp only [hbx]
  | _ => all_goals exact .inr rfl
theorem args_up {σ σ2 : S} (hs : ∀ i, σ.slot i = .none ∨ σ.slot i = σ2.slot i) (hb : σ.bx = σ2.bx) : ∀ (ps : List Prm) (i : Nat) (os : List Operand) {xs : HL (pts ps)} {ds : List Nat}, σ.args i ps os = some (xs, ds, []) → σ2.args i ps os = some (xs, ds, [])
  | [], i, [], xs, ds, h => by simpa [S.args] using h
  | [], i, _ :: _, xs, ds, h => by simp [S.args] at h
  | ⟨.ro, t⟩ :: ps, i, [], xs, ds, h => by simp [S.args] at h
  | ⟨.mov m, t⟩ :: ps, i, [], xs, ds, h => by simp [S.args] at h
  | ⟨.ro, t⟩ :: ps, i, o :: os, xs, ds, h => by
    simp only [S.args] at h ⊢
    split at h
    · rename_i x d xs' ds' l' hx hr
      simp only [Option.some.injEq, Prod.mk.injEq] at h
      obtain ⟨rfl, rfl, rfl⟩ := h
      have e1 : σ2.ev o = σ.ev o := by
        rcases ev_up hs hb o with e | e
        · rw [e] at hx; simp [roV] at hx
        · exact e.symm
      rw [e1, hx, args_up hs hb ps (i + 1) os hr]
    · cases h
  | ⟨.mov m, t⟩ :: ps, i, o :: os, xs, ds, h => by
    simp only [S.args] at h ⊢
    split at h
    · rename_i m' x ms xs' ds' l' hx hr
      split at h
      · rename_i hm
        simp only [Option.some.injEq, Prod.mk.injEq, List.append_eq_nil_iff, List.map_eq_nil_iff] at h
        obtain ⟨rfl, rfl, rfl, rfl⟩ := h
        have e2 : σ2.take t m o = some (m', x, []) := by
          have e1 : σ2.ev o = σ.ev o ∨ σ.ev o = .none := by
            rcases ev_up hs hb o with e | e
            · exact .inr e
            · exact .inl e.symm
          have htv : ∀ {r}, takeV t m (σ.ev o) = some r → takeV t m (σ2.ev o) = some r := fun {r} hv => by
            rcases e1 with e | e
            · rw [e]; exact hv
            · rw [e] at hv; simp [takeV] at hv
          cases o with
          | tmp k =>
            simp only [S.take] at hx ⊢
            rcases hs k with e | e
            · rw [e] at hx
              simp only [S.ev, e, takeV] at hx
              cases hx
            · rw [e] at hx
              cases hk : σ2.slot k <;> rw [hk] at hx <;> simp only at hx ⊢ <;> try exact htv hx
              split at hx
              · rename_i hno
                rw [if_pos hno]
                exact htv hx
              · rename_i hno
                rw [if_neg hno]
                exact hx
          | _ => all_goals (simp only [S.take] at hx ⊢; exact htv hx)
        rw [e2, args_up hs hb ps (i + 1) os hr]
        simp [hm]
      · cases h
    · cases h

section
variable {P : Program} {τ : List TE} (hτ : TabOk P τ) {Φ : List Cal} (hΦ : CalsOk P Φ) {w0 : World} {G0 : Gh} {np : Nat} {σ σs : S} {a : Act} {w : World} {G : Gh} (h : Rel w0 G0 np σ a w G)
include hτ hΦ h
/-- Such an operation, looked at with less known (σs), run with more known (σ). -/
theorem pure_ok (hl : σs.sl.length = σ.sl.length) (hs : ∀ i, σs.slot i = .none ∨ σs.slot i = σ.slot i) (hb : σs.bx = σ.bx) {o : Oper} {av : AV} {d : Nat} (hd : o.dst = some d) (hdl : d < σ.sl.length) (hav : av.kill (2 * d) = av)
    (hroot : ∀ p, (av = .ptr p ∨ ∃ t x deps, av = .snp t x deps (some p)) → ∀ i, p.root = 2 * i → σs.slot i = σ.slot i) (hk : ∀ i, i ≠ d → (σ.slot i).kill (2 * d) = σ.slot i) (hf : OpFact τ Φ σs o av) {K : Act → World → Prop} {Q : Exit → Act → World → Prop}
    (hK : ∀ v w' G', Rel w0 G0 np (σ.setSlot d av) (a.put (some d) v) w' G' → K (a.put (some d) v) w') : o.wp P a w K Q := by
  have hRs := h.hide hl hs hb
  have hbx : ∀ k, σs.box k = σ.box k := fun k => by simp only [S.box, hb]
  have hrootR : ∀ r d L cs, (∀ i, r = 2 * i → σs.slot i = σ.slot i) → RootR G σ a.tmps w r d L cs → RootR G σs a.tmps w r d L cs := by
    intro r d L cs hi hr
    cases hr with
    | slot i d cs hs' hv => exact .slot i d cs (by rw [hi i rfl]; exact hs') hv
    | box k d cs hb' hl hc => exact .box k d cs (by rw [hbx]; exact hb') hl hc
    | hdr k d hb' => exact .hdr k d (by rw [hbx]; exact hb')
  -- the state after a value is put
  have hput : σ.put d av = σ.setSlot d av := by
    refine S.ext' (σ := σ.put d av) (σ' := σ.setSlot d av) (by simp [S.put, S.setSlot]) (fun i => ?_) rfl rfl
    rw [S.put_slot, S.setSlot_slot]
    split
    · exact hav
    · rename_i hne
      by_cases e : d = i
      · exact absurd ⟨e, hdl⟩ hne
      · exact hk i (fun h => e h.symm)
  have hnew : σ.newA d av [] = σ.setSlot d av := by
    refine S.ext' (σ := σ.newA d av []) (σ' := σ.setSlot d av) (by rw [S.newA_len, S.setSlot_len]) (fun i => ?_) rfl rfl
    rw [S.newA_slot _ _ _ _ hdl, S.setSlot_slot]
    by_cases e : d = i
    · rw [if_pos e, if_pos ⟨e, hdl⟩]
    · rw [if_neg e, if_neg (by simp : ¬ i ∈ ([] : List Nat)), if_neg (fun h : d = i ∧ d < σ.sl.length => e h.1)]
      exact hk i (fun h => e h.symm)
  have hval : ∀ v i, (execOp a.eval o).run P w = .ok (.value v) w → SlotR G σs a.tmps w i av v → av.isDat = false → o.wp P a w K Q := fun v i hrun hS hdat => by
    have hS2 : SlotR G σ a.tmps w i av v := by
      cases av with
      | snp t x deps src =>
        obtain ⟨cs, q1, q2, q3⟩ := hS
        exact ⟨cs, q1, q2, fun p hp d L cr hr => q3 p hp d L cr (hrootR _ _ _ _ (hroot p (.inr ⟨t, x, deps, by rw [hp]⟩)) hr)⟩
      | ptr p => exact fun d L cr hr => hS d L cr (hrootR _ _ _ _ (hroot p (.inl rfl)) hr)
      | hdr k => exact ⟨hS.1, by rw [← hbx]; exact hS.2⟩
      | _ => all_goals exact hS
    have := h.put (d := d) hdl hS2 hdat
    rw [hput] at this
    unfold Oper.wp
    rw [hrun]
    simp only [Oper.upon, hd]
    exact hK v w G this
  rcases hf with ⟨c, hp, hc⟩ | ⟨i, j, D, vs, hop, hvs, hD, hno, rfl⟩ | ⟨cl, f, cal, x, ds, y, hop, hcl, hmem, hfe, hargs, hy, hra⟩
  · obtain ⟨v, i, hrun, hS, hfr⟩ := pv_ok hτ hRs o hp hc
    exact hval v i hrun hS (AV.free_isDat hfr)
  · have hsl := hRs.slots i
    rw [hvs] at hsl
    obtain ⟨arr, e1, e2, e3⟩ := hsl
    obtain ⟨hj, rfl⟩ := List.getElem?_eq_some_iff.1 hD
    obtain ⟨cs, q1, q2⟩ := e3 j hj
    have hjs : j < arr.size := by omega
    have e4 : a.eval (.tmp i) = .tuple arr := e1
    refine hval (arr.getD j undef) 0 ?_ ⟨cs, q1, RepO.noOwn hno q2, fun p hp => by cases hp⟩ rfl
    simp only [execOp, hop, e4, Instr.extract, Array.getElem?_eq_getElem hjs, Sem.run_bind, Sem.run_pure, Result.andThen]
    simp [hjs]
  · have hargs2 := args_up (σ2 := σ) hs hb cal.ps 0 _ hargs
    obtain ⟨⟨fn, f1, f2, f3⟩, hF⟩ := hΦ cal hmem
    have hcall := call_ok h hF hargs2 (by simp) (by simp) hy hra (d := d) hdl
    unfold Oper.wp
    rw [hfe] at f1 hcall
    obtain ⟨callee, args, argTypes⟩ := cl
    simp only at hcl
    subst hcl
    have hrun : (execOp a.eval o).run P w = .ok (.enter f (args.toList.map a.eval).toArray) w := by
      have hb : ¬ fn.body = none := by cases hbb : fn.body <;> simp [hbb] at f3 ⊢
      have f2' : ¬ fn.name = "runtime.NumGoroutine" := by simpa using f2
      simp [execOp, hop, resolve, invoke, callFunc, Act.eval, f1, f2', hb, Deferred.ofValue]
      apply Array.ext'
      simp
    rw [hrun]
    refine Calls.mono hcall (fun e w' he => ?_)
    obtain ⟨v, rfl, G', hR⟩ := he
    simp only [hd]
    rw [List.map_nil, hnew] at hR
    exact hK v w' G' hR
end
end Go.Proofs.YtmpfjlolcmokbaaE
/- The engine, part K3b: a region whose order is drawn. No condition. -/
namespace Go.Proofs.YtmpfjlolcmokbaaE

def edgesOf (o : Oper) : List Nat := (o.after.toList.filter (Region.binds .any)).map (·.on)
def maskOf (acc : List Nat) (es : List Nat) : Nat := es.foldl (fun m e => m ||| (2 ^ e ||| acc.getD e 0)) 0
def ancsGo : List Nat → List Oper → List Nat
  | acc, [] => acc
  | acc, o :: os => ancsGo (acc ++ [maskOf acc (edgesOf o)]) os
/-- What must have been done before each. -/
def ancs (ops : List Oper) : List Nat := ancsGo [] ops
theorem maskOf_ok (acc : List Nat) (i : Nat) : ∀ (es : List Nat) (m : Nat), (es.foldl (fun m e => m ||| (2 ^ e ||| acc.getD e 0)) m).testBit i = true → m.testBit i = true ∨ ∃ e ∈ es, i = e ∨ (acc.getD e 0).testBit i = true
  | [], m, h => .inl h
  | e :: es, m, h => by
    simp only [List.foldl_cons] at h
    rcases maskOf_ok acc i es _ h with h1 | ⟨e', he', h1⟩
    · rw [Nat.testBit_or, Nat.testBit_or, Nat.testBit_two_pow] at h1
      simp only [Bool.or_eq_true, decide_eq_true_eq] at h1
      rcases h1 with h1 | h1 | h1
      · exact .inl h1
      · exact .inr ⟨e, by simp, .inl h1.symm⟩
      · exact .inr ⟨e, by simp, .inr h1⟩
    · exact .inr ⟨e', by simp [he'], h1⟩
def Closed (ops : List Oper) (D : Nat → Bool) : Prop := ∀ j o, ops[j]? = some o → D j = true → ∀ e ∈ edgesOf o, D e = true
theorem ancsGo_ok {ops : List Oper} {D : Nat → Bool} (hD : Closed ops D) : ∀ (os pre : List Oper) (acc : List Nat), ops = pre ++ os → acc.length = pre.length → (∀ j o, pre[j]? = some o → (∀ e ∈ edgesOf o, D e = true) → ∀ i, (acc.getD j 0).testBit i = true → D i = true) →
    ∀ j o, ops[j]? = some o → (∀ e ∈ edgesOf o, D e = true) → ∀ i, ((ancsGo acc os).getD j 0).testBit i = true → D i = true
  | [], pre, acc, he, hl, hg => by
    rw [List.append_nil] at he
    subst he
    exact hg
  | o :: os, pre, acc, he, hl, hg => by
    refine ancsGo_ok hD os (pre ++ [o]) _ (by rw [he]; simp) (by simp [hl]) (fun j o' hj hedge i hi => ?_)
    by_cases hjl : j < pre.length
    · rw [List.getElem?_append_left hjl] at hj
      rw [List.getD_eq_getElem?_getD, List.getElem?_append_left (by omega), ← List.getD_eq_getElem?_getD] at hi
      exact hg j o' hj hedge i hi
    · have hj2 : j = pre.length := by
        have := (List.getElem?_eq_some_iff.1 hj).1
        simp at this; omega
      subst hj2
      rw [List.getElem?_append_right (Nat.le_refl _)] at hj
      simp at hj
      subst hj
      rw [List.getD_eq_getElem?_getD, List.getElem?_append_right (by omega), hl] at hi
      simp only [Nat.sub_self, List.getElem?_cons_zero, Option.getD_some] at hi
      rcases maskOf_ok acc i _ _ hi with h0 | ⟨e, he1, rfl | he2⟩
      · simp at h0
      · exact hedge _ he1
      · have hDe := hedge e he1
        by_cases hel : e < pre.length
        · have hpe : pre[e]? = some pre[e] := List.getElem?_eq_getElem hel
          have hoe : ops[e]? = some pre[e] := by rw [he, List.getElem?_append_left hel]; exact hpe
          exact hg e _ hpe (fun e' he' => hD e _ hoe hDe e' he') i he2
        · rw [List.getD_eq_getElem?_getD, List.getElem?_eq_none (by omega)] at he2
          simp at he2
theorem ancs_ok {ops : List Oper} {D : Nat → Bool} (hD : Closed ops D) {j : Nat} {o : Oper} (hj : ops[j]? = some o) (he : ∀ e ∈ edgesOf o, D e = true) {i : Nat} (hi : ((ancs ops).getD j 0).testBit i = true) : D i = true :=
  ancsGo_ok hD ops [] [] rfl rfl (fun j o h => by simp at h) j o hj he i hi

/-- What may lead through the roots rs is forgotten. -/
def AV.killH (rs : List Nat) (av : AV) : AV := if rs.any (fun r => av.hits r) then .none else av
def S.killH (σ : S) (rs : List Nat) : S := { σ with sl := σ.sl.map (AV.killH rs) }
def dstOf (ops : List Oper) (i : Nat) : Nat := ((ops[i]?).bind (·.dst)).getD 0
/-- What is left aside when the j-th is looked at. -/
def hidOf (ops : List Oper) (an : List Nat) (nb j : Nat) : List Nat := ((List.range nb).filter fun i => !(an.getD j 0).testBit i).map (dstOf ops)
def drawOps {α : Type} (τ : List TE) (Φ : List Cal) (ops : List Oper) (an : List Nat) (nb : Nat) : Nat → List Oper → S → (S → Option α) → Option α
  | _, [], σ, k => k σ
  | j, o :: os, σ, k => pureK τ Φ (σ.emptyA (hidOf ops an nb j)) o fun av => drawOps τ Φ ops an nb (j + 1) os (σ.setSlot (dstOf ops j) av) k
def chkDraw (ops : List Oper) (an : List Nat) (nb n : Nat) : Bool :=
  decide (nb ≤ ops.length) && (ops.all fun o => o.guard.isNone) && ((ops.take nb).all fun o => o.dst.isSome) && decide ((List.range nb).map (dstOf ops)).Nodup && ((List.range nb).all fun i => decide (dstOf ops i < n)) &&
  (ops.zipIdx.all fun p => (edgesOf p.1).all fun e => decide (e < p.2)) && ((List.range nb).all fun j => !(an.getD j 0).testBit j) &&
  ((List.range ops.length).all fun t => decide (t < nb) || (List.range t).all fun i => (an.getD t 0).testBit i)
def hitsOk (ops : List Oper) (an : List Nat) (nb : Nat) (σ : S) : Bool := (List.range nb).all fun i => (List.range nb).all fun j => !(AV.hits (2 * dstOf ops j) (σ.slot (dstOf ops i))) || (an.getD i 0).testBit j
def denDraw {α : Type} (τ : List TE) (Φ : List Cal) (np n : Nat) (ops : List Oper) (hs : List (Nat × OH)) (nb : Nat) (σ : S) (k : S → Option α) : Option α :=
  if σ.sl.length = n ∧ chkDraw ops (ancs ops) nb n = true then
    drawOps τ Φ ops (ancs ops) nb 0 (ops.take nb) ((σ.emptyA ((List.range nb).map (dstOf ops))).killH ((List.range nb).map (2 * dstOf ops ·))) fun σf =>
      if hitsOk ops (ancs ops) nb σf = true then denOps τ Φ np ops hs nb (ops.drop nb) σf k else none
  else none


end Go.Proofs.YtmpfjlolcmokbaaE
/- The engine, part K3c: a drawn order reckons as the written one. No condition. -/
namespace Go.Proofs.YtmpfjlolcmokbaaE

def valD (σ0 : S) (nb : Nat) (ds : Nat → Nat) (avs : List AV) (D : Nat → Bool) (s : Nat) : AV := match (List.range nb).find? (fun i => D i && (ds i == s)) with
  | some i => avs.getD i .none
  | none => σ0.slot s
def ST (σ0 : S) (nb : Nat) (ds : Nat → Nat) (avs : List AV) (D : Nat → Bool) : S := { σ0 with sl := (List.range σ0.sl.length).map (valD σ0 nb ds avs D) }
section
variable {σ0 : S} {nb : Nat} {ds : Nat → Nat} {avs : List AV}
theorem valD_at (hinj : ∀ i j, i < nb → j < nb → ds i = ds j → i = j) {D : Nat → Bool} {i : Nat} (hi : i < nb) (hD : D i = true) : valD σ0 nb ds avs D (ds i) = avs.getD i .none := by
  unfold valD
  cases hf : (List.range nb).find? (fun j => D j && (ds j == ds i)) with
  | none =>
    rw [List.find?_eq_none] at hf
    exact absurd (hf i (by simpa using hi)) (by simp [hD])
  | some j =>
    have hm := List.mem_of_find?_eq_some hf
    have hp := List.find?_some hf
    simp only [Bool.and_eq_true, beq_iff_eq] at hp
    have := hinj j i (by simpa using hm) hi hp.2
    subst this; rfl
theorem valD_off {D : Nat → Bool} {s : Nat} (h : ∀ i, i < nb → D i = true → ds i ≠ s) : valD σ0 nb ds avs D s = σ0.slot s := by
  unfold valD
  cases hf : (List.range nb).find? (fun j => D j && (ds j == s)) with
  | none => rfl
  | some j =>
    have hm := List.mem_of_find?_eq_some hf
    have hp := List.find?_some hf
    simp only [Bool.and_eq_true, beq_iff_eq] at hp
    exact absurd hp.2 (h j (by simpa using hm) hp.1)
theorem ST_slot (hds : ∀ i, i < nb → ds i < σ0.sl.length) (D : Nat → Bool) (s : Nat) : (ST σ0 nb ds avs D).slot s = valD σ0 nb ds avs D s := by
  by_cases hs : s < σ0.sl.length
  · simp only [ST, S.slot, List.getD_eq_getElem?_getD, List.getElem?_map, List.getElem?_range hs, Option.map_some, Option.getD_some]
  · rw [valD_off (fun i hi _ e => hs (by rw [← e]; exact hds i hi))]
    simp only [ST, S.slot, List.getD_eq_getElem?_getD]
    rw [List.getElem?_eq_none (by simp; omega), List.getElem?_eq_none (by omega)]
theorem ST_len (D : Nat → Bool) : (ST σ0 nb ds avs D).sl.length = σ0.sl.length := by simp [ST]
theorem ST_none (hds : ∀ i, i < nb → ds i < σ0.sl.length) : ST σ0 nb ds avs (fun _ => false) = σ0 := by
  refine S.ext' (ST_len _) (fun i => ?_) rfl rfl
  rw [ST_slot hds, valD_off (fun _ _ h => by cases h)]
theorem ST_set (hds : ∀ i, i < nb → ds i < σ0.sl.length) (hinj : ∀ i j, i < nb → j < nb → ds i = ds j → i = j) {D D' : Nat → Bool} {j : Nat} (hj : j < nb) (hD : ∀ i, D' i = (D i || decide (i = j))) (hDj : D j = false) :
    (ST σ0 nb ds avs D).setSlot (ds j) (avs.getD j .none) = ST σ0 nb ds avs D' := by
  refine S.ext' (by rw [S.setSlot_len, ST_len, ST_len]) (fun s => ?_) rfl rfl
  rw [S.setSlot_slot, ST_len, ST_slot hds, ST_slot hds]
  by_cases e : ds j = s
  · rw [if_pos ⟨e, hds j hj⟩, ← e, valD_at hinj hj (by rw [hD]; simp)]
  · rw [if_neg (fun h => e h.1)]
    by_cases hex : ∃ i, i < nb ∧ D i = true ∧ ds i = s
    · obtain ⟨i, h1, h2, rfl⟩ := hex
      rw [valD_at hinj h1 h2, valD_at hinj h1 (by rw [hD, h2]; rfl)]
    · rw [valD_off (fun i h1 h2 h3 => hex ⟨i, h1, h2, h3⟩), valD_off (fun i h1 h2 h3 => ?_)]
      rw [hD] at h2
      simp only [Bool.or_eq_true, decide_eq_true_eq] at h2
      rcases h2 with h2 | rfl
      · exact hex ⟨i, h1, h2, h3⟩
      · exact e h3
end

structure DrawOk (L : List Oper) (nb n : Nat) : Prop where
  le : nb ≤ L.length
  guard : ∀ (j : Nat) (o : Oper), L[j]? = some o → o.guard = none
  dst : ∀ (j : Nat) (o : Oper), j < nb → L[j]? = some o → o.dst = some (dstOf L j)
  inj : ∀ i j, i < nb → j < nb → dstOf L i = dstOf L j → i = j
  lt : ∀ i, i < nb → dstOf L i < n
  edge : ∀ (j : Nat) (o : Oper), L[j]? = some o → ∀ e ∈ edgesOf o, e < j
  self : ∀ j, j < nb → ((ancs L).getD j 0).testBit j = false
  tail : ∀ t, nb ≤ t → t < L.length → ∀ i, i < t → ((ancs L).getD t 0).testBit i = true
theorem drawOk_of {L : List Oper} {nb n : Nat} (h : chkDraw L (ancs L) nb n = true) : DrawOk L nb n := by
  simp only [chkDraw, Bool.and_eq_true, decide_eq_true_eq, List.all_eq_true, List.mem_range, Bool.or_eq_true, Bool.not_eq_true'] at h
  obtain ⟨⟨⟨⟨⟨⟨⟨h1, h2⟩, h3⟩, h4⟩, h5⟩, h6⟩, h7⟩, h8⟩ := h
  refine ⟨h1, fun j o hj => ?_, fun j o hj ho => ?_, fun i j hi hj e => ?_, h5, fun j o hj e he => ?_, h7, fun t ht1 ht2 i hi => ?_⟩
  · have := h2 o (List.mem_of_getElem? hj)
    cases hg : o.guard <;> simp [hg] at this ⊢
  · have hlt := (List.getElem?_eq_some_iff.1 ho).1
    have := h3 o (List.mem_of_getElem? (i := j) (by rw [List.getElem?_take, if_pos hj]; exact ho))
    cases hd : o.dst with
    | none => rw [hd] at this; cases this
    | some d => simp [dstOf, ho, hd]
  · have hh := List.pairwise_iff_getElem.1 h4
    rcases Nat.lt_trichotomy i j with hlt | heq | hgt
    · have := hh i j (by simpa using hi) (by simpa using hj) hlt
      simp only [List.getElem_map, List.getElem_range] at this
      exact absurd e this
    · exact heq
    · have := hh j i (by simpa using hj) (by simpa using hi) hgt
      simp only [List.getElem_map, List.getElem_range] at this
      exact absurd e.symm this
  · have := h6 (o, j) (by rw [List.mem_zipIdx_iff_getElem?]; exact hj)
    exact this e he
  · rcases h8 t ht2 with h9 | h9
    · omega
    · exact h9 i hi

theorem drawOps_ok {α : Type} {τ : List TE} {Φ : List Cal} {L : List Oper} {nb : Nat} {r : α} {k : S → Option α} : ∀ (os : List Oper) (j : Nat) (σ : S), drawOps τ Φ L (ancs L) nb j os σ k = some r →
    ∃ (avs : List AV) (σs : Nat → S), avs.length = os.length ∧ σs 0 = σ ∧ (∀ i o, os[i]? = some o → OpFact τ Φ ((σs i).emptyA (hidOf L (ancs L) nb (j + i))) o (avs.getD i .none) ∧ σs (i + 1) = (σs i).setSlot (dstOf L (j + i)) (avs.getD i .none)) ∧ k (σs os.length) = some r
  | [], j, σ, h => ⟨[], fun _ => σ, rfl, rfl, fun i o hi => by simp at hi, h⟩
  | o :: os, j, σ, h => by
    simp only [drawOps] at h
    obtain ⟨av, hf, h2⟩ := pureK_ok h
    obtain ⟨avs, σs, a1, a2, a3, a4⟩ := drawOps_ok os (j + 1) _ h2
    refine ⟨av :: avs, fun i => match i with | 0 => σ | i + 1 => σs i, by simp [a1], rfl, fun i o' hi => ?_, a4⟩
    cases i with
    | zero =>
      simp only [List.getElem?_cons_zero, Option.some.injEq] at hi
      subst hi
      exact ⟨hf, a2⟩
    | succ i =>
      rw [List.getElem?_cons_succ] at hi
      obtain ⟨b1, b2⟩ := a3 i o' hi
      rw [show j + (i + 1) = j + 1 + i by omega]
      exact ⟨b1, b2⟩
theorem AV.killH_kill {rs : List Nat} {r : Nat} (hr : r ∈ rs) (av : AV) : (av.killH rs).kill r = av.killH rs := by
  unfold AV.killH
  split
  · rfl
  · rename_i h
    apply AV.hits_kill
    simp only [Bool.not_eq_true, List.any_eq_false] at h
    simpa using h r hr
theorem AV.killH_or (rs : List Nat) (av : AV) : av.killH rs = .none ∨ av.killH rs = av := by unfold AV.killH; split <;> simp
theorem S.killH_slot (σ : S) (rs : List Nat) (i : Nat) : (σ.killH rs).slot i = (σ.slot i).killH rs := by
  simp only [S.killH, S.slot, List.getD_eq_getElem?_getD, List.getElem?_map]
  cases σ.sl[i]? with
  | none =>
    simp only [Option.map_none, Option.getD_none]
    rcases AV.killH_or rs .none with h | h <;> exact h.symm
  | some a => rfl

theorem getD_set_true' (listed : Array Bool) {i : Nat} (h : i < listed.size) : (listed.setIfInBounds i true).getD i false = true := by
  rw [Array.getD_eq_getD_getElem?, Array.getElem?_setIfInBounds_self_of_lt h]; rfl
section
variable {P : Program} {τ : List TE} (hτ : TabOk P τ) {Φ : List Cal} (hΦ : CalsOk P Φ) {w0 : World} {G0 : Gh} {np : Nat}
include hτ hΦ
theorem tail_ok {α : Type} {ops : Array Oper} {hs : List (Nat × OH)} {nb n : Nat} {k : S → Option α} {r : α} {Q : Exit → Act → World → Prop} (hd : DrawOk ops.toList nb n) (hQ : ∀ a w, (∃ σ G, Rel w0 G0 np σ a w G ∧ k σ = some r) → Q .normal a w) :
    ∀ (os : List Oper) (i : Nat) {σ : S} {a : Act} {w : World} {G : Gh} (listed : Array Bool), denOps τ Φ np ops.toList hs i os σ k = some r → ops.toList.drop i = os → nb ≤ i → listed.size = ops.size → (∀ j, j < ops.size → listed.getD j false = decide (j < i)) → Rel w0 G0 np σ a w G →
      wpAny P .any ops Q os.length listed a w
  | [], i, σ, a, w, G, listed, hden, hdrop, hi, hsz, hl, h => by
    have hlen : ops.size ≤ i := by
      have := List.drop_eq_nil_iff.1 hdrop
      simpa using this
    refine ⟨?_, hQ a w ⟨σ, G, h, hden⟩⟩
    rw [Region.ready, List.filter_eq_nil_iff]
    intro j hj
    simp only [List.mem_range] at hj
    have := hl j hj
    have hjl : j < listed.size := by omega
    have e2 : listed.getD j true = true := by
      rw [Array.getD_eq_getD_getElem?, Array.getElem?_eq_getElem hjl] at this ⊢
      simp only [Option.getD_some] at this ⊢
      rw [this]; simp; omega
    simp [e2]
  | o :: os, i, σ, a, w, G, listed, hden, hdrop, hi, hsz, hl, h => by
    have hlt : i < ops.toList.length := by
      rcases Nat.lt_or_ge i ops.toList.length with h1 | h1
      · exact h1
      · rw [List.drop_of_length_le h1] at hdrop; cases hdrop
    have hcons := List.drop_eq_getElem_cons hlt
    rw [hdrop] at hcons
    obtain ⟨ho, hos⟩ := List.cons.inj hcons
    have hLi : ops.toList[i]? = some o := by rw [ho]; exact List.getElem?_eq_getElem hlt
    have hoi : ops[i]? = some o := by simpa using hLi
    have hlt' : i < ops.size := by simpa using hlt
    have hil : i < listed.size := by omega
    have hgd : ∀ j, j < ops.size → ∀ d, listed.getD j d = decide (j < i) := fun j hj d => by
      have := hl j hj
      rw [Array.getD_eq_getD_getElem?, Array.getElem?_eq_getElem (by omega)] at this ⊢
      simpa using this
    have hready : ∀ j, j ∈ Region.ready .any ops listed ↔ j = i := by
      intro j
      rw [mem_ready]
      constructor
      · rintro ⟨h1, oj, hoj, hall⟩
        have hjl : j < ops.size := (Array.getElem?_eq_some_iff.1 hoj).1
        rw [hgd j hjl true] at h1
        simp only [decide_eq_false_iff_not, Nat.not_lt] at h1
        rcases Nat.lt_or_ge i j with h2 | h2
        · exfalso
          have hLj : ops.toList[j]? = some oj := by simpa using hoj
          have hcl : Closed ops.toList (fun e => decide (e < i)) := fun j' o' hj' hD e he => by
            have := hd.edge j' o' hj' e he
            simp only [decide_eq_true_eq] at hD ⊢
            omega
          have := ancs_ok hcl hLj (fun e he => by
            obtain ⟨ed, hed, rfl⟩ := List.mem_map.1 he
            obtain ⟨hed1, hed2⟩ := List.mem_filter.1 hed
            have h3 := hall ed (by simpa using hed1) hed2
            have hedl : ed.on < ops.size := by
              have := hd.edge j oj hLj ed.on he
              omega
            rw [hgd _ hedl false] at h3
            exact h3) (hd.tail j (by omega) (by simpa using hjl) i h2)
          simp at this
        · omega
      · rintro rfl
        refine ⟨by rw [hgd _ hlt' true]; simp, o, hoi, fun ed hed hb => ?_⟩
        have := hd.edge j o hLi ed.on (List.mem_map.2 ⟨ed, List.mem_filter.2 ⟨by simpa using hed, hb⟩, rfl⟩)
        rw [hgd _ (by omega) false]; simpa using this
    refine ⟨fun he => ?_, fun j hj => ?_⟩
    · have := (hready i).2 rfl
      rw [he] at this; cases this
    · rw [hready] at hj
      subst hj
      have hg := hd.guard j o hLi
      simp only [denOps, hg] at hden
      unfold wpOp
      simp only [hoi]
      have hw : Region.wanted o (yielded ops a.tmps) = true := by simp only [Region.wanted, hg]
      rw [if_pos hw]
      refine .inl (stepK_ok hτ h hΦ o hden (fun σ' v w' G' hR hk' => ?_))
      refine tail_ok hd hQ os (j + 1) _ hk' hos.symm (by omega) (by simpa using hsz) (fun i' hi' => ?_) hR
      by_cases e : j = i'
      · subst e
        rw [getD_set_true' _ hil]; simp
      · rw [getD_set_ne false e, hl i' hi']
        by_cases h3 : i' < j
        · simp [h3]; omega
        · simp [h3]; omega
end
end Go.Proofs.YtmpfjlolcmokbaaE
/- The engine, part K3d: a drawn order reckons as the written one (the body). No condition. -/
namespace Go.Proofs.YtmpfjlolcmokbaaE

theorem countP_set : ∀ (n i : Nat) (f g : Nat → Bool), i < n → f i = true → g i = false → (∀ j, j ≠ i → g j = f j) → (List.range n).countP g + 1 = (List.range n).countP f
  | 0, i, f, g, h, _, _, _ => by omega
  | n + 1, i, f, g, h, h1, h2, h3 => by
    rw [List.range_succ, List.countP_append, List.countP_append]
    by_cases e : i = n
    · subst e
      have : (List.range i).countP g = (List.range i).countP f := by
        apply List.countP_congr
        intro j hj
        rw [h3 j (by simp at hj; omega)]
      simp [this, h1, h2]
    · have := countP_set n i f g (by omega) h1 h2 h3
      simp only [List.countP_singleton, h3 n (fun h => e h.symm)]
      omega
theorem countP_lt (nb : Nat) : ∀ (n : Nat), (List.range n).countP (fun i => !decide (i < nb)) = n - nb
  | 0 => by simp
  | n + 1 => by
    rw [List.range_succ, List.countP_append, countP_lt nb n]
    simp only [List.countP_singleton]
    by_cases h : n < nb
    · simp [h]; omega
    · simp [h]; omega
theorem ST_congr {σ0 : S} {nb : Nat} {ds : Nat → Nat} {avs : List AV} {D D' : Nat → Bool} (h : ∀ i, i < nb → D i = D' i) : ST σ0 nb ds avs D = ST σ0 nb ds avs D' := by
  unfold ST
  congr 1
  apply List.map_congr_left
  intro s _
  unfold valD
  have : (List.range nb).find? (fun i => D i && (ds i == s)) = (List.range nb).find? (fun i => D' i && (ds i == s)) := by
    have key : ∀ (l : List Nat), (∀ i ∈ l, i < nb) → l.find? (fun i => D i && (ds i == s)) = l.find? (fun i => D' i && (ds i == s)) := by
      intro l
      induction l with
      | nil => intro _; rfl
      | cons x l ih =>
        intro hl
        simp only [List.find?_cons, h x (hl x (by simp)), ih (fun i hi => hl i (by simp [hi]))]
    exact key _ (fun i hi => by simpa using hi)
  rw [this]
theorem mem_hid {L : List Oper} {nb j s : Nat} : s ∈ hidOf L (ancs L) nb j ↔ ∃ i, i < nb ∧ ((ancs L).getD j 0).testBit i = false ∧ dstOf L i = s := by
  simp only [hidOf, List.mem_map, List.mem_filter, List.mem_range, Bool.not_eq_true']
  exact ⟨fun ⟨i, ⟨h1, h2⟩, h3⟩ => ⟨i, h1, h2, h3⟩, fun ⟨i, h1, h2, h3⟩ => ⟨i, ⟨h1, h2⟩, h3⟩⟩
theorem anc_lt {L : List Oper} {nb n : Nat} (hd : DrawOk L nb n) {j i : Nat} {o : Oper} (hj : L[j]? = some o) (h : ((ancs L).getD j 0).testBit i = true) : i < j := by
  have hcl : Closed L (fun e => decide (e < j)) := fun j' o' hj' hD e he => by
    have := hd.edge j' o' hj' e he
    simp only [decide_eq_true_eq] at hD ⊢
    omega
  have := ancs_ok hcl hj (fun e he => by simpa using hd.edge j o hj e he) h
  simpa using this
theorem AV.root_hits {av : AV} {p : Place} (h : av = .ptr p ∨ ∃ t x deps, av = .snp t x deps (some p)) : av.hits p.root = true := by
  rcases h with rfl | ⟨t, x, deps, rfl⟩
  · simp [AV.hits]
  · simp [AV.hits]

section
variable {P : Program} {τ : List TE} (hτ : TabOk P τ) {Φ : List Cal} (hΦ : CalsOk P Φ) {w0 : World} {G0 : Gh} {np : Nat}
include hτ hΦ
theorem body_ok {ops : Array Oper} {nb n : Nat} {Q : Exit → Act → World → Prop} (hd : DrawOk ops.toList nb n) {σ0 : S} {avs : List AV} (hn : σ0.sl.length = n)
    (hF : ∀ i o, i < nb → ops.toList[i]? = some o → OpFact τ Φ ((ST σ0 nb (dstOf ops.toList) avs (fun e => decide (e < i))).emptyA (hidOf ops.toList (ancs ops.toList) nb i)) o (avs.getD i .none))
    (hh : ∀ i j, i < nb → j < nb → (avs.getD i .none).hits (2 * dstOf ops.toList j) = true → ((ancs ops.toList).getD i 0).testBit j = true) (h0 : ∀ s j, j < nb → (σ0.slot s).kill (2 * dstOf ops.toList j) = σ0.slot s)
    (hT : ∀ (listed : Array Bool) a w G, listed.size = ops.size → (∀ j, j < ops.size → listed.getD j false = decide (j < nb)) → Rel w0 G0 np (ST σ0 nb (dstOf ops.toList) avs (fun e => decide (e < nb))) a w G → wpAny P .any ops Q (ops.size - nb) listed a w) :
    ∀ (fuel : Nat) (listed : Array Bool) (D : Nat → Bool) (a : Act) (w : World) (G : Gh), listed.size = ops.size → (∀ j, j < ops.size → listed.getD j false = D j) → Closed ops.toList D → (∀ i, nb ≤ i → D i = false) →
      Rel w0 G0 np (ST σ0 nb (dstOf ops.toList) avs D) a w G → (List.range ops.size).countP (fun i => !D i) = fuel → wpAny P .any ops Q fuel listed a w := by
  have hle : nb ≤ ops.size := by have := hd.le; simpa using this
  have hds : ∀ i, i < nb → dstOf ops.toList i < σ0.sl.length := fun i hi => by rw [hn]; exact hd.lt i hi
  intro fuel
  induction fuel with
  | zero =>
    intro listed D a w G hsz hD hcl hDt hR hcnt
    have hall : ∀ i, i < ops.size → D i = true := fun i hi => by
      rw [List.countP_eq_zero] at hcnt
      simpa using hcnt i (by simpa using hi)
    have hnb : nb = ops.size := by
      rcases Nat.lt_or_ge nb ops.size with h1 | h1
      · have := hall nb h1
        rw [hDt nb (Nat.le_refl _)] at this; cases this
      · omega
    have := hT listed a w G hsz (fun j hj => by rw [hD j hj, hall j hj]; simp; omega) (by rw [← ST_congr (D := D) (fun i hi => by rw [hall i (by omega)]; simp; exact hi)]; exact hR)
    rwa [← hnb, Nat.sub_self] at this
  | succ fuel ih =>
    intro listed D a w G hsz hD hcl hDt hR hcnt
    have hgd : ∀ j, j < ops.size → ∀ d, listed.getD j d = D j := fun j hj d => by
      have := hD j hj
      rw [Array.getD_eq_getD_getElem?, Array.getElem?_eq_getElem (by omega)] at this ⊢
      simpa using this
    by_cases hall : ∀ i, i < nb → D i = true
    · have e1 : ∀ i, i < ops.size → D i = decide (i < nb) := fun i hi => by
        rcases Nat.lt_or_ge i nb with h1 | h1
        · rw [hall i h1]; simp [h1]
        · rw [hDt i h1]; simp; omega
      have hc : fuel + 1 = ops.size - nb := by
        rw [← hcnt, ← countP_lt nb ops.size]
        apply List.countP_congr
        intro i hi
        rw [e1 i (by simpa using hi)]
      rw [hc]
      exact hT listed a w G hsz (fun j hj => by rw [hD j hj, e1 j hj]) (by rw [← ST_congr (D := D) (fun i hi => e1 i (by omega))]; exact hR)
    · obtain ⟨m, hm1, hm2, hm3⟩ : ∃ m, m < nb ∧ D m = false ∧ ∀ i, i < m → D i = true := by
        have hex : ∃ m, m < nb ∧ D m = false := by
          simp only [Classical.not_forall] at hall
          obtain ⟨m, h1, h2⟩ := hall
          exact ⟨m, h1, by simpa using h2⟩
        obtain ⟨m, h1, h2⟩ := hex
        induction m using Nat.strongRecOn with
        | _ m ihm =>
          by_cases hs : ∃ i, i < m ∧ D i = false
          · obtain ⟨i, h3, h4⟩ := hs
            exact ihm i h3 (by omega) h4
          · exact ⟨m, h1, h2, fun i hi => by
              cases hDi : D i with
              | true => rfl
              | false => exact absurd ⟨i, hi, hDi⟩ hs⟩
      have hmr : m ∈ Region.ready .any ops listed := by
        rw [mem_ready]
        have hml : m < ops.size := by omega
        refine ⟨by rw [hgd m hml true]; exact hm2, ops[m], Array.getElem?_eq_getElem hml, fun ed hed hb => ?_⟩
        have := hd.edge m ops[m] (by simp [hml]) ed.on (List.mem_map.2 ⟨ed, List.mem_filter.2 ⟨by simpa using hed, hb⟩, rfl⟩)
        rw [hgd _ (by omega) false]; exact hm3 _ this
      refine ⟨(fun he => by rw [he] at hmr; cases hmr), fun j hj => ?_⟩
      rw [mem_ready] at hj
      obtain ⟨hj1, o, hoj, hall'⟩ := hj
      have hjl : j < ops.size := (Array.getElem?_eq_some_iff.1 hoj).1
      have hLj : ops.toList[j]? = some o := by simpa using hoj
      rw [hgd j hjl true] at hj1
      have hedge : ∀ e ∈ edgesOf o, D e = true := fun e he => by
        obtain ⟨ed, hed, rfl⟩ := List.mem_map.1 he
        obtain ⟨hed1, hed2⟩ := List.mem_filter.1 hed
        have h3 := hall' ed (by simpa using hed1) hed2
        have hedl := hd.edge j o hLj ed.on he
        rw [hgd _ (by omega) false] at h3
        exact h3
      have hjn : j < nb := by
        rcases Nat.lt_or_ge j nb with h1 | h1
        · exact h1
        · have := ancs_ok hcl hLj hedge (hd.tail j h1 (by simpa using hjl) m (by omega))
          rw [hm2] at this; cases this
      have hdst := hd.dst j o hjn hLj
      have hg := hd.guard j o hLj
      unfold wpOp
      simp only [hoj]
      have hw : Region.wanted o (yielded ops a.tmps) = true := by simp only [Region.wanted, hg]
      rw [if_pos hw]
      refine .inl ?_
      have hslot : ∀ s, (ST σ0 nb (dstOf ops.toList) avs D).slot s = valD σ0 nb (dstOf ops.toList) avs D s := ST_slot hds D
      have hsame : ((ST σ0 nb (dstOf ops.toList) avs D).emptyA (hidOf ops.toList (ancs ops.toList) nb j)) = ((ST σ0 nb (dstOf ops.toList) avs (fun e => decide (e < j))).emptyA (hidOf ops.toList (ancs ops.toList) nb j)) := by
        have hbx : ∀ (ms : List Nat) (σ : S), (σ.emptyA ms).bx = σ.bx ∧ (σ.emptyA ms).lk = σ.lk := by
          intro ms
          induction ms with
          | nil => intro σ; exact ⟨rfl, rfl⟩
          | cons x ms ih => intro σ; exact ⟨(ih _).1, (ih _).2⟩
        refine S.ext' (by rw [S.emptyA_len, S.emptyA_len, ST_len, ST_len]) (fun s => ?_) (by rw [(hbx _ _).1, (hbx _ _).1]; rfl) (by rw [(hbx _ _).2, (hbx _ _).2]; rfl)
        rw [S.emptyA_slot, S.emptyA_slot]
        split
        · rfl
        · rename_i hns
          rw [ST_slot hds, ST_slot hds]
          by_cases hex : ∃ i, i < nb ∧ dstOf ops.toList i = s
          · obtain ⟨i, h1, rfl⟩ := hex
            have hbit : ((ancs ops.toList).getD j 0).testBit i = true := by
              cases hb : ((ancs ops.toList).getD j 0).testBit i with
              | true => rfl
              | false => exact absurd (mem_hid.2 ⟨i, h1, hb, rfl⟩) hns
            rw [valD_at hd.inj h1 (ancs_ok hcl hLj hedge hbit), valD_at hd.inj h1 (by simpa using anc_lt hd hLj hbit)]
          · rw [valD_off (fun i h1 _ h3 => hex ⟨i, h1, h3⟩), valD_off (fun i h1 _ h3 => hex ⟨i, h1, h3⟩)]
      have hfact := hF j o hjn hLj
      rw [← hsame] at hfact
      have hbx : ∀ (ms : List Nat) (σ : S), (σ.emptyA ms).bx = σ.bx := by
        intro ms
        induction ms with
        | nil => intro σ; rfl
        | cons x ms ih => intro σ; exact ih _
      refine pure_ok hτ hΦ hR (σs := (ST σ0 nb (dstOf ops.toList) avs D).emptyA (hidOf ops.toList (ancs ops.toList) nb j)) (S.emptyA_len _ _) (fun i => ?_) (hbx _ _) (av := avs.getD j .none) hdst (by rw [ST_len]; exact hds j hjn) (AV.hits_kill ?_) (fun p hp i hpi => ?_) (fun s hs => ?_) hfact (fun v w' G' hR' => ?_)
      · rw [S.emptyA_slot]
        split
        · exact .inl rfl
        · exact .inr rfl
      · cases hb : (avs.getD j AV.none).hits (2 * dstOf ops.toList j) with
        | false => rfl
        | true =>
          have := hh j j hjn hjn hb
          rw [hd.self j hjn] at this; cases this
      · rw [S.emptyA_slot]
        split
        · rename_i hm
          obtain ⟨i', h1, h2, rfl⟩ := mem_hid.1 hm
          have := AV.root_hits hp
          rw [hpi] at this
          rw [hh j i' hjn h1 this] at h2; cases h2
        · rfl
      · rw [hslot]
        by_cases hex : ∃ i, i < nb ∧ D i = true ∧ dstOf ops.toList i = s
        · obtain ⟨i, h1, h2, rfl⟩ := hex
          rw [valD_at hd.inj h1 h2]
          apply AV.hits_kill
          cases hb : (avs.getD i AV.none).hits (2 * dstOf ops.toList j) with
          | false => rfl
          | true =>
            have hil : i < ops.size := by omega
            have hLi : ops.toList[i]? = some ops[i] := by simp [hil]
            have := ancs_ok hcl hLi (fun e he => hcl i _ hLi h2 e he) (hh i j h1 hjn hb)
            rw [hj1] at this; cases this
        · rw [valD_off (fun i h1 h2 h3 => hex ⟨i, h1, h2, h3⟩)]
          exact h0 s j hjn
      · let D' : Nat → Bool := fun i => D i || decide (i = j)
        rw [ST_set hds hd.inj (D' := D') hjn (fun i => rfl) hj1] at hR'
        refine ih _ D' _ _ G' (by simpa using hsz) (fun i hi => ?_) (fun j' o' hj' hDj e he => ?_) (fun i hi => ?_) hR' ?_
        · by_cases e : j = i
          · subst e
            rw [getD_set_true' _ (by omega)]; simp [D']
          · rw [getD_set_ne false e, hD i hi]
            simp [D']
            intro h; exact absurd h.symm e
        · simp only [D', Bool.or_eq_true, decide_eq_true_eq] at hDj ⊢
          rcases hDj with h1 | rfl
          · exact .inl (hcl j' o' hj' h1 e he)
          · rw [hLj] at hj'
            obtain ⟨rfl⟩ := hj'
            exact .inl (hedge e he)
        · simp only [D', hDt i hi, Bool.false_or, decide_eq_false_iff_not]; omega
        · have := countP_set ops.size j (fun i => !D i) (fun i => !D' i) hjl (by simp [hj1]) (by simp [D']) (fun i hi => by simp [D', hi])
          omega
end
end Go.Proofs.YtmpfjlolcmokbaaE
/- The engine, part K3e: a region whose order is drawn, whole. No condition. -/
namespace Go.Proofs.YtmpfjlolcmokbaaE

section
variable {P : Program} {τ : List TE} (hτ : TabOk P τ) {Φ : List Cal} (hΦ : CalsOk P Φ) {w0 : World} {G0 : Gh} {np : Nat}
include hτ hΦ
theorem denDraw_ok {α : Type} (hmix : P.follows .mixedOrders = true) {ops : Array Oper} {id : Nat} {hs : List (Nat × OH)} {nb n : Nat} {σ : S} {k : S → Option α} {r : α} {Q : Exit → Act → World → Prop} {a : Act} {w : World} {G : Gh} (h : Rel w0 G0 np σ a w G)
    (hden : denDraw τ Φ np n ops.toList hs nb σ k = some r) (hQ : ∀ a w, (∃ σ G, Rel w0 G0 np σ a w G ∧ k σ = some r) → Q .normal a w) : (Code.region id ops true).wp P Q a w := by
  unfold denDraw at hden
  split at hden
  · rename_i hcd
    obtain ⟨hn, hchk⟩ := hcd
    have hd := drawOk_of hchk
    let ds := (List.range nb).map (dstOf ops.toList)
    let rs := (List.range nb).map (2 * dstOf ops.toList ·)
    let σ0 := (σ.emptyA ds).killH rs
    have hrsm : ∀ j, j < nb → 2 * dstOf ops.toList j ∈ rs := fun j hj => List.mem_map.2 ⟨j, by simpa using hj, rfl⟩
    have hbx : ∀ (ms : List Nat) (σ : S), (σ.emptyA ms).bx = σ.bx := by
      intro ms
      induction ms with
      | nil => intro σ; rfl
      | cons x ms ih => intro σ; exact ih _
    have hl0 : σ0.sl.length = n := by
      have : ((σ.emptyA ds).killH rs).sl.length = (σ.emptyA ds).sl.length := by simp [S.killH]
      rw [← hn]; exact this.trans (S.emptyA_len _ _)
    have hR0 : Rel w0 G0 np σ0 a w G := by
      refine h.hide (by rw [hl0, hn]) (fun i => ?_) (by show ((σ.emptyA ds).killH rs).bx = σ.bx; rw [← hbx ds σ]; rfl)
      show ((σ.emptyA ds).killH rs).slot i = .none ∨ _
      rw [S.killH_slot, S.emptyA_slot]
      split
      · left
        rcases AV.killH_or rs AV.none with e | e <;> exact e
      · exact AV.killH_or rs _
    obtain ⟨avs, σs, a1, a2, a3, a4⟩ := drawOps_ok _ 0 _ hden
    simp only [Nat.zero_add] at a3
    have hlen : (ops.toList.take nb).length = nb := by rw [List.length_take]; have := hd.le; omega
    rw [hlen] at a1 a4
    have hds : ∀ i, i < nb → dstOf ops.toList i < σ0.sl.length := fun i hi => by rw [hl0]; exact hd.lt i hi
    have htk : ∀ i o, i < nb → ops.toList[i]? = some o → (ops.toList.take nb)[i]? = some o := fun i o hi ho => by
      rw [List.getElem?_take, if_pos hi]; exact ho
    have hσs : ∀ i, i ≤ nb → σs i = ST σ0 nb (dstOf ops.toList) avs (fun e => decide (e < i)) := by
      intro i
      induction i with
      | zero =>
        intro _
        rw [a2, ST_congr (D' := fun _ => false) (fun i _ => by simp), ST_none hds]
      | succ i ih =>
        intro hi
        have hlt : i < ops.toList.length := by have := hd.le; omega
        obtain ⟨_, b2⟩ := a3 i _ (htk i _ (by omega) (List.getElem?_eq_getElem hlt))
        rw [b2, ih (by omega)]
        exact ST_set hds hd.inj (j := i) (by omega) (fun e => by
          by_cases h1 : e < i
          · simp [h1]; omega
          · by_cases h2 : e = i
            · subst h2; simp
            · simp [h1, h2]; omega) (by simp)
    rw [hσs nb (Nat.le_refl _)] at a4
    split at a4
    · rename_i hhit
      have hF : ∀ i o, i < nb → ops.toList[i]? = some o → OpFact τ Φ ((ST σ0 nb (dstOf ops.toList) avs (fun e => decide (e < i))).emptyA (hidOf ops.toList (ancs ops.toList) nb i)) o (avs.getD i .none) := fun i o hi ho => by
        obtain ⟨b1, _⟩ := a3 i o (htk i o hi ho)
        rw [hσs i (by omega)] at b1
        exact b1
      have hh : ∀ i j, i < nb → j < nb → (avs.getD i .none).hits (2 * dstOf ops.toList j) = true → ((ancs ops.toList).getD i 0).testBit j = true := fun i j hi hj hb => by
        simp only [hitsOk, List.all_eq_true, List.mem_range, Bool.or_eq_true, Bool.not_eq_true'] at hhit
        have := hhit i hi j hj
        rw [ST_slot hds, valD_at hd.inj hi (by simpa using hi)] at this
        rcases this with h1 | h1
        · rw [hb] at h1; cases h1
        · exact h1
      refine wp_region_any hmix ?_
      have hRd : Rel w0 G0 np (ST σ0 nb (dstOf ops.toList) avs (fun _ => false)) a { w with drawn := w.drawn + 1 } G := by
        rw [ST_none hds]
        have hF2 : ∀ {i av v}, SlotR G σ0 a.tmps w i av v → SlotR G σ0 a.tmps { w with drawn := w.drawn + 1 } i av v := fun {i av v} hS => by
          refine SlotR.frame (rs := []) (w := w) (w' := { w with drawn := w.drawn + 1 }) (G := G) (G' := G) (σ := σ0) (σ' := σ0) (tmps := a.tmps) (tmps' := a.tmps) ⟨Nat.le_refl _, fun b hb _ => ⟨hb, rfl⟩, fun b r s hb _ => ⟨hb, rfl⟩, fun b hb => ⟨hb, rfl⟩⟩ (fun r d L cs _ hr => ?_) (fun p d' L' cs' _ hm => by cases hm) (fun r d L cs hr => (hR0.root hr).1) (fun k hk => ⟨rfl, ?_⟩) (fun _ => by simp) (fun r hr => by cases hr) hS
          · cases hr with
            | slot i d cs hs hv => exact .slot i d cs hs hv
            | box k d cs hb hl hc => exact .box k d cs hb hl hc
            | hdr k d hb => exact .hdr k d hb
          · subst hk
            exact hS.2
        refine { os := hR0.os, tape := hR0.tape, output := hR0.output, size := hR0.size, live := hR0.live, keep := hR0.keep, frn := hR0.frn, ext := hR0.ext, slots := fun i => hF2 (hR0.slots i), boxes := fun k bx hb => ?_, tmps := hR0.tmps, defers := hR0.defers }
        obtain ⟨b, d⟩ := bx
        have hB := hR0.boxes k _ hb
        cases b with
        | true =>
          obtain ⟨arr, e1, e2, e3, e4, e5, cs, e6, e7⟩ := hB
          exact ⟨arr, e1, e2, e3, e4, e5, cs, RepO.move (w := w) (w' := { w with drawn := w.drawn + 1 }) (fun b h1 h2 => ⟨h1, h2, rfl⟩) e6 (fun b s hb => ⟨hb, rfl⟩), e7⟩
        | false =>
          obtain ⟨v, e1, e2, e3⟩ := hB
          exact ⟨v, e1, RepO.move (w := w) (w' := { w with drawn := w.drawn + 1 }) (fun b h1 h2 => ⟨h1, h2, rfl⟩) e2 (fun b s hb => ⟨hb, rfl⟩), e3⟩
      refine body_ok hτ hΦ hd (σ0 := σ0) (avs := avs) hl0 hF hh (fun s j hj => ?_) (fun listed a w G hsz hl hR => ?_) ops.size (Array.replicate ops.size false) (fun _ => false) a _ G (by simp) (fun j hj => by simp only [Array.getD_eq_getD_getElem?, Array.getElem?_replicate]; split <;> rfl) (fun j o _ hD => by cases hD) (fun _ _ => rfl) hRd (by
          have := countP_lt 0 ops.size
          simp only [Nat.not_lt_zero, decide_false, Nat.sub_zero] at this
          exact this)
      · show (((σ.emptyA ds).killH rs).slot s).kill _ = ((σ.emptyA ds).killH rs).slot s
        rw [S.killH_slot]
        exact AV.killH_kill (hrsm j hj) _
      · have := tail_ok hτ hΦ (n := n) hd hQ (ops.toList.drop nb) nb listed a4 rfl (Nat.le_refl _) hsz hl hR
        rwa [List.length_drop, Array.length_toList] at this
    · cases a4
  · cases hden
end
end Go.Proofs.YtmpfjlolcmokbaaE
/- The engine, part K4: what code reckons. No condition. -/
namespace Go.Proofs.YtmpfjlolcmokbaaE

/-- Rounds, n at most. -/
def iter {α β : Type} (step : β → Option (β ⊕ α)) : Nat → β → Option α
  | 0, _ => none
  | n + 1, b => match step b with
    | some (.inl b') => iter step n b'
    | some (.inr r) => some r
    | none => none
theorem iter_mono {α β : Type} {step : β → Option (β ⊕ α)} : ∀ {n m : Nat} {b : β} {r : α}, iter step n b = some r → n ≤ m → iter step m b = some r
  | 0, _, _, _, h, _ => by simp [iter] at h
  | n + 1, 0, _, _, _, hm => by omega
  | n + 1, m + 1, b, r, h, hm => by
    simp only [iter] at h ⊢
    split at h
    · exact iter_mono h (by omega)
    · exact h
    · cases h
theorem iter_det {α β : Type} {step : β → Option (β ⊕ α)} {n m : Nat} {b : β} {r r' : α} (h : iter step n b = some r) (h' : iter step m b = some r') : r = r' := by
  have h1 := iter_mono h (Nat.le_max_left n m)
  have h2 := iter_mono h' (Nat.le_max_right n m)
  rw [h1] at h2; exact Option.some.inj h2
open Classical in
/-- Rounds until one ends. -/
noncomputable def loopF {α β : Type} (step : β → Option (β ⊕ α)) (b : β) : Option α := if h : ∃ r, ∃ n, iter step n b = some r then some h.choose else none
theorem loopF_iff {α β : Type} {step : β → Option (β ⊕ α)} {b : β} {r : α} : loopF step b = some r ↔ ∃ n, iter step n b = some r := by
  unfold loopF
  split
  · rename_i h
    obtain ⟨n, hn⟩ := h.choose_spec
    constructor
    · intro he; rw [← Option.some.inj he]; exact ⟨n, hn⟩
    · rintro ⟨m, hm⟩; rw [iter_det hn hm]
  · rename_i h
    constructor
    · intro he; cases he
    · rintro ⟨m, hm⟩; exact absurd ⟨r, m, hm⟩ h
theorem loopF_eq {α β : Type} (step : β → Option (β ⊕ α)) (b : β) : loopF step b = match step b with
    | some (.inl b') => loopF step b'
    | some (.inr r) => some r
    | none => none := by
  cases hs : step b with
  | none =>
    cases hl : loopF step b with
    | none => rfl
    | some r =>
      obtain ⟨n, hn⟩ := loopF_iff.1 hl
      cases n with
      | zero => simp [iter] at hn
      | succ n => simp [iter, hs] at hn
  | some x =>
    cases x with
    | inr r => exact loopF_iff.2 ⟨1, by simp [iter, hs]⟩
    | inl b' =>
      cases hl : loopF step b' with
      | some r =>
        obtain ⟨n, hn⟩ := loopF_iff.1 hl
        exact ((loopF_iff (step := step) (b := b) (r := r)).2 ⟨n + 1, by simp [iter, hs, hn]⟩).trans hl.symm
      | none =>
        cases hl2 : loopF step b with
        | none => exact hl.symm
        | some r =>
          obtain ⟨n, hn⟩ := loopF_iff.1 hl2
          cases n with
          | zero => simp [iter] at hn
          | succ n =>
            simp only [iter, hs] at hn
            have := loopF_iff.2 ⟨n, hn⟩
            rw [hl] at this; cases this

/-- What is said of a piece of code. -/
structure Hd where
  pre : List Nat
  post : List Nat
  j : Option Gam
  s : Bool
  nb : Nat
  ops : List (Nat × OH)
inductive Hn where
  | z
  | n (d : Hd) (a b : Hn)
def Hn.d : Hn → Hd
  | .z => ⟨[], [], none, false, 0, []⟩
  | .n d _ _ => d
def Hn.a : Hn → Hn
  | .z => .z
  | .n _ a _ => a
def Hn.b : Hn → Hn
  | .z => .z
  | .n _ _ b => b

structure Env where
  τ : List TE
  Φ : List Cal
  np : Nat
  n : Nat
def afterG {α : Type} (gr : List Nat) (k : S → Option α) (σ : S) : Option α := match S.grabs gr σ with
  | some σ' => k σ'
  | none => none
def packN (n : Nat) (Γ : Gam) (σ : S) : Option (HL (ets Γ.es)) := if σ.sl.length = n then Γ.pack σ else none
def joinP {α β : Type} (x : Option β) (k : β → Option α) : Option α := x.bind k
def joinS {α β : Type} (x : Option (β ⊕ α)) (k : β → Option α) : Option α := x.bind fun | .inl b => k b | .inr r => some r
def denReg {α : Type} (E : Env) (ops : List Oper) (draw : Bool) (nb : Nat) (hs : List (Nat × OH)) (σ : S) (k : S → Option α) : Option α := match draw with
  | false => denOps E.τ E.Φ E.np ops hs 0 ops σ k
  | true => denDraw E.τ E.Φ E.np E.n ops hs nb σ k
noncomputable def den (E : Env) : Code → Hn → {α : Type} → S → (S → Option α) → (Nat → S → Option α) → (S → Option α) → Option α
  | .skip, h, _, σ, kn, _, _ => afterG h.d.pre (afterG h.d.post kn) σ
  | .region _ ops draw, h, _, σ, kn, _, _ => afterG h.d.pre (fun σ => match h.d.j with
    | none => denReg E ops.toList draw h.d.nb h.d.ops σ (afterG h.d.post kn)
    | some Γ => joinP (denReg E ops.toList draw h.d.nb h.d.ops σ (afterG h.d.post (packN E.n Γ))) fun x => kn (Γ.un E.n x)) σ
  | .seq a b, h, _, σ, kn, kx, kr => afterG h.d.pre (fun σ => den E a h.a σ (fun σ' => den E b h.b σ' (afterG h.d.post kn) kx kr) kx kr) σ
  | .cond c a b, h, _, σ, kn, kx, kr => afterG h.d.pre (fun σ => match σ.ev c with
    | .snp .bool v _ _ => match h.d.j with
      | none => bif v then den E a h.a σ (afterG h.d.post kn) kx kr else den E b h.b σ (afterG h.d.post kn) kx kr
      | some Γ => match h.d.s with
        | false => joinP (bif v then den E a h.a σ (afterG h.d.post (packN E.n Γ)) (fun _ _ => none) (fun _ => none) else den E b h.b σ (afterG h.d.post (packN E.n Γ)) (fun _ _ => none) (fun _ => none)) fun x => kn (Γ.un E.n x)
        | true => joinS (bif v then den E a h.a σ (fun σ => (afterG h.d.post (packN E.n Γ) σ).map .inl) (fun j σ => (kx j σ).map .inr) (fun σ => (kr σ).map .inr)
            else den E b h.b σ (fun σ => (afterG h.d.post (packN E.n Γ) σ).map .inl) (fun j σ => (kx j σ).map .inr) (fun σ => (kr σ).map .inr)) fun x => kn (Γ.un E.n x)
    | _ => none) σ
  | .block id b, h, _, σ, kn, kx, kr => afterG h.d.pre (fun σ => match h.d.j with
    | none => den E b h.a σ (afterG h.d.post kn) (fun j σ => if j = id then afterG h.d.post kn σ else kx j σ) kr
    | some Γ => match h.d.s with
      | false => joinP (den E b h.a σ (afterG h.d.post (packN E.n Γ)) (fun j σ => if j = id then afterG h.d.post (packN E.n Γ) σ else none) (fun _ => none)) fun x => kn (Γ.un E.n x)
      | true => joinS (den E b h.a σ (fun σ => (afterG h.d.post (packN E.n Γ) σ).map .inl) (fun j σ => if j = id then (afterG h.d.post (packN E.n Γ) σ).map .inl else (kx j σ).map .inr) (fun σ => (kr σ).map .inr)) fun x => kn (Γ.un E.n x)) σ
  | .loop b, h, _, σ, _, kx, kr => afterG h.d.pre (fun σ => match h.d.j with
    | some Γ => (packN E.n Γ σ).bind fun x0 => loopF (fun x => den E b h.a (Γ.un E.n x) (fun σ => (packN E.n Γ σ).map .inl) (fun j σ => (kx j σ).map .inr) (fun σ => (kr σ).map .inr)) x0
    | none => none) σ
  | .exit id, h, _, σ, _, kx, _ => afterG h.d.pre (kx id) σ
  | .ret, h, _, σ, _, _, kr => afterG h.d.pre kr σ
  | _, _, _, _, _, _, _ => none
end Go.Proofs.YtmpfjlolcmokbaaE
/- The engine, part K5: what code reckons is what the machine does. No condition. -/
namespace Go.Proofs.YtmpfjlolcmokbaaE

/-- What must hold of the frame that the code runs in. -/
structure EnvOk (P : Program) (E : Env) : Prop where
  tab : TabOk P E.τ
  cals : CalsOk P E.Φ
  mix : P.follows .mixedOrders = true

section
variable {P : Program} {E : Env} (hE : EnvOk P E) {w0 : World} {G0 : Gh}

/-- A state as it is known, and what is still to be reckoned from it. -/
def At (w0 : World) (G0 : Gh) (np : Nat) {α : Type} (k : S → Option α) (r : α) (a : Act) (w : World) : Prop := ∃ σ G, Rel w0 G0 np σ a w G ∧ k σ = some r

theorem At.after {np : Nat} {α : Type} {gr : List Nat} {k : S → Option α} {r : α} {a : Act} {w : World} (h : At w0 G0 np (afterG gr k) r a w) : At w0 G0 np k r a w := by
  obtain ⟨σ, G, h1, h2⟩ := h
  unfold afterG at h2
  split at h2
  · rename_i σ' hg
    obtain ⟨G', h3⟩ := h1.grabs _ hg
    exact ⟨σ', G', h3, h2⟩
  · cases h2
theorem At.un {Γ : Gam} {x : HL (ets Γ.es)} {a : Act} {w : World} {np n : Nat} (h : At w0 G0 np (packN n Γ) x a w) : ∃ G, Rel w0 G0 np (Γ.un n x) a w G := by
  obtain ⟨σ, G, h1, h2⟩ := h
  unfold packN at h2
  split at h2
  · rename_i hn
    have := Gam.ok h1 Γ h2
    rw [hn] at this
    exact ⟨G, this⟩
  · cases h2

include hE
theorem region_ok {α : Type} {ops : Array Oper} {id : Nat} {draw : Bool} {nb : Nat} {hs : List (Nat × OH)} {σ : S} {k : S → Option α} {r : α} {Q : Exit → Act → World → Prop} {a : Act} {w : World} {G : Gh} (h : Rel w0 G0 E.np σ a w G)
    (hd : denReg E ops.toList draw nb hs σ k = some r) (hQ : ∀ a w, At w0 G0 E.np k r a w → Q .normal a w) : (Code.region id ops draw).wp P Q a w := by
  cases draw with
  | false =>
    have := denOps_ok hE.tab hE.cals (Q := Q) ops.toList 0 (σ := σ) (a := a) (w := w) (G := G) (w0 := w0) (G0 := G0) hd rfl h (fun σ' a' w' G' h1 h2 => hQ a' w' ⟨σ', G', h1, h2⟩)
    rw [Array.length_toList, ← List.range_eq_range'] at this
    exact wp_region this
  | true => exact denDraw_ok hE.tab hE.cals hE.mix h hd hQ

theorem den_ok : ∀ (c : Code) (h : Hn) {α : Type} {σ : S} {kn : S → Option α} {kx : Nat → S → Option α} {kr : S → Option α} {r : α} {Q : Exit → Act → World → Prop} {a : Act} {w : World} {G : Gh},
    Rel w0 G0 E.np σ a w G → den E c h σ kn kx kr = some r → (∀ a w, At w0 G0 E.np kn r a w → Q .normal a w) → (∀ j a w, At w0 G0 E.np (kx j) r a w → Q (.exit j) a w) → (∀ a w, At w0 G0 E.np kr r a w → Q .ret a w) → c.wp P Q a w
  | .skip, h, α, σ, kn, kx, kr, r, Q, a, w, G, hR, hd, hn, hx, hr => by
    simp only [den] at hd
    exact wp_skip (hn a w (At.after (At.after ⟨σ, G, hR, hd⟩)))
  | .region id ops draw, h, α, σ, kn, kx, kr, r, Q, a, w, G, hR, hd, hn, hx, hr => by
    simp only [den] at hd
    obtain ⟨σ1, G1, hR1, hd1⟩ := At.after ⟨σ, G, hR, hd⟩
    dsimp only at hd1
    split at hd1
    · exact region_ok hE hR1 hd1 (fun a w hA => hn a w hA.after)
    · rename_i Γ hΓ
      simp only [joinP, Option.bind_eq_some_iff] at hd1
      obtain ⟨x, hx1, hx2⟩ := hd1
      refine region_ok hE hR1 hx1 (fun a w hA => hn a w ?_)
      obtain ⟨G2, hR2⟩ := hA.after.un
      exact ⟨_, G2, hR2, hx2⟩
  | .seq c1 c2, h, α, σ, kn, kx, kr, r, Q, a, w, G, hR, hd, hn, hx, hr => by
    simp only [den] at hd
    obtain ⟨σ1, G1, hR1, hd1⟩ := At.after ⟨σ, G, hR, hd⟩
    refine wp_seq (den_ok c1 h.a hR1 hd1 (fun a w hA => ?_) (fun j a w hA => hx j a w hA) (fun a w hA => hr a w hA))
    obtain ⟨σ2, G2, hR2, hd2⟩ := hA
    exact den_ok c2 h.b hR2 hd2 (fun a w hA => hn a w hA.after) hx hr
  | .cond o c1 c2, h, α, σ, kn, kx, kr, r, Q, a, w, G, hR, hd, hn, hx, hr => by
    simp only [den] at hd
    obtain ⟨σ1, G1, hR1, hd1⟩ := At.after ⟨σ, G, hR, hd⟩
    dsimp only at hd1
    split at hd1
    · rename_i v ds src hv
      have hev := (hR1.ev 0 o).1
      rw [hv] at hev
      refine wp_cond hev.bool ?_
      split at hd1
      · cases v with
        | true => exact den_ok c1 h.a hR1 hd1 (fun a w hA => hn a w hA.after) hx hr
        | false => exact den_ok c2 h.b hR1 hd1 (fun a w hA => hn a w hA.after) hx hr
      · rename_i Γ hΓ
        split at hd1
        · simp only [joinP, Option.bind_eq_some_iff] at hd1
          obtain ⟨x, hx1, hx2⟩ := hd1
          have hn' : ∀ a w, At w0 G0 E.np (afterG h.d.post (packN E.n Γ)) x a w → Q .normal a w := fun a w hA => by
            obtain ⟨G2, hR2⟩ := hA.after.un
            exact hn a w ⟨_, G2, hR2, hx2⟩
          cases v with
          | true => exact den_ok c1 h.a hR1 hx1 hn' (fun j a w ⟨_, _, _, h⟩ => by cases h) (fun a w ⟨_, _, _, h⟩ => by cases h)
          | false => exact den_ok c2 h.b hR1 hx1 hn' (fun j a w ⟨_, _, _, h⟩ => by cases h) (fun a w ⟨_, _, _, h⟩ => by cases h)
        · simp only [joinS, Option.bind_eq_some_iff] at hd1
          obtain ⟨y, hy1, hy2⟩ := hd1
          have hn' : ∀ a w, At w0 G0 E.np (fun σ => (afterG h.d.post (packN E.n Γ) σ).map Sum.inl) y a w → Q .normal a w := fun a w ⟨σ2, G2, hR2, h2⟩ => by
            obtain ⟨x, hx1, rfl⟩ := Option.map_eq_some_iff.1 h2
            obtain ⟨G3, hR3⟩ := (At.after ⟨σ2, G2, hR2, hx1⟩).un
            exact hn a w ⟨_, G3, hR3, hy2⟩
          have hx' : ∀ j a w, At w0 G0 E.np (fun σ => (kx j σ).map Sum.inr) y a w → Q (.exit j) a w := fun j a w ⟨σ2, G2, hR2, h2⟩ => by
            obtain ⟨x, hx1, rfl⟩ := Option.map_eq_some_iff.1 h2
            simp only [Option.some.injEq] at hy2
            subst hy2
            exact hx j a w ⟨σ2, G2, hR2, hx1⟩
          have hr' : ∀ a w, At w0 G0 E.np (fun σ => (kr σ).map Sum.inr) y a w → Q .ret a w := fun a w ⟨σ2, G2, hR2, h2⟩ => by
            obtain ⟨x, hx1, rfl⟩ := Option.map_eq_some_iff.1 h2
            simp only [Option.some.injEq] at hy2
            subst hy2
            exact hr a w ⟨σ2, G2, hR2, hx1⟩
          cases v with
          | true => exact den_ok c1 h.a hR1 hy1 hn' hx' hr'
          | false => exact den_ok c2 h.b hR1 hy1 hn' hx' hr'
    · cases hd1
  | .block id c1, h, α, σ, kn, kx, kr, r, Q, a, w, G, hR, hd, hn, hx, hr => by
    simp only [den] at hd
    obtain ⟨σ1, G1, hR1, hd1⟩ := At.after ⟨σ, G, hR, hd⟩
    dsimp only at hd1
    refine wp_block ?_
    split at hd1
    · refine den_ok c1 h.a hR1 hd1 (fun a w hA => hn a w hA.after) (fun j a w hA => ?_) hr
      obtain ⟨σ2, G2, hR2, h2⟩ := hA
      dsimp only at h2
      simp only [Exit.inBlock]
      split
      · rename_i e
        rw [if_pos e] at h2
        exact hn a w (At.after ⟨σ2, G2, hR2, h2⟩)
      · rename_i e
        rw [if_neg e] at h2
        exact hx j a w ⟨σ2, G2, hR2, h2⟩
    · rename_i Γ hΓ
      split at hd1
      · simp only [joinP, Option.bind_eq_some_iff] at hd1
        obtain ⟨x, hx1, hx2⟩ := hd1
        have hn' : ∀ a w, At w0 G0 E.np (afterG h.d.post (packN E.n Γ)) x a w → Q .normal a w := fun a w hA => by
          obtain ⟨G2, hR2⟩ := hA.after.un
          exact hn a w ⟨_, G2, hR2, hx2⟩
        refine den_ok c1 h.a hR1 hx1 hn' (fun j a w hA => ?_) (fun a w ⟨_, _, _, h⟩ => by cases h)
        obtain ⟨σ2, G2, hR2, h2⟩ := hA
        dsimp only at h2
        simp only [Exit.inBlock]
        split
        · rename_i e
          rw [if_pos e] at h2
          exact hn' a w ⟨σ2, G2, hR2, h2⟩
        · rename_i e
          rw [if_neg e] at h2
          cases h2
      · simp only [joinS, Option.bind_eq_some_iff] at hd1
        obtain ⟨y, hy1, hy2⟩ := hd1
        have hn' : ∀ a w, At w0 G0 E.np (fun σ => (afterG h.d.post (packN E.n Γ) σ).map Sum.inl) y a w → Q .normal a w := fun a w ⟨σ2, G2, hR2, h2⟩ => by
          obtain ⟨x, hx1, rfl⟩ := Option.map_eq_some_iff.1 h2
          obtain ⟨G3, hR3⟩ := (At.after ⟨σ2, G2, hR2, hx1⟩).un
          exact hn a w ⟨_, G3, hR3, hy2⟩
        refine den_ok c1 h.a hR1 hy1 hn' (fun j a w hA => ?_) (fun a w ⟨σ2, G2, hR2, h2⟩ => ?_)
        · obtain ⟨σ2, G2, hR2, h2⟩ := hA
          dsimp only at h2
          simp only [Exit.inBlock]
          split
          · rename_i e
            rw [if_pos e] at h2
            exact hn' a w ⟨σ2, G2, hR2, h2⟩
          · rename_i e
            rw [if_neg e] at h2
            obtain ⟨x, hx1, rfl⟩ := Option.map_eq_some_iff.1 h2
            simp only [Option.some.injEq] at hy2
            subst hy2
            exact hx j a w ⟨σ2, G2, hR2, hx1⟩
        · obtain ⟨x, hx1, rfl⟩ := Option.map_eq_some_iff.1 h2
          simp only [Option.some.injEq] at hy2
          subst hy2
          exact hr a w ⟨σ2, G2, hR2, hx1⟩
  | .loop c1, h, α, σ, kn, kx, kr, r, Q, a, w, G, hR, hd, hn, hx, hr => by
    simp only [den] at hd
    obtain ⟨σ1, G1, hR1, hd1⟩ := At.after ⟨σ, G, hR, hd⟩
    dsimp only at hd1
    split at hd1
    · rename_i Γ hΓ
      simp only [Option.bind_eq_some_iff] at hd1
      obtain ⟨x0, hx0, hl⟩ := hd1
      obtain ⟨G2, hR2⟩ := At.un (w0 := w0) (G0 := G0) ⟨σ1, G1, hR1, hx0⟩
      let step := fun x => den E c1 h.a (Γ.un E.n x) (fun σ => (packN E.n Γ σ).map Sum.inl) (fun j σ => (kx j σ).map Sum.inr) (fun σ => (kr σ).map Sum.inr)
      have hl' : loopF step x0 = some r := hl
      obtain ⟨n0, hn0⟩ := loopF_iff.1 hl'
      let J : Nat → Act → World → Prop := fun n a w => ∃ x G, Rel w0 G0 E.np (Γ.un E.n x) a w G ∧ iter step n x = some r
      have hmin : ∀ a w, (∃ n, J n a w) → ∃ n, J n a w ∧ ∀ m, J m a w → n ≤ m := by
        intro a w hex
        obtain ⟨n, hn⟩ := hex
        induction n using Nat.strongRecOn with
        | _ n ih =>
          by_cases hsm : ∃ m, m < n ∧ J m a w
          · obtain ⟨m, hm, hJ⟩ := hsm
            exact ih m hm hJ
          · exact ⟨n, hn, fun m hm => by
              rcases Nat.lt_or_ge m n with hlt | hge
              · exact absurd ⟨m, hlt, hm⟩ hsm
              · exact hge⟩
      classical
      let μ : Act → World → Nat := fun a w => if hex : ∃ n, J n a w then (hmin a w hex).choose else 0
      refine wp_loop (fun a w => ∃ n, J n a w) μ ⟨n0, x0, G2, hR2, hn0⟩ (fun a w hI => ?_)
      have hμ : J (μ a w) a w := by
        simp only [μ, dif_pos hI]
        exact (hmin a w hI).choose_spec.1
      obtain ⟨x, G3, hR3, hit⟩ := hμ
      cases hm : μ a w with
      | zero => rw [hm] at hit; simp [iter] at hit
      | succ m =>
        rw [hm] at hit
        simp only [iter] at hit
        split at hit
        · rename_i x' hstep
          refine den_ok c1 h.a hR3 hstep (fun a' w' hA => ?_) (fun j a' w' hA => ?_) (fun a' w' hA => ?_)
          · obtain ⟨σ4, G4, hR4, h4⟩ := hA
            obtain ⟨x4, hx4, e4⟩ := Option.map_eq_some_iff.1 h4
            obtain ⟨rfl⟩ := Sum.inl.inj e4
            obtain ⟨G5, hR5⟩ := At.un (w0 := w0) (G0 := G0) ⟨σ4, G4, hR4, hx4⟩
            have hJ : J m a' w' := ⟨_, G5, hR5, hit⟩
            refine ⟨⟨m, hJ⟩, ?_⟩
            have hex : ∃ n, J n a' w' := ⟨m, hJ⟩
            have : μ a' w' ≤ m := by
              simp only [μ, dif_pos hex]
              exact (hmin a' w' hex).choose_spec.2 m hJ
            omega
          · obtain ⟨σ4, G4, hR4, h4⟩ := hA
            obtain ⟨x4, hx4, e4⟩ := Option.map_eq_some_iff.1 h4
            cases e4
          · obtain ⟨σ4, G4, hR4, h4⟩ := hA
            obtain ⟨x4, hx4, e4⟩ := Option.map_eq_some_iff.1 h4
            cases e4
        · rename_i r' hstep
          simp only [Option.some.injEq] at hit
          subst hit
          refine den_ok c1 h.a hR3 hstep (fun a' w' hA => ?_) (fun j a' w' hA => ?_) (fun a' w' hA => ?_)
          · obtain ⟨σ4, G4, hR4, h4⟩ := hA
            obtain ⟨x4, hx4, e4⟩ := Option.map_eq_some_iff.1 h4
            cases e4
          · obtain ⟨σ4, G4, hR4, h4⟩ := hA
            obtain ⟨x4, hx4, e4⟩ := Option.map_eq_some_iff.1 h4
            obtain ⟨rfl⟩ := Sum.inr.inj e4
            exact hx j a' w' ⟨σ4, G4, hR4, hx4⟩
          · obtain ⟨σ4, G4, hR4, h4⟩ := hA
            obtain ⟨x4, hx4, e4⟩ := Option.map_eq_some_iff.1 h4
            obtain ⟨rfl⟩ := Sum.inr.inj e4
            exact hr a' w' ⟨σ4, G4, hR4, hx4⟩
        · cases hit
    · cases hd1
  | .exit id, h, α, σ, kn, kx, kr, r, Q, a, w, G, hR, hd, hn, hx, hr => by
    simp only [den] at hd
    exact wp_exit (hx id a w (At.after ⟨σ, G, hR, hd⟩))
  | .ret, h, α, σ, kn, kx, kr, r, Q, a, w, G, hR, hd, hn, hx, hr => by
    simp only [den] at hd
    exact wp_ret (hr a w (At.after ⟨σ, G, hR, hd⟩))
  | .rangeFunc _ _ _ _, h, α, σ, kn, kx, kr, r, Q, a, w, G, hR, hd, hn, hx, hr => by simp [den] at hd
  | .scope _, h, α, σ, kn, kx, kr, r, Q, a, w, G, hR, hd, hn, hx, hr => by simp [den] at hd
  | .label _, h, α, σ, kn, kx, kr, r, Q, a, w, G, hR, hd, hn, hx, hr => by simp [den] at hd
  | .goto _, h, α, σ, kn, kx, kr, r, Q, a, w, G, hR, hd, hn, hx, hr => by simp [den] at hd
  | .refuse _, h, α, σ, kn, kx, kr, r, Q, a, w, G, hR, hd, hn, hx, hr => by simp [den] at hd
end
end Go.Proofs.YtmpfjlolcmokbaaE
/- The engine, part L1: a function whose body is reckoned keeps its contract. No condition. -/
namespace Go.Proofs.YtmpfjlolcmokbaaE

def initA : (ps : List Prm) → HL (pts ps) → List AV
  | [], _ => []
  | ⟨.ro, t⟩ :: ps, x => mkSnp t x.1 [] none :: initA ps x.2
  | ⟨.mov m, t⟩ :: ps, x => .dat ⟨t, m, x.1⟩ :: initA ps x.2
theorem initA_len : ∀ (ps : List Prm) (x : HL (pts ps)), (initA ps x).length = ps.length
  | [], _ => rfl
  | ⟨.ro, t⟩ :: ps, x => by simp [initA, initA_len ps x.2]
  | ⟨.mov m, t⟩ :: ps, x => by simp [initA, initA_len ps x.2]
def initS (n : Nat) (ps : List Prm) (x : HL (pts ps)) : S := ⟨initA ps x ++ List.replicate (n - ps.length) .none, [], []⟩
theorem ArgsR.len {w : World} {own : Own} : ∀ (ps : List Prm) (i : Nat) (vs : List Value) (x : HL (pts ps)), ArgsR w own i ps vs x → vs.length = ps.length
  | [], _, vs, _, h => by simp only [ArgsR] at h; rw [h]; rfl
  | p :: ps, i, v :: vs, x, h => by simp only [ArgsR] at h; simp [ArgsR.len ps (i + 1) vs x.2 h.2]
  | p :: ps, i, [], x, h => by simp [ArgsR] at h
theorem ArgsR.slot {w : World} {G : Gh} {σ : S} {tmps : Array Value} : ∀ (ps : List Prm) (i : Nat) (vs : List Value) (x : HL (pts ps)), ArgsR w G.own i ps vs x →
    ∀ k av v, (initA ps x)[k]? = some av → vs[k]? = some v → SlotR G σ tmps w (i + k) av v
  | [], _, vs, _, h, k, av, v, h1, _ => by simp [initA] at h1
  | ⟨.ro, t⟩ :: ps, i, [], x, h, k, av, v, h1, h2 => by simp at h2
  | ⟨.mov m, t⟩ :: ps, i, [], x, h, k, av, v, h1, h2 => by simp at h2
  | ⟨.ro, t⟩ :: ps, i, u :: vs, x, h, k, av, v, h1, h2 => by
    simp only [ArgsR] at h
    cases k with
    | zero =>
      simp only [initA, List.getElem?_cons_zero, Option.some.injEq] at h1 h2
      subst h1 h2
      obtain ⟨cs, q1, q2⟩ := h.1
      exact SlotR.mk ⟨cs, q1, RepV.mono (fun b hb => ⟨⟨hb.2, .inl hb.1⟩, rfl⟩) q2, fun p hp => by cases hp⟩
    | succ k =>
      simp only [initA, List.getElem?_cons_succ] at h1 h2
      have := ArgsR.slot (σ := σ) (tmps := tmps) ps (i + 1) vs x.2 h.2 k av v h1 h2
      rwa [show i + 1 + k = i + (k + 1) by omega] at this
  | ⟨.mov m, t⟩ :: ps, i, u :: vs, x, h, k, av, v, h1, h2 => by
    simp only [ArgsR] at h
    cases k with
    | zero =>
      simp only [initA, List.getElem?_cons_zero, Option.some.injEq] at h1 h2
      subst h1 h2
      obtain ⟨cs, q1, q2⟩ := h.1
      exact ⟨cs, q1, q2⟩
    | succ k =>
      simp only [initA, List.getElem?_cons_succ] at h1 h2
      have := ArgsR.slot (σ := σ) (tmps := tmps) ps (i + 1) vs x.2 h.2 k av v h1 h2
      rwa [show i + 1 + k = i + (k + 1) by omega] at this

/-- Where what is given back lies: in a slot, or in a box to which a slot points. -/
inductive RR where
  | tmp (i : Nat)
  | cell (a T : Nat)
def RR.rv : RR → ResultVar
  | .tmp i => .tmp i
  | .cell a T => .cell a T
/-- What is given back, and the root from which its own blocks come. -/
def ret1 (τ : List TE) (σ : S) (r : Ret) : RR → Option (r.t.D × Option (Nat × Lab))
  | .tmp i => match σ.take r.t r.m (.tmp i) with
    | some (m, x, ms) => if m = r.m then some (x, match ms with | [] => none | _ => some (2 * i, [])) else none
    | none => none
  | .cell a T => match σ.slot a with
    | .ptr ⟨root, []⟩ => if root % 2 = 1 ∧ root ≠ resL then (match σ.box (root / 2), tat τ T with
      | some (true, d), some te => if h : d.t = r.t then (if d.m = r.m ∧ d.m.full = true ∧ te.t = r.t then some (h ▸ d.x, if d.m.noOwn then none else some (root, [0])) else none) else none
      | _, _ => none) else none
    | _ => none
def retV (τ : List TE) (σ : S) : (rs : List Ret) → List RR → Option (HL (rts rs) × List (Option (Nat × Lab)))
  | [], [] => some ((), [])
  | r :: rs, i :: is => match ret1 τ σ r i, retV τ σ rs is with
    | some (x, e), some (xs, l) => some ((x, xs), e :: l)
    | _, _ => none
  | _, _ => none
def heads (l : List (Option (Nat × Lab))) : List Nat := l.filterMap fun e => e.map (·.1)
def retK (τ : List TE) (gr : List Nat) (rs : List Ret) (is : List RR) : S → Option (HL (rts rs)) := afterG gr fun σ => match retV τ σ rs is with
  | some (y, l) => if (heads l).Nodup then some y else none
  | none => none
def relabL (own : Own) : List (Nat × Lab × Lab) → Own
  | [] => own
  | (r, s0, q) :: l => relabL (relab own (r :: s0) q) l
theorem relabL_none : ∀ (l : List (Nat × Lab × Lab)) {own : Own} {b : Nat}, relabL own l b = none ↔ own b = none
  | [], _, _ => Iff.rfl
  | (r, s0, q) :: l, own, b => by
    have e : relabL own ((r, s0, q) :: l) = relabL (relab own (r :: s0) q) l := rfl
    rw [e, relabL_none l, relab_none]
theorem relabL_nil : ∀ (l : List (Nat × Lab × Lab)) {own : Own} {b : Nat}, own b = some [] → relabL own l b = some []
  | [], _, _, h => h
  | (r, s0, q) :: l, own, b, h => by
    have e : relabL own ((r, s0, q) :: l) = relabL (relab own (r :: s0) q) l := rfl
    rw [e]
    exact relabL_nil l (relab_nil h (by simp))
theorem relabL_some {l : List (Nat × Lab × Lab)} {own : Own} {b : Nat} {x : Lab} (h : relabL own l b = some x) : ∃ l', own b = some l' := by
  cases ho : own b with
  | none => rw [(relabL_none l).2 ho] at h; cases h
  | some l' => exact ⟨l', rfl⟩
theorem relabL_off : ∀ (l : List (Nat × Lab × Lab)) {own : Own} {b r : Nat} {s : Lab}, own b = some (r :: s) → r ∉ l.map (·.1) → relabL own l b = some (r :: s)
  | [], _, _, _, _, h, _ => h
  | (i, s0, q) :: l, own, b, r, s, h, hl => by
    have e : relabL own ((i, s0, q) :: l) = relabL (relab own (i :: s0) q) l := rfl
    rw [e]
    simp only [List.map_cons, List.mem_cons, not_or] at hl
    exact relabL_off l (relab_off h (fun ⟨s', hs'⟩ => by simp at hs'; exact hl.1 hs'.1)) hl.2
theorem relabL_at : ∀ (l : List (Nat × Lab × Lab)) {own : Own} {b i : Nat} {s0 q s : Lab}, own b = some ((i :: s0) ++ s) → (i, s0, q) ∈ l → (l.map (·.1)).Nodup → resL ∉ l.map (·.1) → (∀ p ∈ l, ∃ t, p.2.2 = resL :: t) → relabL own l b = some (q ++ s)
  | [], _, _, _, _, _, _, _, h, _, _, _ => by cases h
  | (j, s1, q') :: l, own, b, i, s0, q, s, h, hm, hn, hr, ht => by
    have e : relabL own ((j, s1, q') :: l) = relabL (relab own (j :: s1) q') l := rfl
    rw [e]
    simp only [List.map_cons, List.nodup_cons] at hn
    simp only [List.map_cons, List.mem_cons, not_or] at hr
    by_cases hij : i = j
    · subst hij
      have hq : s0 = s1 ∧ q = q' := by
        rcases List.mem_cons.1 hm with h1 | h1
        · exact ⟨(Prod.mk.inj (Prod.mk.inj h1).2).1, (Prod.mk.inj (Prod.mk.inj h1).2).2⟩
        · exact absurd (List.mem_map.2 ⟨_, h1, rfl⟩) hn.1
      obtain ⟨rfl, rfl⟩ := hq
      obtain ⟨t, e1⟩ := ht (i, s0, q) (by simp)
      simp only at e1
      have h1 : relab own (i :: s0) q b = some (resL :: (t ++ s)) := by
        rw [relab_at (p := i :: s0) h, e1]; rfl
      rw [relabL_off l h1 hr.2, e1]; rfl
    · rcases List.mem_cons.1 hm with h1 | h1
      · exact absurd (Prod.mk.inj h1).1 hij
      · exact relabL_at l (relab_off h (fun ⟨s', hs'⟩ => by simp at hs'; exact hij hs'.1)) h1 hn.2 hr.2 (fun p hp => ht p (by simp [hp]))
/-- The labels of what is given back. -/
def retL (one : Bool) : (j : Nat) → List (Option (Nat × Lab)) → List (Nat × Lab × Lab)
  | _, [] => []
  | j, e :: l => (match e with
    | some (r, s0) => [(r, s0, if one then [resL] else [resL, j])]
    | none => []) ++ retL one (j + 1) l
theorem retL_heads {one : Bool} : ∀ (l : List (Option (Nat × Lab))) (j : Nat), (retL one j l).map (·.1) = heads l
  | [], _ => rfl
  | e :: l, j => by
    have ih := retL_heads (one := one) l (j + 1)
    simp only [retL, heads, List.map_append, ih, List.filterMap_cons]
    cases e with
    | none => rfl
    | some p => rfl
theorem retL_target {one : Bool} : ∀ (l : List (Option (Nat × Lab))) (j : Nat), ∀ p ∈ retL one j l, ∃ t, p.2.2 = resL :: t
  | [], _, p, h => by simp [retL] at h
  | e :: l, j, p, h => by
    simp only [retL, List.mem_append] at h
    rcases h with h | h
    · cases e with
      | none => simp at h
      | some q =>
        simp only [List.mem_singleton] at h
        subst h
        simp only
        split <;> exact ⟨_, rfl⟩
    · exact retL_target l (j + 1) p h
theorem retL_at {one : Bool} : ∀ (l : List (Option (Nat × Lab))) (j k : Nat) {r : Nat} {s0 : Lab}, l[k]? = some (some (r, s0)) → (r, s0, if one then [resL] else [resL, j + k]) ∈ retL one j l
  | [], _, _, _, _, h => by simp at h
  | e :: l, j, 0, r, s0, h => by
    simp only [List.getElem?_cons_zero, Option.some.injEq] at h
    subst h
    simp [retL]
  | e :: l, j, k + 1, r, s0, h => by
    rw [List.getElem?_cons_succ] at h
    have := retL_at (one := one) l (j + 1) k h
    simp only [retL]
    refine List.mem_append_right _ ?_
    rwa [show j + 1 + k = j + (k + 1) by omega] at this
theorem RepO.noOwn_move {w w' : World} {own own' : Own} (h2 : ∀ b, own b = none → b < w.heap.size → own' b = none ∧ b < w'.heap.size ∧ w'.heap[b]? = w.heap[b]?) :
    ∀ {t : Ty} {m : Md} {p q : Lab} {cs : List Value} {x : t.D}, m.noOwn = true → RepO w own t m p cs x → RepO w' own' t m q cs x
  | .int _, _, _, _, _, _, _, h => h
  | .bool, _, _, _, _, _, _, h => h
  | .str, _, _, _, _, _, _, h => h
  | .list _ _, .own _, _, _, _, _, hm, _ => by simp [Md.noOwn] at hm
  | .list _ _, .hole, _, _, _, _, hm, _ => by simp [Md.noOwn] at hm
  | .list _ _, .ro, _, _, _, _, _, h => RepV.mono (fun b hb => ⟨⟨(h2 b hb.1 hb.2).1, (h2 b hb.1 hb.2).2.1⟩, (h2 b hb.1 hb.2).2.2⟩) h
  | .list _ _, .pr _ _, _, _, _, _, _, h => RepV.mono (fun b hb => ⟨⟨(h2 b hb.1 hb.2).1, (h2 b hb.1 hb.2).2.1⟩, (h2 b hb.1 hb.2).2.2⟩) h
  | .pair a b, m, _, _, _, _, hm, h => by
    obtain ⟨c1, c2, rfl, ha, hb⟩ := h
    have : m.fst.noOwn = true ∧ m.snd.noOwn = true := by cases m <;> simp_all [Md.noOwn, Md.fst, Md.snd]
    exact ⟨c1, c2, rfl, RepO.noOwn_move h2 this.1 ha, RepO.noOwn_move h2 this.2 hb⟩
theorem take_tmp {σ : S} {t : Ty} {m m' : Md} {i : Nat} {x : t.D} {ms : List Nat} (h : σ.take t m (.tmp i) = some (m', x, ms)) : ms = [] ∨ ms = [i] := by
  have hv : ∀ {av : AV}, takeV t m av = some (m', x, ms) → ms = [] := fun {av} hv => by
    unfold takeV at hv
    split at hv
    · split at hv
      · split at hv
        · simp only [Option.some.injEq, Prod.mk.injEq] at hv; exact hv.2.2.symm
        · cases hv
      · cases hv
    · split at hv
      · simp only [Option.some.injEq, Prod.mk.injEq] at hv; exact hv.2.2.symm
      · cases hv
    · cases hv
  unfold S.take at h
  simp only at h
  split at h
  · split at h
    · exact .inl (hv h)
    · split at h
      · split at h
        · simp only [Option.some.injEq, Prod.mk.injEq] at h
          exact .inr h.2.2.symm
        · cases h
      · cases h
  · exact .inl (hv h)
/-- What the machine reads for it. -/
def RR.run (tmps : Array Value) : RR → Sem Value
  | .tmp i => pure (tmps.getD i undef)
  | .cell a T => do loadVar T (← asAddr (tmps.getD a undef))
theorem ret1_ok {P : Program} {τ : List TE} (hτ : TabOk P τ) {w0 : World} {G0 : Gh} {np : Nat} {σ : S} {a : Act} {w : World} {G : Gh} (h : Rel w0 G0 np σ a w G) {r : Ret} {i : RR} {x : r.t.D} {e : Option (Nat × Lab)} (hr : ret1 τ σ r i = some (x, e)) :
    ∃ v cs, (i.run a.tmps).run P w = .ok v w ∧ Val r.t v cs ∧ (∀ p, e = some p → p.1 ≠ resL) ∧ ∀ (q : Lab) (own' : Own), (∀ b, G.own b = none → own' b = none) → (∀ p, e = some p → ∀ b s, G.own b = some ((p.1 :: p.2) ++ s) → own' b = some (q ++ s)) → RepO w own' r.t r.m q cs x := by
  cases i with
  | tmp i =>
    simp only [ret1] at hr
    split at hr
    · rename_i m x' ms htk
      split at hr
      · rename_i hm
        subst hm
        simp only [Option.some.injEq, Prod.mk.injEq] at hr
        obtain ⟨rfl, rfl⟩ := hr
        obtain ⟨_, cs, hval, hT⟩ := h.take htk
        refine ⟨_, cs, rfl, hval, fun p hp => ?_, fun q own' hn hm => hT.2.2 q w own' (fun b hb hlt => ⟨hn b hb, hlt, rfl⟩) (fun i' hi' b s hb => ⟨?_, rfl⟩)⟩
        · split at hp
          · cases hp
          · simp only [Option.some.injEq] at hp
            subst hp
            simp only [resL]; omega
        · rcases take_tmp htk with rfl | rfl
          · cases hi'
          · simp only [List.mem_singleton] at hi'
            subst hi'
            exact hm (2 * i', []) rfl b s hb
      · cases hr
    · cases hr
  | cell sa T =>
    simp only [ret1] at hr
    split at hr
    · rename_i root hs
      split at hr
      · rename_i hcd
        split at hr
        · rename_i d te hb hte
          split at hr
          · rename_i ht
            obtain ⟨rt, rm⟩ := r
            obtain ⟨dt, dm, dx⟩ := d
            simp only at ht
            subst ht
            split at hr
            · rename_i hmf
              obtain ⟨h1, hfull, hTe⟩ := hmf
              simp only at h1 hfull hTe
              subst h1
              simp only [Option.some.injEq, Prod.mk.injEq] at hr
              obtain ⟨rfl, rfl⟩ := hr
              have hsl := h.slots sa
              rw [hs] at hsl
              have hrt : σ.rt root = some ⟨dt, dm, dx⟩ := by
                simp only [S.rt]
                rw [if_neg (by omega), hb]; rfl
              obtain ⟨A, cs, L, cr, e1, e2, e3, e4, e5, e6⟩ := h.place hsl (d := ⟨dt, dm, dx⟩) (d' := ⟨dt, dm, dx⟩) hrt rfl
              subst hTe
              have hV : RepV w (okd w G.own [root]) te.t cs dx := RepO.view (fun b h1 h2 => ⟨h2, .inl h1⟩) hfull e5 (fun b ⟨s, hb⟩ hlt => ⟨hlt, .inr ⟨root, by simp, by
                obtain ⟨s0, e⟩ := rootLab_cons root
                rw [e] at hb
                exact ⟨_, hb⟩⟩⟩)
              obtain ⟨v, hv, hval⟩ := run_loadAt hτ hte e6 hV
              refine ⟨v, cs, ?_, hval, fun p hp => ?_, fun q own' hn hm => ?_⟩
              · simp only [Instr.loadAt, Instr.sureAddr, Sem.run_bind, Sem.run_pure, Result.andThen] at hv
                simp only [RR.run, e1, asAddr, Sem.run_bind, Sem.run_pure, Result.andThen]
                exact hv
              · split at hp
                · cases hp
                · simp only [Option.some.injEq] at hp
                  subst hp
                  exact hcd.2
              · have e0 : rootLab root ++ Path.lab [] = [root, 0] := by rw [rootLab, if_neg (by omega)]; rfl
                simp only at e5
                rw [e0] at e5
                by_cases hno : dm.noOwn = true
                · exact RepO.noOwn_move (fun b h1 h2 => ⟨hn b h1, h2, rfl⟩) hno e5
                · exact RepO.move (fun b h1 h2 => ⟨hn b h1, h2, rfl⟩) e5 (fun b s hb => ⟨hm (root, [0]) (by rw [if_neg hno]) b s hb, rfl⟩)
            · cases hr
          · cases hr
        · cases hr
      · cases hr
    · cases hr

section
variable {P : Program} {τ : List TE} (hτ : TabOk P τ) {w0 : World} {G0 : Gh} {np : Nat} {σ : S} {a : Act} {w : World} {G : Gh} (h : Rel w0 G0 np σ a w G)
include hτ h
theorem retV_run : ∀ (rs : List Ret) (is : List RR) {y : HL (rts rs)} {l : List (Option (Nat × Lab))}, retV τ σ rs is = some (y, l) →
    is.length = rs.length ∧ l.length = rs.length ∧ (∀ e ∈ l, ∀ p, e = some p → p.1 ≠ resL) ∧ ∃ vs : List Value, vs.length = is.length ∧ (is.mapM (RR.run a.tmps)).run P w = .ok vs w ∧
      ∀ (one : Bool) (own' : Own) (j : Nat), (∀ b, G.own b = none → own' b = none) → (∀ k p, l[k]? = some (some p) → ∀ b s, G.own b = some ((p.1 :: p.2) ++ s) → own' b = some ((if one then [resL] else [resL, j + k]) ++ s)) →
        (one = false → ∀ arr : Array Value, (∀ k, k < vs.length → arr.getD (j + k) undef = vs.getD k undef) → TupR w own' arr j rs y) ∧ (∀ r, (hrs : rs = [r]) → one = true → j = 0 → ∃ cs, Val r.t (vs.getD 0 undef) cs ∧ RepO w own' r.t r.m [resL] cs (hrs ▸ y).1)
  | [], [], y, l, hr => by
    simp only [retV, Option.some.injEq, Prod.mk.injEq] at hr
    obtain ⟨_, rfl⟩ := hr
    exact ⟨rfl, rfl, (fun e he => nomatch he), [], rfl, (by simp), fun one own' j _ _ => ⟨fun _ arr _ => trivial, (fun r hrs => nomatch hrs)⟩⟩
  | [], _ :: _, y, l, hr => by simp [retV] at hr
  | _ :: _, [], y, l, hr => by simp [retV] at hr
  | r :: rs, i :: is, y, l, hr => by
    simp only [retV] at hr
    split at hr
    · rename_i x e xs l' h1 hrec
      simp only [Option.some.injEq, Prod.mk.injEq] at hr
      obtain ⟨rfl, rfl⟩ := hr
      obtain ⟨v, cs, q1, q2, q3, q4⟩ := ret1_ok hτ h h1
      obtain ⟨b1, b2, b3, vs, b4, b5, b6⟩ := retV_run rs is hrec
      refine ⟨by simp [b1], by simp [b2], fun e' he' p hp => ?_, v :: vs, by simp [b4], ?_, fun one own' j hn hm => ⟨fun hone arr harr => ⟨⟨cs, ?_, ?_⟩, ?_⟩, fun r' hrs hone hj => ?_⟩⟩
      · rcases List.mem_cons.1 he' with h2 | h2
        · subst h2; exact q3 p hp
        · exact b3 e' h2 p hp
      · simp only [List.mapM_cons, Sem.run_bind, q1, b5, Result.andThen, Sem.run_pure]
      · have := harr 0 (by simp)
        simp only [Nat.add_zero, List.getD_cons_zero] at this
        rw [this]; exact q2
      · refine q4 [resL, j] own' hn (fun p hp b s hb => ?_)
        have := hm 0 p (by simp [hp]) b s hb
        rw [hone] at this
        simpa using this
      · refine ((b6 false own' (j + 1) hn (fun k p hk b s hb => ?_)).1 rfl arr (fun k hk => ?_))
        · have := hm (k + 1) p (by simpa using hk) b s hb
          rw [hone] at this
          rw [show j + 1 + k = j + (k + 1) by omega]; exact this
        · have := harr (k + 1) (by simp; omega)
          rw [List.getD_cons_succ] at this
          rw [show j + 1 + k = j + (k + 1) by omega]; exact this
      · obtain ⟨rfl, hrs2⟩ := List.cons.inj hrs
        subst hrs2
        refine ⟨cs, by rw [List.getD_cons_zero]; exact q2, q4 [resL] own' hn (fun p hp b s hb => ?_)⟩
        have := hm 0 p (by simp [hp]) b s hb
        rw [hone] at this
        exact this
    · cases hr
theorem ret_all (rs : List Ret) (is : List RR) {y : HL (rts rs)} {l : List (Option (Nat × Lab))} (hr : retV τ σ rs is = some (y, l)) (hnd : (heads l).Nodup) :
    ∃ v, ((do let vs ← is.mapM (RR.run a.tmps); pure (if h : vs.toArray.size = 1 then vs.toArray[0] else .tuple vs.toArray)) : Sem Value).run P w = .ok v w ∧ RetsR w (relabL G.own (retL (decide (is.length = 1)) 0 l)) rs v y := by
  obtain ⟨b1, b2, b3, vs, b4, b5, b6⟩ := retV_run hτ h rs is hr
  refine ⟨if h : vs.toArray.size = 1 then vs.toArray[0] else .tuple vs.toArray, by simp only [Sem.run_bind, b5, Result.andThen, Sem.run_pure], ?_⟩
  have hb6 := b6 (decide (is.length = 1)) (relabL G.own (retL (decide (is.length = 1)) 0 l)) 0 (fun b hb => (relabL_none _).2 hb) (fun k p hk b s hb => by
    refine relabL_at _ (i := p.1) (s0 := p.2) hb ?_ (by rw [retL_heads]; exact hnd) (fun hm => ?_) (retL_target l 0)
    · have := retL_at (one := decide (is.length = 1)) l 0 k (r := p.1) (s0 := p.2) hk
      exact this
    · rw [retL_heads] at hm
      obtain ⟨e, he, hep⟩ := List.mem_filterMap.1 hm
      obtain ⟨p', hp', hp2⟩ := Option.map_eq_some_iff.1 hep
      exact b3 e he p' hp' hp2)
  match rs, y, hr, b1, b2, hb6 with
  | [], y, hr, b1, b2, hb6 => trivial
  | [r], y, hr, b1, b2, hb6 =>
    have hl : is.length = 1 := b1
    obtain ⟨cs, q1, q2⟩ := hb6.2 r rfl (by simp [hl]) rfl
    match vs, b4.trans hl with
    | [v], _ => exact ⟨cs, q1, q2⟩
  | r :: r2 :: rs, y, hr, b1, b2, hb6 =>
    have hl : is.length ≠ 1 := by rw [b1]; simp
    have hvl : ¬ vs.toArray.size = 1 := by simp only [List.size_toArray]; rw [b4]; exact hl
    rw [dif_neg hvl]
    refine ⟨_, rfl, by simp [b4, b1], hb6.1 (by simp [hl]) vs.toArray (fun k hk => ?_)⟩
    simp [Array.getD_eq_getD_getElem?, List.getD_eq_getElem?_getD]
end
theorem results_run {P : Program} {fn : Func} {is : List RR} (hr : fn.results.toList = is.map RR.rv) (tmps : Array Value) (w : World) :
    (results fn tmps).run P w = ((do let vs ← is.mapM (RR.run tmps); pure (if h : vs.toArray.size = 1 then vs.toArray[0] else .tuple vs.toArray)) : Sem Value).run P w := by
  have key : ∀ (f : ResultVar → Sem Value), (∀ i : RR, f i.rv = i.run tmps) → ∀ (is : List RR), ((is.map RR.rv).mapM f) = is.mapM (RR.run tmps) := by
    intro f hf is
    induction is with
    | nil => simp
    | cons i is ih => simp only [List.map_cons, List.mapM_cons, hf, ih]
  unfold results
  simp only [Sem.run_bind, Array.mapM_eq_mapM_toList, Sem.run_map]
  rw [hr, key _ (fun i => by cases i <;> rfl)]
  cases (is.mapM (RR.run tmps)).run P w <;> rfl

structure FnOk (P : Program) (E : Env) (c : Cal) (fn : Func) (code : Code) (hn : Hn) (gr : List Nat) (is : List RR) : Prop where
  get : P.funcs[c.f]? = some fn
  name : (fn.name == "runtime.NumGoroutine") = false
  body : fn.body = some code
  res : fn.results.toList = is.map RR.rv
  tmps : fn.ntmps = E.n
  big : c.ps.length ≤ E.n
  np : E.np = 0

theorem cok_of_den {P : Program} {E : Env} (hE : EnvOk P E) {c : Cal} {fn : Func} {code : Code} {hn : Hn} {gr : List Nat} {is : List RR} (hf : FnOk P E c fn code hn gr is)
    (hF : ∀ x y, c.F x = some y → den E code hn (initS E.n c.ps x) (retK E.τ gr c.rs is) (fun _ _ => none) (retK E.τ gr c.rs is) = some y) : Cok P c := by
  refine ⟨⟨fn, hf.get, hf.name, by rw [hf.body]; rfl⟩, fun w own args x y hlive hargs hy => ?_⟩
  have hlen := ArgsR.len _ _ _ _ hargs
  let G : Gh := { own := own, bl := fun _ => (0, 0), hv := fun _ => [], arr0 := fun _ => #[], T0 := fun _ => 0 }
  let a : Act := { tmps := args.toArray ++ Array.replicate (fn.ntmps - args.toArray.size) undef, defers := [] }
  have hR : Rel w G E.np (initS E.n c.ps x) a w G := by
    refine { os := rfl, tape := rfl, output := rfl, size := Nat.le_refl _, live := hlive, keep := fun b _ hb => ⟨hb, rfl⟩, frn := fun b _ hb => ⟨hb, rfl⟩, ext := fun _ _ => ⟨rfl, rfl, rfl, rfl⟩, slots := fun i => ?_, boxes := fun k bx hb => ?_, tmps := ?_, defers := rfl }
    · by_cases hi : i < c.ps.length
      · have hlt : i < (initA c.ps x).length := by rw [initA_len]; exact hi
        have e1 : (initS E.n c.ps x).slot i = (initA c.ps x)[i] := by
          simp only [initS, S.slot, List.getD_eq_getElem?_getD, List.getElem?_append_left hlt, List.getElem?_eq_getElem hlt, Option.getD_some]
        have hlt2 : i < args.length := by omega
        have e2 : a.tmps.getD i undef = args[i] := by
          simp only [a, Array.getD_eq_getD_getElem?]
          rw [Array.getElem?_append_left (by simpa using hlt2)]
          simp [hlt2]
        rw [e1, e2]
        have := ArgsR.slot (G := G) (σ := initS E.n c.ps x) (tmps := a.tmps) c.ps 0 args x hargs i _ _ (List.getElem?_eq_getElem hlt) (List.getElem?_eq_getElem hlt2)
        simpa only [Nat.zero_add] using this
      · have e1 : (initS E.n c.ps x).slot i = .none := by
          simp only [initS, S.slot, List.getD_eq_getElem?_getD]
          rw [List.getElem?_append_right (by rw [initA_len]; omega), List.getElem?_replicate]
          split <;> rfl
        rw [e1]; trivial
    · simp [initS, S.box] at hb
    · simp only [initS, a, List.length_append, initA_len, List.length_replicate, Array.size_append, List.size_toArray, Array.size_replicate, hf.tmps, hlen]
  have hret : ∀ a' w', At w G E.np (retK E.τ gr c.rs is) y a' w' → bodyPost P fn (Post w own c.rs y) .ret a' w' := by
    intro a' w' hA
    obtain ⟨σ2, G2, hR2, h2⟩ := At.after hA
    simp only at h2
    split at h2
    · rename_i y' l hrv
      split at h2
      · rename_i hnd
        obtain ⟨rfl⟩ := h2
        obtain ⟨v, hv, hrets⟩ := ret_all hE.tab hR2 c.rs is hrv hnd
        refine ⟨hR2.defers, v, by rw [results_run hf.res]; exact hv, ?_⟩
        let own2 := relabL G2.own (retL (decide (is.length = 1)) 0 l)
        have hkeep : ∀ b, b < w.heap.size → own b = none → own2 b = none ∧ w'.heap[b]? = w.heap[b]? := fun b hb ho => by
          obtain ⟨g1, g2⟩ := hR2.keep b hb ho
          exact ⟨(relabL_none _).2 g1, g2⟩
        have hfrn : ∀ b, b < w.heap.size → own b = some [] → own2 b = some [] ∧ w'.heap[b]? = w.heap[b]? := fun b hb ho => by
          obtain ⟨g1, g2⟩ := hR2.frn b hb ho
          exact ⟨relabL_nil _ g1, g2⟩
        exact ⟨v, own2, rfl, hR2.os, hR2.tape, hR2.output, hR2.size, fun b l' hb => by
          obtain ⟨l2, hl2⟩ := relabL_some hb
          exact hR2.live b l2 hl2, hkeep, hfrn, hrets⟩
      · cases h2
    · cases h2
  refine calls_of_wp hf.get hf.body ?_
  refine den_ok hE code hn hR (hF x y hy) (fun a' w' hA => ?_) (fun j a' w' ⟨_, _, _, hh⟩ => by cases hh) hret
  exact hret a' w' hA
end Go.Proofs.YtmpfjlolcmokbaaE
