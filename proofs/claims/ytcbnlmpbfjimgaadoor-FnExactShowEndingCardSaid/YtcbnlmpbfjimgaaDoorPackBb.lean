/- The engine, texts H7 H8: how code is reckoned as Lean functions, and that it is sound. No condition. -/
import Derived.Test.YtcbnlmpbfjimgaaDoorPackB
set_option linter.all false
/- The engine, part H7: a struct that is built, and all that only looks. No condition. -/
namespace Go.Proofs.YtcbnlmpbfjimgaaDoorE

theorem foldl_get : ∀ (parts : List (Nat × Value)) (ls : List (List Value)) (i : Nat), (parts.map (·.1)).Nodup →
    (parts.foldl (fun ls p => ls.set p.1 p.2.cells.toList) ls)[i]? = if i < ls.length then (match parts.find? (·.1 == i) with | some p => some p.2.cells.toList | none => ls[i]?) else none
  | [], ls, i, _ => by
    simp only [List.foldl_nil, List.find?_nil]
    split
    · rfl
    · simp; omega
  | (j, v) :: parts, ls, i, hn => by
    simp only [List.map_cons, List.nodup_cons] at hn
    rw [List.foldl_cons, foldl_get parts _ i hn.2]
    simp only [List.length_set, List.find?_cons]
    split
    · rename_i hi
      by_cases hj : j = i
      · subst hj
        have hnone : parts.find? (·.1 == j) = none := by
          rw [List.find?_eq_none]
          intro p hp hpj
          simp only [beq_iff_eq] at hpj
          exact hn.1 (List.mem_map.2 ⟨p, hp, hpj⟩)
        simp only [hnone, beq_self_eq_true]
        rw [List.getElem?_set_self hi]
      · have : (j == i) = false := by simpa using hj
        simp only [this]
        rw [List.getElem?_set_ne hj]
    · rfl

theorem nodup_key {β : Type} : ∀ {l : List (Nat × β)}, (l.map (·.1)).Nodup → ∀ {p q : Nat × β}, p ∈ l → q ∈ l → p.1 = q.1 → p = q
  | [], _, _, _, hp, _, _ => by cases hp
  | x :: l, hn, p, q, hp, hq, he => by
    simp only [List.map_cons, List.nodup_cons] at hn
    rcases List.mem_cons.1 hp with h1 | h1
    · rcases List.mem_cons.1 hq with h2 | h2
      · rw [h1, h2]
      · exact absurd (List.mem_map.2 ⟨q, h2, by rw [← he, h1]⟩) hn.1
    · rcases List.mem_cons.1 hq with h2 | h2
      · exact absurd (List.mem_map.2 ⟨p, h1, by rw [he, h2]⟩) hn.1
      · exact nodup_key hn.2 h1 h2 he

section
variable {w0 : World} {G0 : Gh} {np : Nat} {σ : S} {a : Act} {w : World} {G : Gh} (h : Rel w0 G0 np σ a w G)
include h
/-- What a field of a struct that is built has for cells. -/
def partC (ρ : Operand → Value) (parts : List (Nat × Operand)) (t : Ty) (j : Nat) : List Value := match parts.find? (·.1 == j) with
  | none => t.zc
  | some (_, o) => (ρ o).cells.toList
theorem RepV.zero {ok : Nat → Prop} : ∀ (t : Ty), RepV w ok t t.zc t.zero
  | .int _ => rfl
  | .bool => rfl
  | .str => rfl
  | .list _ _ => ⟨none, 0, rfl, Nat.le_refl _, fun h => absurd h (Nat.lt_irrefl 0)⟩
  | .pair a b => ⟨_, _, rfl, RepV.zero a, RepV.zero b⟩
theorem partV_ok {t : Ty} {parts : List (Nat × Operand)} {j : Nat} {x : t.D} {deps : List Nat} (hp : partV σ.ev t parts j = some (x, deps)) : RepV w (okd w G.own deps) t (partC a.eval parts t j) x := by
  unfold partV at hp
  unfold partC
  split at hp
  · rename_i hf
    simp only [Option.some.injEq, Prod.mk.injEq] at hp
    obtain ⟨rfl, rfl⟩ := hp
    simp only [hf]
    exact RepV.zero (h := h) t
  · rename_i o hf
    simp only [hf]
    have hev := (h.ev 0 o).1
    split at hp
    · rename_i t' x' deps' src hx
      split at hp
      · rename_i ht
        subst ht
        simp only [Option.some.injEq, Prod.mk.injEq] at hp
        obtain ⟨rfl, rfl⟩ := hp
        rw [hx] at hev
        obtain ⟨cs, hval, hR, _⟩ := hev
        rw [hval.cells (RepV.one hR)]
        exact hR
      · cases hp
    · rename_i hx
      rw [hx] at hev
      have hv : a.eval o = .slice none 0 0 := hev
      split at hp
      · simp only [Option.some.injEq, Prod.mk.injEq] at hp
        obtain ⟨rfl, rfl⟩ := hp
        rw [hv]
        exact ⟨none, 0, rfl, Nat.le_refl _, fun h => absurd h (Nat.lt_irrefl 0)⟩
      · cases hp
    · cases hp
theorem buildV_ok {parts : List (Nat × Operand)} : ∀ (n j : Nat) {t : Ty} {x : t.D} {deps : List Nat}, buildV σ.ev parts n j t = some (x, deps) →
    ∃ css : List (List Value), css.length = n ∧ RepV w (okd w G.own deps) t css.flatten x ∧ ∀ i, i < n → ∃ ti, (comps n t)[i]? = some ti ∧ css[i]? = some (partC a.eval parts ti (j + i)) ∧ (partC a.eval parts ti (j + i)).length = ti.sz
  | 0, _, _, _, _, hb => by simp [buildV] at hb
  | 1, j, t, x, deps, hb => by
    simp only [buildV] at hb
    have := partV_ok h hb
    refine ⟨[partC a.eval parts t j], rfl, by simpa using this, fun i hi => ?_⟩
    have : i = 0 := by omega
    subst this
    exact ⟨t, rfl, rfl, RepV.len (partV_ok h hb)⟩
  | n + 2, j, t, x, deps, hb => by
    cases t <;> simp only [buildV, reduceCtorEq] at hb
    rename_i ta tb
    split at hb
    · rename_i x1 d1 y1 d2 h1 h2
      simp only [Option.some.injEq, Prod.mk.injEq] at hb
      obtain ⟨rfl, rfl⟩ := hb
      have e1 := partV_ok h h1
      obtain ⟨css, f1, f2, f3⟩ := buildV_ok (n + 1) (j + 1) h2
      refine ⟨partC a.eval parts ta j :: css, by simp [f1], ⟨_, css.flatten, by simp, RepV.deps (fun r hr => by simp [hr]) e1, RepV.deps (fun r hr => by simp [hr]) f2⟩, fun i hi => ?_⟩
      cases i with
      | zero => exact ⟨ta, rfl, rfl, RepV.len e1⟩
      | succ i =>
        obtain ⟨ti, g1, g2, g3⟩ := f3 i (by omega)
        refine ⟨ti, by simpa [comps] using g1, ?_, ?_⟩
        · rw [List.getElem?_cons_succ, g2]; congr 2; omega
        · rw [show j + (i + 1) = j + 1 + i by omega]; exact g3
    · cases hb
end

theorem build_ok {P : Program} {τ : List TE} (hτ : TabOk P τ) {w0 : World} {G0 : Gh} {np : Nat} {σ : S} {a : Act} {w : World} {G : Gh} (h : Rel w0 G0 np σ a w G) {T : Nat} {te : TE} (he : tat τ T = some te)
    {parts : Array (Nat × Operand)} {x : te.t.D} {deps : List Nat} (hb : buildV σ.ev parts.toList te.k 0 te.t = some (x, deps)) (hn : (parts.toList.map (·.1)).Nodup) (hk : parts.toList.all (·.1 < te.k) = true) :
    ∃ cs, (Instr.build T (parts.map fun (i, x) => (i, a.eval x))).run P w = .ok (.agg cs.toArray) w ∧ RepV w (okd w G.own deps) te.t cs x ∧ te.t.isP = true := by
  obtain ⟨⟨⟨it, z, i1, i2, i3, i4, i5⟩, d, d1, d2⟩, e⟩ := hτ _ _ he
  rw [e] at i1 d1
  obtain ⟨css, c1, c2, c3⟩ := buildV_ok h te.k 0 hb
  have hpos : 0 < te.k := by
    rcases Nat.eq_zero_or_pos te.k with h0 | h0
    · rw [h0] at hb; simp [buildV] at hb
    · exact h0
  cases d <;> simp only [DescOk] at d2 <;> try omega
  rename_i fs
  obtain ⟨hfs, ⟨pa, pb, hpair⟩, hsub⟩ := d2
  have hsome : ∀ j, j < te.k → (subT (fpath te.k j) te.t).isSome = true := fun j hj => by
    obtain ⟨tf, _, h2⟩ := hsub j fs[j] (Array.getElem?_eq_getElem (by omega))
    rw [h2]; rfl
  obtain ⟨hz, hcl⟩ := zc_comps te.k hsome hpos
  have hval : z.cells.toList = ((comps te.k te.t).map Ty.zc).flatten := by
    rw [← hz]
    rw [hpair] at i3 ⊢
    rw [i3.agg]
    simp [Value.cells]
  have hlens : ((comps te.k te.t).map Ty.zc).map List.length = (comps te.k te.t).map Ty.sz := by
    rw [List.map_map]; apply List.map_congr_left; intro t _; exact Ty.zc_len t
  -- the places
  have hplaces : fs.toList.mapM (fun f => (P.info? f.type).map fun i => (f.offset, i.size)) = some ((List.range te.k).map fun j => (offs ((comps te.k te.t).map Ty.sz) j, ((comps te.k te.t).map Ty.sz).getD j 0)) := by
    have key : ∀ (l : List Field) (s : Nat), (∀ j f, l[j]? = some f → fs[s + j]? = some f) → s + l.length ≤ te.k →
        l.mapM (fun f => (P.info? f.type).map fun i => (f.offset, i.size)) = some ((List.range' s l.length).map fun j => (offs ((comps te.k te.t).map Ty.sz) j, ((comps te.k te.t).map Ty.sz).getD j 0)) := by
      intro l
      induction l with
      | nil => intro s _ _; rfl
      | cons f l ih =>
        intro s hl hle
        simp only [List.length_cons] at hle
        have h0 := hl 0 f rfl
        obtain ⟨tf, t1, t2⟩ := hsub _ f h0
        obtain ⟨⟨⟨itf, ztf, q1, _, _, q4, _⟩, _⟩, q6⟩ := hτ _ _ t1
        rw [q6] at q1
        obtain ⟨r1, r2⟩ := subT_comps te.k _ (by omega) t2
        simp only [Nat.add_zero] at r1 r2
        have ih' := ih (s + 1) (fun j f hj => by
          have := hl (j + 1) f (by simpa using hj)
          rw [show s + 1 + j = s + (j + 1) by omega]; exact this) (by omega)
        simp only [List.mapM_cons, q1, Option.map_some, Option.bind_eq_bind, Option.bind_some, Option.pure_def, ih']
        rw [List.length_cons, List.range'_succ, List.map_cons]
        congr 2
        rw [List.getD_eq_getElem?_getD, List.getElem?_map, r2]
        simp only [Option.map_some, Option.getD_some, r1, q4]
    have := key fs.toList 0 (fun j f hj => by simpa using hj) (by simp; omega)
    rw [this, Array.length_toList, hfs, List.range_eq_range']
  have hpl : ∀ i, i < ((comps te.k te.t).map Ty.sz).length → (fun i : Nat => ((List.range te.k).map fun j => (offs ((comps te.k te.t).map Ty.sz) j, ((comps te.k te.t).map Ty.sz).getD j 0)).toArray[i]?) i =
      some (offs ((comps te.k te.t).map Ty.sz) i, ((comps te.k te.t).map Ty.sz).getD i 0) := by
    intro i hi
    rw [List.length_map, hcl] at hi
    simp [hi]
  let vals := parts.toList.map fun p => (p.1, a.eval p.2)
  have hfind : ∀ i, vals.find? (·.1 == i) = (parts.toList.find? (·.1 == i)).map fun p => (p.1, a.eval p.2) := by
    intro i
    simp only [vals, List.find?_map]
    rfl
  obtain ⟨out, o1, o2⟩ := fill_ok hpl vals ((comps te.k te.t).map Ty.zc) z.cells hval hlens (fun p hp => by
    obtain ⟨q, hq, rfl⟩ := List.mem_map.1 hp
    have hqk : q.1 < te.k := by simpa using List.all_eq_true.1 hk q hq
    rw [List.length_map, hcl]
    refine ⟨hqk, ?_⟩
    obtain ⟨ti, g1, g2, g3⟩ := c3 q.1 hqk
    have hfq : parts.toList.find? (·.1 == q.1) = some q := by
      cases hff : parts.toList.find? (·.1 == q.1) with
      | none => rw [List.find?_eq_none] at hff; exact absurd (hff q hq) (by simp)
      | some q' =>
        have hm := List.mem_of_find?_eq_some hff
        have he := List.find?_some hff
        simp only [beq_iff_eq] at he
        rw [nodup_key hn hm hq he]
    rw [Nat.zero_add] at g3
    unfold partC at g3
    rw [hfq] at g3
    simp only at g3
    rw [List.getD_eq_getElem?_getD, List.getElem?_map, g1]
    simpa using g3)
  have hout : out.toList = css.flatten := by
    rw [o2]
    congr 1
    apply List.ext_getElem?
    intro i
    rw [foldl_get _ _ _ (by simp only [vals, List.map_map]; exact hn), List.length_map, hcl]
    split
    · rename_i hi
      obtain ⟨ti, g1, g2, g3⟩ := c3 i hi
      rw [g2, Nat.zero_add, hfind]
      unfold partC
      cases parts.toList.find? (·.1 == i) with
      | none => simp [g1]
      | some p => rfl
    · rw [List.getElem?_eq_none (by omega)]
  refine ⟨css.flatten, ?_, c2, by rw [hpair]; rfl⟩
  rw [← hout]
  apply run_build
  simp only [Program.built, i1, d1, i2, hplaces]
  have hv : (parts.map fun x => (x.1, a.eval x.2)).toList = vals := by simp [vals]
  rw [hv]
  exact o1
end Go.Proofs.YtcbnlmpbfjimgaaDoorE
/- The engine, part H8: all that only looks. No condition. -/
namespace Go.Proofs.YtcbnlmpbfjimgaaDoorE

theorem Yd.next {P : Program} {G : Gh} {σ : S} {tmps : Array Value} {w : World} {x : Sem Value} {av : AV} (h : Yd P G σ tmps w x av) :
    ∃ v i, (do pure (Next.value (← x)) : Sem Next).run P w = .ok (.value v) w ∧ SlotR G σ tmps w i av v ∧ av.free = true := by
  obtain ⟨v, h1, ⟨i, h2⟩, h3⟩ := h
  exact ⟨v, i, by simp only [Sem.run_bind, h1, Result.andThen, Sem.run_pure], h2, h3⟩
theorem nn_ok {av av' : AV} {c : Cnd} (h : nn av = some (c, av')) : av' = av := by
  cases av <;> simp [nn] at h <;> exact h.2.symm

section
variable {P : Program} {τ : List TE} (hτ : TabOk P τ) {w0 : World} {G0 : Gh} {np : Nat} {σ : S} {a : Act} {w : World} {G : Gh} (h : Rel w0 G0 np σ a w G)
include hτ h
theorem Yd.ev (x : Operand) : Yd P G σ a.tmps w (pure (a.eval x)) (σ.ev x) := ⟨_, rfl, ⟨0, (h.ev 0 x).1⟩, (h.ev 0 x).2⟩
theorem bnd_ok {lo : Option Operand} {d l : Int} (hb : bnd σ.ev d lo = some l) : (lo.map a.eval = none ∧ l = d) ∨ ∃ k, lo.map a.eval = some (.int k l) := by
  unfold bnd at hb
  split at hb
  · exact .inl ⟨rfl, (Option.some.inj hb).symm⟩
  · rename_i x
    split at hb
    · rename_i k n d s hx
      have := (h.ev 0 x).1
      rw [hx] at this
      refine .inr ⟨k, ?_⟩
      simp only [Option.map_some, this.int, Option.some.injEq] at hb ⊢
      rw [hb]
    · cases hb
theorem pickV_ok {v : Bool} {x y : Operand} {c : Cnd} {av : AV} (hp : pickV v (σ.ev x) (σ.ev y) = some (c, av)) : Yd P G σ a.tmps w (pure (if v = true then a.eval x else a.eval y)) av := by
  unfold pickV at hp
  have hx := h.ev 0 x
  have hy := h.ev 0 y
  split at hp
  · rename_i b d s b' d' s' h1 h2
    rw [h1] at hx
    rw [h2] at hy
    simp only [ok1, Option.some.injEq, Prod.mk.injEq] at hp
    obtain ⟨_, rfl⟩ := hp
    rw [hx.1.bool, hy.1.bool]
    exact Yd.bool (by cases v <;> rfl)
  · cases v
    · simp only [cond_false] at hp
      rw [nn_ok hp]
      exact Yd.ev hτ h y
    · simp only [cond_true] at hp
      rw [nn_ok hp]
      exact Yd.ev hτ h x
theorem binV_ok {op : BinOp} {T : Nat} {x y : Operand} {c : Cnd} {av : AV} (hp : binV τ op T (σ.ev x) (σ.ev y) = some (c, av)) (hc : c.holds) :
    Yd P G σ a.tmps w (do eqGuard op T x y (a.eval x) (a.eval y); binOp op T (a.eval x) (a.eval y)) av := by
  have hx := (h.ev 0 x).1
  have hy := (h.ev 0 y).1
  have key : ∀ {vx vy : Value}, a.eval x = vx → a.eval y = vy → vx.oneCell' = true → vx ≠ .nilIface → Yd P G σ a.tmps w (binOp op T vx vy) av →
      Yd P G σ a.tmps w (do eqGuard op T x y (a.eval x) (a.eval y); binOp op T (a.eval x) (a.eval y)) av := by
    rintro vx vy rfl rfl h1 h2 ⟨v, g1, g2⟩
    refine ⟨v, ?_, g2⟩
    simp only [Sem.run_bind, eqGuard_plain (P := P) (w := w) (op := op) (T := T) (x := x) (y := y) (b := a.eval y) h1 h2, Result.andThen]
    exact g1
  unfold binV at hp
  split at hp
  · rename_i h1 h2
    rw [h1] at hx; rw [h2] at hy
    split at hp
    · rename_i hk
      subst hk
      exact key hx.int hy.int rfl (by simp) (intV_ok T hp hc)
    · cases hp
  · rename_i h1 h2
    rw [h1] at hx; rw [h2] at hy
    exact key hx.str hy.str rfl (by simp) (strV_ok T hp hc)
  · rename_i h1 h2
    rw [h1] at hx; rw [h2] at hy
    split at hp
    · rename_i te hte
      split at hp
      · rename_i hb
        exact key hx.bool hy.bool rfl (by simp) (boolV_ok (hτ.bool hte hb) hp)
      · cases hp
    · cases hp
  · cases hp
theorem sliceV_ok {T : Nat} {te : TE} (he : tat τ T = some te) {x : Operand} {lo hi : Option Operand} {t : Ty} {y : t.D} {deps : List Nat} {src : Option Place} (hx : σ.ev x = .snp t y deps src) (ht : t = te.t) {c : Cnd} {av : AV}
    (hp : sliceV σ.ev lo hi (.snp t y deps src) = some (c, av)) (hc : c.holds) : Yd P G σ a.tmps w (Instr.sliceAt T (a.eval x) (lo.map a.eval) (hi.map a.eval) none) av := by
  have hv := (h.ev 0 x).1
  rw [hx] at hv
  cases t <;> simp only [sliceV, reduceCtorEq] at hp
  case str =>
    split at hp
    · rename_i l r hl hr
      simp only [Option.some.injEq, Prod.mk.injEq] at hp
      obtain ⟨rfl, rfl⟩ := hp
      rw [hv.str]
      exact cut_str hτ he ht.symm (bnd_ok hτ h hl) (bnd_ok hτ h hr) hc
    · cases hp
  case list e t =>
    split at hp
    · rename_i l r hl hr
      simp only [Option.some.injEq, Prod.mk.injEq] at hp
      obtain ⟨rfl, rfl⟩ := hp
      exact cut_list hτ he ht.symm hv (bnd_ok hτ h hl) (bnd_ok hτ h hr) hc
    · cases hp

theorem bltV_ok {b : Builtin} {args : List Operand} {Ts : List Nat} {c : Cnd} {av : AV} (hp : bltV τ σ.ev b args Ts = some (c, av)) (type : TypeId) :
    ∃ v i, (builtin b Ts.toArray type (args.map fun | .const _ => true | _ => false).toArray (args.map a.eval).toArray).run P w = .ok (.value v) w ∧ SlotR G σ a.tmps w i av v ∧ av.free = true := by
  unfold bltV at hp
  split at hp
  · rename_i x T
    have hv := (h.ev 0 x).1
    split at hp
    · rename_i te t y deps src hte hx
      split at hp
      · rename_i ht
        rw [hx] at hv
        exact (lenV_ok hτ (ty := type) hte hv ht hp).next
      · cases hp
    · rename_i i1 e t k1 b1 hte hx
      simp only [lenV, ok1, Option.some.injEq, Prod.mk.injEq] at hp
      obtain ⟨_, rfl⟩ := hp
      rw [hx] at hv
      have hv' : a.eval x = .slice none 0 0 := hv
      obtain ⟨v, i, h1, h2, h3⟩ := (len_nil hτ (G := G) (σ := σ) (tmps := a.tmps) (w := w) hte rfl (ty := type)).next
      rw [← hv'] at h1
      exact ⟨v, i, h1, h2, h3⟩
    · cases hp
  · rename_i T x y
    have hx := (h.ev 0 x).1
    have hy := (h.ev 0 y).1
    split at hp
    · rename_i k n d s k' n' d' s' h1 h2
      split at hp
      · rename_i hk
        subst hk
        simp only [ok1, Option.some.injEq, Prod.mk.injEq] at hp
        obtain ⟨_, rfl⟩ := hp
        rw [h1] at hx; rw [h2] at hy
        exact (Yd.int (P := P) (G := G) (σ := σ) (tmps := a.tmps) (x := Builtin.min_ Ts.toArray type #[a.eval x, a.eval y]) (by rw [hx.int, hy.int, run_min_int2 w])).next
      · cases hp
    · cases hp
  · rename_i T x y
    have hx := (h.ev 0 x).1
    have hy := (h.ev 0 y).1
    split at hp
    · rename_i k n d s k' n' d' s' h1 h2
      split at hp
      · rename_i hk
        subst hk
        simp only [ok1, Option.some.injEq, Prod.mk.injEq] at hp
        obtain ⟨_, rfl⟩ := hp
        rw [h1] at hx; rw [h2] at hy
        exact (Yd.int (P := P) (G := G) (σ := σ) (tmps := a.tmps) (x := Builtin.max_ Ts.toArray type #[a.eval x, a.eval y]) (by rw [hx.int, hy.int, run_max_int2 w])).next
      · cases hp
    · cases hp
  · cases hp

theorem pv_ok (o : Oper) {c : Cnd} {av : AV} (hp : pv τ σ.ev σ.rt o.op = some (c, av)) (hc : c.holds) :
    ∃ v i, (execOp a.eval o).run P w = .ok (.value v) w ∧ SlotR G σ a.tmps w i av v ∧ av.free = true := by
  obtain ⟨dst, op, type, pos, after, guard⟩ := o
  simp only at hp
  unfold pv at hp
  split at hp
  · rename_i x
    rw [nn_ok hp]
    exact ⟨_, 0, rfl, (h.ev 0 x).1, (h.ev 0 x).2⟩
  · rename_i x
    rw [nn_ok hp]
    exact ⟨_, 0, rfl, (h.ev 0 x).1, (h.ev 0 x).2⟩
  · rename_i cc x y
    split at hp
    · rename_i v d s hcc
      have hb := (h.ev 0 cc).1
      rw [hcc] at hb
      obtain ⟨u, i, h1, h2, h3⟩ := (pickV_ok hτ h hp).next
      refine ⟨u, i, ?_, h2, h3⟩
      simp only [execOp, hb.bool, asBool, Sem.run_bind, Sem.run_pure, Result.andThen] at h1 ⊢
      exact h1
    · cases hp
  · rename_i x
    have hx := h.ev 0 x
    split at hp
    · rename_i p hxp
      split at hp
      · rename_i d hd
        simp only [ok1, Option.some.injEq, Prod.mk.injEq] at hp
        obtain ⟨_, rfl⟩ := hp
        rw [hxp] at hx
        obtain ⟨L, cr, hroot⟩ := h.rt hd
        obtain ⟨d0, A, cs, _, _, hv⟩ := hx.1 d L cr hroot
        exact ⟨a.eval x, 0, by simp only [execOp, hv]; rfl, hx.1, rfl⟩
      · cases hp
    · rename_i t y deps hxp
      simp only [ok1, Option.some.injEq, Prod.mk.injEq] at hp
      obtain ⟨_, rfl⟩ := hp
      rw [hxp] at hx
      obtain ⟨A, cs, hv, _⟩ := hx.1
      exact ⟨a.eval x, 0, by simp only [execOp, hv]; rfl, hx.1, rfl⟩
    · cases hp
  · exact (binV_ok hτ h hp hc).next
  · rename_i x
    split at hp
    · rename_i b d s hx
      simp only [ok1, Option.some.injEq, Prod.mk.injEq] at hp
      obtain ⟨_, rfl⟩ := hp
      have hv := (h.ev 0 x).1
      rw [hx] at hv
      exact (Yd.bool (x := Op.unary .not (a.eval x)) (by rw [hv.bool]; rfl)).next
    · cases hp
  · rename_i x
    split at hp
    · rename_i k n d s hx
      simp only [ok1, Option.some.injEq, Prod.mk.injEq] at hp
      obtain ⟨_, rfl⟩ := hp
      have hv := (h.ev 0 x).1
      rw [hx] at hv
      exact (Yd.int (x := Op.unary .neg (a.eval x)) (by rw [hv.int]; rfl)).next
    · cases hp
  · rename_i s d x
    have hv := (h.ev 0 x).1
    split at hp
    · rename_i ts id k' kk bb k n dd ss hs hd hx
      simp only [ok1, Option.some.injEq, Prod.mk.injEq] at hp
      obtain ⟨_, rfl⟩ := hp
      rw [hx] at hv
      obtain ⟨ds, hds, _⟩ := hτ.desc hs
      have hdi := hτ.int hd rfl
      refine (Yd.int (x := convert s d (a.eval x)) ?_).next
      rw [hv.int]
      simp [convert, run_underlying hds, run_underlying hdi, Conv.intToInt]
    · rename_i i1 e k1 b1 i2 k2 b2 e' xs dd ss hs hd hx
      split at hp
      · rename_i hee
        subst hee
        simp only [ok1, Option.some.injEq, Prod.mk.injEq] at hp
        obtain ⟨_, rfl⟩ := hp
        rw [hx] at hv
        exact (conv_bytes hτ hs hd rfl rfl hv).next
      · cases hp
    · cases hp
  · rename_i T x
    have hv := (h.ev 0 x).1
    split at hp
    · rename_i te p hte hx
      split at hp
      · rename_i ht
        rw [nn_ok hp]
        rw [hx] at hv
        exact (load_ptr hτ h hte hv ht).next
      · cases hp
    · rename_i te t y deps hte hx
      split at hp
      · rename_i ht
        subst ht
        simp only [ok1, Option.some.injEq, Prod.mk.injEq] at hp
        obtain ⟨_, rfl⟩ := hp
        rw [hx] at hv
        exact (load_rp hτ h hte hv).next
      · cases hp
    · cases hp
  · rename_i T x j
    have hv := (h.ev 0 x).1
    split at hp
    · rename_i te p hte hx
      split at hp
      · rename_i d hd
        split at hp
        · rename_i d' hd'
          split at hp
          · rename_i hcd
            simp only [ok1, Option.some.injEq, Prod.mk.injEq] at hp
            obtain ⟨_, rfl⟩ := hp
            rw [hx] at hv
            exact (fieldAddr_ptr hτ h hte hv hd hd' hcd.1 hcd.2.1 hcd.2.2).next
          · cases hp
        · cases hp
      · cases hp
    · rename_i te t y deps hte hx
      split at hp
      · rename_i hcd
        obtain ⟨ht, hj⟩ := hcd
        subst ht
        split at hp
        · rename_i d hd
          simp only [ok1, Option.some.injEq, Prod.mk.injEq] at hp
          obtain ⟨_, rfl⟩ := hp
          rw [hx] at hv
          exact (fieldAddr_rp hτ h hte hv hd hj).next
        · cases hp
      · cases hp
    · cases hp
  · rename_i T x j
    have hv := (h.ev 0 x).1
    split at hp
    · rename_i te t y deps src hte hx
      split at hp
      · rename_i hcd
        obtain ⟨ht, hj⟩ := hcd
        subst ht
        split at hp
        · rename_i av' hf
          simp only [ok1, Option.some.injEq, Prod.mk.injEq] at hp
          obtain ⟨_, rfl⟩ := hp
          rw [hx] at hv
          exact (field_ok hτ h hte hv hf hj).next
        · cases hp
      · cases hp
    · cases hp
  · rename_i T x i
    have hv := (h.ev 0 x).1
    have hi := (h.ev 0 i).1
    split at hp
    · rename_i te e t xs deps src k n dd ss hte hx hix
      split at hp
      · rename_i ht
        rw [hx] at hv
        rw [hix] at hi
        exact (atV_ok hτ h hte ht hv hi hp hc).next
      · cases hp
    · cases hp
  · rename_i T x i
    have hv := (h.ev 0 x).1
    have hi := (h.ev 0 i).1
    split at hp
    · rename_i te s d1 s1 k n d2 s2 hte hx hix
      split at hp
      · rename_i ht
        simp only [Option.some.injEq, Prod.mk.injEq] at hp
        obtain ⟨rfl, rfl⟩ := hp
        rw [hx] at hv
        rw [hix] at hi
        exact (index_ok hτ hte ht hv hi hc).next
      · cases hp
    · cases hp
  · rename_i T x lo hi
    split at hp
    · rename_i te t y deps src hte hx
      split at hp
      · rename_i ht
        exact (sliceV_ok hτ h hte hx ht hp hc).next
      · cases hp
    · cases hp
  · rename_i T parts
    split at hp
    · rename_i te hte
      split at hp
      · rename_i x deps hb
        split at hp
        · rename_i hcd
          simp only [ok1, Option.some.injEq, Prod.mk.injEq] at hp
          obtain ⟨_, rfl⟩ := hp
          obtain ⟨cs, b1, b2, b3⟩ := build_ok hτ h hte hb hcd.1 hcd.2
          refine (show Yd P G σ a.tmps w (Instr.build T (parts.map fun (i, x) => (i, a.eval x))) _ from ⟨_, b1, ⟨0, SlotR.mk ⟨cs, ?_, b2, fun p hp => by cases hp⟩⟩, mkSnp_free _ _ _ _⟩).next
          cases ht : te.t <;> rw [ht] at b3 <;> simp [Ty.isP] at b3
          rfl
        · cases hp
      · cases hp
    · cases hp
  · rename_i c
    obtain ⟨callee, args, argTypes⟩ := c
    simp only at hp
    split at hp
    · obtain ⟨args⟩ := args
      obtain ⟨argTypes⟩ := argTypes
      obtain ⟨v, i, h1, h2, h3⟩ := bltV_ok hτ h hp type
      have h1' : (builtin _ ⟨argTypes⟩ type (args.map fun | .const _ => true | _ => false).toArray (args.map a.eval).toArray).run P w = .ok (.value v) w := h1
      refine ⟨v, i, ?_, h2, h3⟩
      simp [execOp, resolve, invoke]
      exact h1'
    · cases hp
  · cases hp
end
end Go.Proofs.YtcbnlmpbfjimgaaDoorE
