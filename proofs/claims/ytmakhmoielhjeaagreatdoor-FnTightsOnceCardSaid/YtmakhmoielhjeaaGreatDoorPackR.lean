/- The engine, part R1: a law's arguments are opened, its row is closed. No condition. -/
import Derived.Test.YtmakhmoielhjeaaGreatDoorPackE
import Derived.Test.YtmakhmoielhjeaaGreatDoorPackP
import Derived.WalkKit
import Derived.ProofKit
import Derived.OpenShut
import Derived.ShutString
import Derived.ChangeOld
import Derived.Below
import Derived.Carry
import Derived.SizedLaws
import Derived.ChangeSlices
import Derived.ChangeArms
import Derived.OpenVars
set_option linter.all false
namespace Go.Proofs.YtmakhmoielhjeaaGreatDoorE
open Go.ChangeShapes Go.WideShapes Go.RowKit Go.WideElems
theorem XA:BB 1 0=[]:=rfl
theorem Tt (k:Nat):BB (k+2) 0=[.f]:=by simp [BB]
theorem Vr (k j:Nat):BB (k+2) (j+1)=.s::BB (k+1) j:=by
 simp only [BB,List.replicate_succ,List.cons_append,Nat.add_lt_add_iff_right]
theorem asm {w:World} {ok:Nat→Prop}:∀ (k:Nat) (t:Ty) (cs:List Value),0<k→cs.length=t.sz →
 (∀ j,j<k→∃ r,Ag (BB k j) t=some r∧∃ a:r.2.D,RepV w ok r.2 ((cs.drop r.1).take r.2.sz) a∧Bnd r.2 a)→∃ a:t.D,RepV w ok t cs a∧Bnd t a
 | 0,_,_,h,_,_=>by omega
 | 1,t,cs,_,hl,h=>by
  obtain⟨r,h1,a,h2,h3⟩:=h 0 (by omega);rw [XA] at h1;simp only [Ag,Option.some.injEq] at h1;subst h1;simp only [List.drop_zero,← hl,List.take_length] at h2;exact⟨a,h2,h3⟩
 | k+2,t,cs,_,hl,h=>by
  obtain⟨r,h1,a,h2,h3⟩:=h 0 (by omega);rw [Tt] at h1;cases t with
  | pair t1 t2=>
   simp only [Ag,Option.some.injEq] at h1;subst h1;simp only [Ty.sz] at hl;obtain⟨b,h4,h5⟩:=asm (k+1) t2 (cs.drop t1.sz) (by omega) (by rw [List.length_drop];omega) (fun j hj=>by
    obtain⟨r,q1,a,q2,q3⟩:=h (j+1) (by omega);rw [Vr] at q1;simp only [Ag,Option.map_eq_some_iff] at q1;obtain⟨r',q4,rfl⟩:=q1;refine⟨r',q4,a,?_,q3⟩
    rw [List.drop_drop];exact q2)
   exact⟨(a,b),⟨_,_,(List.take_append_drop t1.sz cs).symm,by simpa using h2,h4⟩,h3,h5⟩
  | _=>all_goals simp [Ag] at h1
theorem Lt {H:Type} {P:Program} {e:TypeId}:∀ {ds:List (DataW H)} {d:DataW H},d∈ds→(DataW.weightsAll P e ds).all (·≤reachBytes)=true→(d.weights P e).all (·≤reachBytes)=true
 | [],_,hm,_=>by simp at hm
 | d0::ds,d,hm,h=>by
  simp only [DataW.weightsAll,List.all_append,Bool.and_eq_true] at h;rcases List.mem_cons.1 hm with rfl | hm
  ·exact h.1
  ·exact Lt hm h.2
theorem Lu {H:Type} {P:Program}:∀ {ts:List TypeId} {ds:List (DataW H)} {j:Nat} {t:TypeId} {d:DataW H},(DataW.weightsEach P ts ds).all (·≤reachBytes)=true→ts[j]?=some t→ds[j]?=some d→(d.weights P t).all (·≤reachBytes)=true
 | t::ts,d::ds,0,_,_,h,h1,h2=>by
  simp only [List.getElem?_cons_zero,Option.some.injEq] at h1 h2;subst h1 h2;simp only [DataW.weightsEach,List.all_append,Bool.and_eq_true] at h;exact h.1
 | t::ts,d::ds,j+1,_,_,h,h1,h2=>by
  simp only [DataW.weightsEach,List.all_append,Bool.and_eq_true] at h;exact Lu h.2 (by simpa using h1) (by simpa using h2)
 | [],_,_,_,_,_,h1,_=>by simp at h1
 | _::_,[],_,_,_,_,_,h2=>by simp at h2
theorem TabOk.cells {P:Program} {τ:List TE} (hτ:TabOk P τ) {T:Nat} {e:TE} (h:tat τ T=some e):P.cellsOf T=e.t.sz:=by
 obtain⟨⟨⟨i,z,h1,_,_,h4,_⟩,_⟩,rfl⟩:=hτ _ _ h;simp [Program.cellsOf,h1,h4]
def WA (τ:List TE):Bool:=τ.all fun e=>!e.t.isP || decide (0<e.k)
theorem Od {P:Program} {τ:List TE} (hτ:TabOk P τ) (hk0:WA τ=true) {H:Type} {enc:TypeId×Value→H} {w:World} {spare:Nat→Bool} {held:Bool}:∀ (fuel:Nat) {T:TypeId} {e:TE} {cs:List Value} {x:DataW H×List MemPlace},
 tat τ T=some e→DataW.trod enc P w 0 spare held fuel T cs=some x→(x.1.weights P T).all (·≤reachBytes)=true→∃ a:e.t.D,RepV w (fun b=>b<w.heap.size) e.t cs a∧Bnd e.t a
 | 0,_,_,_,_,_,hx,_=>by simp [DataW.trod] at hx
 | n+1,T,e,cs,x,he,hx,hw=>by
  obtain⟨d,hd1,hd2⟩:=hτ.desc he;have hcell:=hτ.cells he
  cases d<;>simp only [EN] at hd2
  case bool=>
   obtain⟨b,rfl,rfl⟩:=DataW.trod_bool hd1 hx;rw [hd2.1];exact⟨b,rfl,trivial⟩
  case int k=>
   obtain⟨m,rfl,rfl,hm⟩:=DataW.trod_int hd1 hx;rw [hd2.1];exact⟨m,rfl,hm⟩
  case string=>
   obtain⟨s,rfl,rfl,_⟩:=DataW.trod_string hd1 hx;rw [hd2.1];refine⟨s,rfl,?_⟩
   have hz:(s.data.toList.length≤reachBytes):=by simpa [DataW.weights] using hw
   have:s.data.toList.length=s.size:=Array.length_toList
   rw [this] at hz;exact hz
  case slice el=>
   obtain⟨⟨te,ht1,ht2⟩,_⟩:=hd2;rw [ht2];have hsz:=hτ.cells ht1
   rcases DataW.trod_slice hd1 hx with⟨rfl,_⟩ | ⟨a,len,cap,elems,rest,m,hm,rfl,rfl,hb,hl,hml,hlen,hel,_,_⟩
   ·exact⟨[],⟨none,0,rfl,Nat.le_refl _,fun h=>absurd h (Nat.lt_irrefl 0)⟩,Nat.zero_le _,fun i h=>absurd h (Nat.not_lt_zero i)⟩
   obtain rfl:m=n:=by omega
   simp only [DataW.weights,hd1,List.all_cons,List.all_append,Bool.and_eq_true,decide_eq_true_eq,List.length_map] at hw;obtain⟨_,hw2,_⟩:=hw;have each:∀ i,i<len→∃ p:te.t.D,Bnd te.t p∧∃ c,RepV w (fun b=>b<w.heap.size) te.t c p∧CellsAt w (a.add (i * te.t.sz)) c:=by
    intro i hi;have h1:=hel i hi
    have h2:elems[i]?=some (elems[i]'(by omega)):=List.getElem?_eq_getElem _
    rw [h2,Option.bind_eq_some_iff] at h1;obtain⟨c,hc,ht'⟩:=h1;obtain⟨p,hk,hq⟩:=Od hτ hk0 m ht1 ht' (Lt (List.mem_map.2 ⟨_,List.getElem_mem (by omega),rfl⟩) hw2);obtain⟨_,hcl,hcell⟩:=World.cells?_some hc;refine⟨p,hq,c,hk,fun j hj=>?_⟩
    have:=hcell j (by omega)
    rw [hsz] at this;rw [this,List.getElem?_eq_getElem hj]
   have build:∀ m,m≤len→∃ l:List te.t.D,l.length=m∧∀ j (hj:j<l.length),Bnd te.t (l.get ⟨j,hj⟩)∧∃ c,RepV w (fun b=>b<w.heap.size) te.t c (l.get ⟨j,hj⟩)∧CellsAt w (a.add (j * te.t.sz)) c:=by
    intro m
    induction m with
    | zero=>exact fun _=>⟨[],rfl,fun j hj=>by simp at hj⟩
    | succ m ih=>
     intro hm';obtain⟨l,h1,h2⟩:=ih (by omega);obtain⟨p,hq⟩:=each m (by omega);refine⟨l++[p],by simp [h1],fun j hj=>?_⟩
     simp only [List.length_append,List.length_singleton] at hj;rcases Nat.lt_or_ge j l.length with hlt | hge
     ·have e1:(l++[p]).get ⟨j,by simp;omega⟩=l.get ⟨j,hlt⟩:=by simp [List.getElem_append_left hlt]
      rw [e1];exact h2 j hlt
     ·have:j=l.length:=by omega
      subst this;have e1:(l++[p]).get ⟨l.length,by simp⟩=p:=by simp
      rw [e1,h1];exact hq
   obtain⟨l,h1,h2⟩:=build len (Nat.le_refl _);have hpos:0<len→a.block<w.heap.size:=by
    intro hp;obtain⟨p,_,c,hk,hc⟩:=each 0 hp;have hcl:=hk.len
    have:=hc 0 (by rw [hcl];exact Ty.sz_pos _)
    simp only [Nat.zero_mul,Addr.add_zero] at this;unfold World.cell? at this;cases hh:w.heap[a.block]? with
    | some o=>exact NR hh
    | none=>simp [hh] at this
   refine⟨l,⟨some a,cap,by rw [h1],by rw [h1];exact hl,fun hp=>⟨a,rfl,hpos (by omega),fun i hi=>?_⟩⟩,by rw [h1];exact Nat.le_trans hl hml,fun i hi=>(h2 i hi).1⟩
   obtain⟨_,c,q1,q2⟩:=h2 i hi;exact⟨c,q1,q2⟩
  case struct fs=>
   obtain⟨hk,⟨t1,t2,ht⟩,hf⟩:=hd2;obtain⟨xs,m,hm,rfl,hc,hlen,hfs⟩:=DataW.trod_struct hd1 hx;obtain rfl:m=n:=by omega
   simp only [DataW.weights,hd1] at hw;refine asm e.k e.t cs ?_ (by rw [hc,hcell]) (fun j hj=>?_)
   ·have:=List.all_eq_true.1 hk0 e (Uh he).1
    simpa [ht,Ty.isP] using this
   ·have hjs:j<fs.size:=by omega
    obtain⟨te,hte,hsub⟩:=hf j fs[j] (by simp [hjs]);refine⟨_,hsub,?_⟩
    have h1:=hfs j fs[j] (by simp [hjs])
    rw [List.getElem?_eq_getElem (by omega)] at h1;have hcj:=hτ.cells hte
    rw [hcj] at h1;exact Od hτ hk0 m hte h1 (Lu hw (j:=j) (by simp [hjs]) (by rw [List.getElem?_map,List.getElem?_eq_getElem (by omega)];rfl))
  all_goals exact hd2.elim
def MS (τ:List TE):List Prm→List TypeId→Bool
 | [],[]=>true
 | ⟨.ro,t⟩::ps,T::Ts=>(match tat τ T with | some e=>decide (e.t=t) | none=>false) && MS τ ps Ts
 | _,_=>false
def YC:(ps:List Prm)→HL (pts ps)→Prop
 | [],_=>True
 | p::ps,x=>Bnd p.t x.1∧YC ps x.2
theorem fo {P:Program} {τ:List TE} (hτ:TabOk P τ) {w:World} {base:Nat} {T:TypeId} {e:TE} (he:tat τ T=some e) {v:Value} (h:Value.okWide P w .any base T v):Val e.t v v.cells.toList:=by
 obtain⟨d,hd1,hd2⟩:=hτ.desc he;cases d<;>simp only [EN] at hd2
 case bool=>obtain⟨b,rfl⟩:=okWide_bool hd1 h;rw [hd2.1];rfl
 case int k=>obtain⟨b,rfl⟩:=okWide_int hd1 h;rw [hd2.1];rfl
 case string=>obtain⟨b,rfl⟩:=okWide_string hd1 h;rw [hd2.1];rfl
 case slice el=>obtain⟨a,l,c,rfl⟩:=okWide_slice hd1 h;obtain⟨⟨te,_,h2⟩,_⟩:=hd2;rw [h2];rfl
 case struct fs=>obtain⟨cs,rfl,_⟩:=okWide_struct hd1 h;obtain⟨_,⟨a,b,h2⟩,_⟩:=hd2;rw [h2];simp [Val,Value.cells]
 all_goals exact hd2.elim
theorem Qs {P:Program} {τ:List TE} (hτ:TabOk P τ) (hk0:WA τ=true) {H:Type} {enc:TypeId×Value→H} {w:World} {base:Nat} {spare:Nat→Bool} {held:Bool}:∀ (ps:List Prm) (Ts:List TypeId) (i:Nat) {vs:List Value} {ds:List (DataW H)} {pl:List MemPlace},
 MS τ ps Ts=true→DataW.TrodAll enc P w 0 spare held Ts vs ds pl→(∀ (j:Nat) t v,Ts[j]?=some t→vs[j]?=some v→Value.okWide P w .any base t v)→(DataW.weightsEach P Ts ds).all (·≤reachBytes)=true →
 ∃ x:HL (pts ps),ArgsR w (fun _=>none) i ps vs x∧YC ps x
 | [],[],_,_,_,_,_,hA,_,_=>by
  obtain⟨rfl,_,_⟩:=trodAll_nil hA;exact⟨(),rfl,trivial⟩
 | ⟨.ro,t⟩::ps,T::Ts,i,vs,ds,pl,hp,hA,hv,hw=>by
  simp only [MS,Bool.and_eq_true] at hp;obtain⟨h1,h2⟩:=hp;split at h1
  ·rename_i e he;simp only [decide_eq_true_eq] at h1;subst h1;obtain⟨v,vs',d,ds',p,q,rfl,rfl,rfl,hd,hr⟩:=trodAll_cons hA;have hval:=hv 0 T v rfl rfl
   simp only [DataW.weightsEach,List.all_append,Bool.and_eq_true] at hw;obtain⟨fuel,hf⟩:=hd;obtain⟨a,ha,hb⟩:=Od hτ hk0 fuel he hf hw.1;obtain⟨xs,hx,hy⟩:=Qs hτ hk0 ps Ts (i+1) h2 hr (fun j t u h3 h4=>hv (j+1) t u (by simpa using h3) (by simpa using h4)) hw.2;exact⟨(a,xs),⟨⟨_,fo hτ he hval,RepV.mono (fun b hb=>⟨⟨rfl,hb⟩,rfl⟩) ha⟩,hx⟩,hb,hy⟩
  ·cases h1
 | ⟨.mov _,_⟩::_,_,_,_,_,_,hp,_,_,_=>by simp [MS] at hp
 | ⟨.inp _,_⟩::_,_,_,_,_,_,hp,_,_,_=>by simp [MS] at hp
 | ⟨.ptr _,_⟩::_,_,_,_,_,_,hp,_,_,_=>by simp [MS] at hp
 | [],_::_,_,_,_,_,hp,_,_,_=>by simp [MS] at hp
 | ⟨.ro,_⟩::_,[],_,_,_,_,hp,_,_,_=>by simp [MS] at hp
theorem Qr {P:Program} (hl:laidOutB P=true) {H:Type} {enc:TypeId×Value→H} {W W':World} (hb:Below W.heap.size W W'):∀ {Ts:List TypeId} {vs:List Value} {ds:List (DataW H)} {pl:List MemPlace},
 Ts.all (fun t=>P.readableRec t && decide (t<P.types.size))=true→DataW.TrodAll enc P W 0 (fun _=>true) true Ts vs ds pl→DataW.TrodAll enc P W' 0 (fun b=>decide (b<W.heap.size)) true Ts vs ds pl
 | [],_,_,_,_,hA=>by
  obtain⟨rfl,rfl,rfl⟩:=trodAll_nil hA;exact trodAll_mk0
 | T::Ts,_,_,_,hr,hA=>by
  obtain⟨v,vs',d,ds',p,q,rfl,rfl,rfl,hd,hA'⟩:=trodAll_cons hA;simp only [List.all_cons,Bool.and_eq_true,decide_eq_true_eq] at hr;have hlt:∀ x∈p,x.block<W.heap.size:=by
   obtain⟨m,hm⟩:=hd;exact DataW.trod_lt m _ _ _ hm
  exact⟨p,q,Below.trod hl hr.1.1 hr.1.2 hd hb hlt,Qr hl hb hr.2 hA',rfl⟩
theorem Tm {P:Program} {τ:List TE} (hτ:TabOk P τ) (hk0:WA τ=true) (hl:laidOutB P=true) {f:Nat} {ps:List Prm} {F:HL (pts ps)→Option (HL (rts [⟨.bool,.ro⟩]++fts ps))} (hc:Cok P ⟨f,ps,[⟨.bool,.ro⟩],F,0⟩) {fn:Func} {s:ChangeSpec}
 (hp:MS τ ps fn.params.toList=true) (hread:fn.params.toList.all (fun t=>P.readableRec t && decide (t<P.types.size))=true) (hres:∃ Tb,fn.resultTypes = #[Tb]∧P.underlying Tb=some .bool) (hvars:s.vars=[])
 (hspec:∀ (H:Type) (ds:List (DataW H)),ds.length=fn.params.size→s.fn H ds = { results:=[.lit (.bool true)],args:=ds }) (pure:∀ x,YC ps x→∃ y,F x=some y∧y.1=true)
 {H:Type} {enc:TypeId×Value→H} (W:World) (hI:Inv P W fun _=>none) (base:Nat) (args:Array Value) (ds gs:List (DataW H)) (before:List MemPlace)
 (hval:∀ (j:Nat) t v,fn.params[j]?=some t→args[j]?=some v→Value.okWide P W .any base t v) (hW:DataW.Whole enc P fn.params.toList s.vars false W args.toList ds gs before)
 (hsz:(DataW.weightsEach P (fn.params.toList++s.plain.varTypes P) (ds++gs)).all (·≤reachBytes)=true):
 Calls P f args W fun e W'=>∃ v,e=.returned v∧s.post enc P fn false true false false W args v W':=by
 have hW':=hW
 obtain⟨p,q,hA,hV,rfl,hfz,hnd⟩:=hW';rw [hvars] at hV;obtain⟨rfl,rfl⟩:=trodVars_none hV;rw [List.append_nil] at hsz;have hlen:ds.length=fn.params.size:=by
  have:∀ {Ts:List TypeId} {vs:List Value} {ds:List (DataW H)} {pl:List MemPlace},DataW.TrodAll enc P W 0 (fun _=>true) true Ts vs ds pl→ds.length=Ts.length:=by
   intro Ts
   induction Ts with
   | nil=>intro vs ds pl h;obtain⟨_,rfl,_⟩:=trodAll_nil h;rfl
   | cons T Ts ih=>intro vs ds pl h;obtain⟨v,vs',d,ds',p,q,rfl,rfl,rfl,_,h2⟩:=trodAll_cons h;simp [ih h2]
  rw [this hA];simp
 have hw:∀ (Ts Us:List TypeId) (ds:List (DataW H)),ds.length=Ts.length→DataW.weightsEach P (Ts++Us) ds=DataW.weightsEach P Ts ds:=by
  intro Ts
  induction Ts with
  | nil=>intro Us ds h;cases ds<;>simp at h;cases Us<;>simp [DataW.weightsEach]
  | cons T Ts ih=>intro Us ds h;cases ds<;>simp at h;simp only [List.cons_append,DataW.weightsEach];rw [ih Us _ h]
 rw [hw _ _ _ (by rw [hlen];simp)] at hsz;obtain⟨x,hx,hb⟩:=Qs hτ hk0 ps fn.params.toList 0 hp hA (fun j t v h1 h2=>hval j t v (by simpa using h1) (by simpa using h2)) hsz;obtain⟨y,hy,hy1⟩:=pure x hb;have:=hc.2 W (fun _=>none) args.toList x y (fun b l h=>by cases h) hI hx hy args.toList rfl
 rw [show args.toList.toArray=args by simp] at this;refine this.mono fun e W' he=>?_
 have he:OD W (fun _=>none) ps args.toList [⟨.bool,.ro⟩] y e W':=he
 obtain⟨v,own',rfl,g1,g2,g3,g4,_,g6,_,hr,_⟩:=he;obtain⟨cs,hcs,hr⟩:=hr;have hcs':cs=[Value.bool true]:=by rw [← hy1];exact hr
 have hv:cs=[v]:=hcs
 rw [hcs'] at hv;obtain rfl:v=.bool true:=by simpa using hv.symm
 have bel:Below W.heap.size W W':=⟨g1,g2,g3,g4,fun k hk=>(g6 k hk rfl).2⟩
 obtain⟨Tb,hT1,hT2⟩:=hres;refine⟨_,rfl,ds,[],_,[],p,[],hW,?_,?_,?_,bel.frame _,fun h=>by cases h⟩
 ·rw [List.append_nil,hspec H ds hlen,hT1];exact trodAll_mk1 (shut_bool hT2 _)
 ·rw [List.append_nil,hspec H ds hlen];exact Qr hl bel hread hA
 ·rw [List.append_nil,hspec H ds hlen,hvars];exact rfl
end Go.Proofs.YtmakhmoielhjeaaGreatDoorE
