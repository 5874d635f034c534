import Derived.Test.YtebhagohhbmgoaaGreatOwMa
import Derived.Laws.StructEq
import Derived.Lib.AppendZerosOnto
import Derived.Carry
import Derived.WalkKit
import Derived.ProofKit
import Derived.OpenShut
import Derived.JoinedCond
/-
  What is proved here: what operations yield, told apart from when they are carried out; cuts and loops by a predicate on states; what is new memory; over OwM.
-/
namespace Go.Ow
open Go.RowKit
set_option linter.unusedVariables false
set_option linter.unusedSimpArgs false

variable {x : Cx} {ops : Array Oper} {Q : Exit → Act → World → Prop} {rest : List Oper} {l : Slots} {own : List Own} {H : Heaplet}

theorem wrap_w64 (n : Int) : IntKind.i64.wrap n = w64 n:=by
  simp only [IntKind.wrap,IntKind.bits,IntKind.signed,w64,Bool.true_and,decide_eq_true_eq,ge_iff_le]
  by_cases h : (2 : Int) ^ (64 - 1) ≤ n % 2 ^ 64
  · rw [if_pos h]; omega
  · rw [if_neg h]; omega

/-! ### Cuts -/
def HoldsI (x : Cx) (I : Slots → List Own → Heaplet → Prop) (a : Act) (w : World) : Prop:=∃ l o g,I l o g ∧ Holds x l o g a w
theorem JC.cut {c : Code} (I : Slots → List Own → Heaplet → Prop) (h2 : ∀ l o g,I l o g → JN x (Q .normal) l o g)
    (h1 : JC x c (Exit.then (HoldsI x I) Q) l own H) : JC x c Q l own H:=fun a w hh => by
  refine wpIn_mono (h1 a w hh) ?_
  intro e a w hq
  cases e with
  | normal => obtain ⟨l,o,g,hI,hh⟩:=hq; exact h2 l o g hI a w hh
  | exit id => exact hq
  | goto t => exact hq
  | ret => exact hq
  | panic c => exact hq
  | outgrown => exact hq
theorem JN.cut {I : Slots → List Own → Heaplet → Prop} {l' : Slots} {o' : List Own} {g' : Heaplet} (hI : I l' o' g') (hl : Sub l' l) (ho : o' = own) (hg : g' = H) :
    JN x (Exit.then (HoldsI x I) Q .normal) l own H:=fun a w hh => ⟨l',o',g',hI,by rw [ho,hg]; exact hh.sub hl⟩
theorem Zf {c : Code} (I : Nat → Slots → List Own → Heaplet → Prop) (n0 : Nat) {l0 : Slots} (hb : ∀ l o g,¬ I 0 l o g) (h0 : I n0 l0 own H) (hl : Sub l0 l)
    (round : ∀ n l o g,I (n + 1) l o g → JC x c (Exit.then (HoldsI x (I n)) Q) l o g) : JC x (.loop c) Q l own H:=by
  refine JC.loop (ι:=Nat × Slots × List Own × Heaplet) (fun i => i.2.1) (fun i => i.2.2.1) (fun i => i.2.2.2) (fun i => I i.1 i.2.1 i.2.2.1 i.2.2.2) (fun i => i.1) (n0,l0,own,H) h0 hl rfl rfl ?_
  rintro ⟨n,l',o',g'⟩ hI
  cases n with
  | zero => exact (hb _ _ _ hI).elim
  | succ n =>
    intro a w hh
    refine wpIn_mono (round n l' o' g' hI a w hh) ?_
    intro e a w hq
    cases e with
    | normal => obtain ⟨l2,o2,g2,hI2,hh2⟩:=hq; exact ⟨(n,l2,o2,g2),hI2,Nat.lt_succ_self n,hh2⟩
    | exit id => exact hq
    | goto t => exact hq
    | ret => exact hq
    | panic c => exact hq
    | outgrown => exact hq
theorem ZM {c : Tmp} {d e : Code} {b : Bool} (hc : lk l c = some (.bool b)) (ht : b = true → JC x d Q ((c,.bool true) :: l) own H) (hf : b = false → JC x e Q ((c,.bool false) :: l) own H) :
    JC x (.cond (.tmp c) d e) Q l own H:=JC.cond hc ht hf
/-! ### Values of operations -/
section R
variable {ty : TypeId} {p q : Operand} {t u : TypeId} {v : Value}
theorem ZZ (h1 : evo l p = some v) : Runs x (.move p) ty l own H v:=fun ρ w _ _ _ _ hρ hm => by simp [execOp,hρ _ _ h1,go_sem]
theorem R.assign (h1 : evo l p = some v) : Runs x (.assign p) ty l own H v:=fun ρ w _ _ _ _ hρ hm => by simp [execOp,hρ _ _ h1,go_sem]
theorem R.pickT {c : Operand} (hc : evo l c = some (.bool true)) (h1 : evo l p = some v) : Runs x (.pick c p q) ty l own H v:=fun ρ w _ _ _ _ hρ hm => by simp [execOp,hρ _ _ hc,hρ _ _ h1,go_sem]
theorem R.pickF {c : Operand} (hc : evo l c = some (.bool false)) (h1 : evo l q = some v) : Runs x (.pick c p q) ty l own H v:=fun ρ w _ _ _ _ hρ hm => by simp [execOp,hρ _ _ hc,hρ _ _ h1,go_sem]
theorem R.not {b : Bool} (h1 : evo l p = some (.bool b)) : Runs x (.unOp .not t p) ty l own H (.bool (!b)):=fun ρ w _ _ _ _ hρ hm => by simp [execOp,hρ _ _ h1,Op.unary,go_sem]
theorem R.extract {vs : Array Value} {i : Nat} (h1 : evo l p = some (.tuple vs)) (h2 : vs[i]? = some v) : Runs x (.extract p i) ty l own H v:=fun ρ w _ _ _ _ hρ hm => by simp [execOp,hρ _ _ h1,Instr.extract,h2,go_sem]
theorem R.add_i {m n : Int} (h1 : evo l p = some (.int .i64 m)) (h2 : evo l q = some (.int .i64 n)) : Runs x (.binOp .add t p q u) ty l own H (.int .i64 (w64 (m + n))) :=
  fun ρ w _ _ _ _ hρ hm => by rw [← wrap_w64]; simp [execOp,hρ _ _ h1,hρ _ _ h2,eqGuard,binOp,Op.intArith,go_sem]
theorem Zt {k : Nat} {m : Int} (h1 : evo l p = some (.int .i64 (k : Int))) (h2 : evo l q = some (.int .i64 1)) (hk : (k : Int) < m) (hm : m ≤ 9223372036854775807) : Runs x (.binOp .add t p q u) ty l own H (.int .i64 ((k + 1 : Nat) : Int)):=by
  have:=R.add_i (x:=x) (own:=own) (H:=H) (ty:=ty) (t:=t) (u:=u) h1 h2
  rw [Zq (by omega) (by omega)] at this; exact this
theorem R.sub_i {m n : Int} (h1 : evo l p = some (.int .i64 m)) (h2 : evo l q = some (.int .i64 n)) : Runs x (.binOp .sub t p q u) ty l own H (.int .i64 (w64 (m - n))) :=
  fun ρ w _ _ _ _ hρ hm => by rw [← wrap_w64]; simp [execOp,hρ _ _ h1,hρ _ _ h2,eqGuard,binOp,Op.intArith,go_sem]
theorem R.mul_i {m n : Int} (h1 : evo l p = some (.int .i64 m)) (h2 : evo l q = some (.int .i64 n)) : Runs x (.binOp .mul t p q u) ty l own H (.int .i64 (w64 (m * n))) :=
  fun ρ w _ _ _ _ hρ hm => by rw [← wrap_w64]; simp [execOp,hρ _ _ h1,hρ _ _ h2,eqGuard,binOp,Op.intArith,go_sem]
theorem R.quo_i {m n : Int} (h1 : evo l p = some (.int .i64 m)) (h2 : evo l q = some (.int .i64 n)) (h0 : n ≠ 0) : Runs x (.binOp .quo t p q u) ty l own H (.int .i64 (w64 (m.tdiv n))) :=
  fun ρ w _ _ _ _ hρ hm => by rw [← wrap_w64]; simp [execOp,hρ _ _ h1,hρ _ _ h2,eqGuard,binOp,Op.intDiv,h0,go_sem]
theorem R.rem_i {m n : Int} (h1 : evo l p = some (.int .i64 m)) (h2 : evo l q = some (.int .i64 n)) (h0 : n ≠ 0) : Runs x (.binOp .rem t p q u) ty l own H (.int .i64 (m.tmod n)) :=
  fun ρ w _ _ _ _ hρ hm => by simp [execOp,hρ _ _ h1,hρ _ _ h2,eqGuard,binOp,Op.intDiv,h0,go_sem]
theorem R.shl_i {m n : Int} {k : IntKind} (h1 : evo l p = some (.int .i64 m)) (h2 : evo l q = some (.int k n)) (h0 : 0 ≤ n) : Runs x (.binOp .shl t p q u) ty l own H (.int .i64 (sli m n)) :=
  fun ρ w _ _ _ _ hρ hm => by rw [sli,← wrap_w64]; simp [execOp,hρ _ _ h1,hρ _ _ h2,eqGuard,binOp,Op.shift,IntKind.bits,show ¬ n < 0 by omega,go_sem]
theorem R.lss_i {k : IntKind} {m n : Int} (h1 : evo l p = some (.int k m)) (h2 : evo l q = some (.int k n)) : Runs x (.binOp .lss t p q u) ty l own H (.bool (decide (m < n))) :=
  fun ρ w _ _ _ _ hρ hm => by simp [execOp,hρ _ _ h1,hρ _ _ h2,eqGuard,binOp,Op.intCmp,go_sem]
theorem R.leq_i {k : IntKind} {m n : Int} (h1 : evo l p = some (.int k m)) (h2 : evo l q = some (.int k n)) : Runs x (.binOp .leq t p q u) ty l own H (.bool (decide (m ≤ n))) :=
  fun ρ w _ _ _ _ hρ hm => by simp [execOp,hρ _ _ h1,hρ _ _ h2,eqGuard,binOp,Op.intCmp,go_sem]
theorem R.gtr_i {k : IntKind} {m n : Int} (h1 : evo l p = some (.int k m)) (h2 : evo l q = some (.int k n)) : Runs x (.binOp .gtr t p q u) ty l own H (.bool (decide (n < m))) :=
  fun ρ w _ _ _ _ hρ hm => by simp [execOp,hρ _ _ h1,hρ _ _ h2,eqGuard,binOp,Op.intCmp,go_sem]
theorem R.geq_i {k : IntKind} {m n : Int} (h1 : evo l p = some (.int k m)) (h2 : evo l q = some (.int k n)) : Runs x (.binOp .geq t p q u) ty l own H (.bool (decide (n ≤ m))) :=
  fun ρ w _ _ _ _ hρ hm => by simp [execOp,hρ _ _ h1,hρ _ _ h2,eqGuard,binOp,Op.intCmp,go_sem]
theorem R.eql_i {k : IntKind} {m n : Int} (h1 : evo l p = some (.int k m)) (h2 : evo l q = some (.int k n)) : Runs x (.binOp .eql t p q u) ty l own H (.bool (decide (m = n))) :=
  fun ρ w _ _ _ _ hρ hm => by simp [execOp,hρ _ _ h1,hρ _ _ h2,eqGuard,binOp,Op.intCmp,go_sem]; rw [Bool.eq_iff_iff]; simp
theorem R.neq_i {k : IntKind} {m n : Int} (h1 : evo l p = some (.int k m)) (h2 : evo l q = some (.int k n)) : Runs x (.binOp .neq t p q u) ty l own H (.bool (!decide (m = n))) :=
  fun ρ w _ _ _ _ hρ hm => by simp [execOp,hρ _ _ h1,hρ _ _ h2,eqGuard,binOp,Op.intCmp,go_sem]; rw [Bool.eq_iff_iff]; simp
theorem R.convW {k k' : IntKind} {m : Int} {s : TypeId} {ds : TypeDesc} (hs : x.P.underlying s = some ds) (ht : x.P.underlying t = some (.int k')) (h1 : evo l p = some (.int k m)) : Runs x (.convert s t p) ty l own H (.int k' (k'.wrap m)) :=
  fun ρ w _ _ _ _ hρ hm => by simp [execOp,hρ _ _ h1,convert,run_underlying hs,run_underlying ht,Conv.intToInt,go_sem]
theorem R.func {fn : Go.Fn} {fs cs : Array Operand} {vf vc : List Value} (h1 : fs.toList.mapM (evo l) = some vf) (h2 : cs.toList.mapM (evo l) = some vc) : Runs x (.makeFunc fn fs cs) ty l own H (.func fn vf.toArray vc.toArray) :=
  fun ρ w _ _ _ _ hρ hm => by
    have e1:=mapM_eval hρ h1
    have e2:=mapM_eval hρ h2
    simp [execOp,Instr.makeFunc,e1,e2,go_sem]
theorem R.fa {S k n b o : Nat} (hf : fieldOff x.P S k = some n) (h1 : evo l p = some (.pointer (some ⟨b,o,none⟩))) : Runs x (.fieldAddr S p k) ty l own H (.pointer (some ⟨b,o + n,none⟩)) :=
  fun ρ w _ _ _ _ hρ hm => by simp only [execOp,hρ _ _ h1]; exact run_v (run_fieldAt hf b o w)
theorem R.ld {T n b o : Nat} (hs : shapeOf x.P T = some (false,n)) (h1 : evo l p = some (.pointer (some ⟨b,o,none⟩))) (ha : At H own b o v) : Runs x (.load T p) ty l own H v :=
  fun ρ w _ _ _ _ hρ hm => by simp only [execOp,hρ _ _ h1]; exact run_v (run_load1 hs (ha.cell hm))
theorem R.ldN {T b o n : Nat} {vs : List Value} (hs : shapeOf x.P T = some (true,n)) (h1 : evo l p = some (.pointer (some ⟨b,o,none⟩))) (ha : ∀ j u,vs[j]? = some u → At H own b (o + j) u) (hn : vs.length = n) : Runs x (.load T p) ty l own H (.agg vs.toArray) :=
  fun ρ w _ _ _ _ hρ hm => by simp only [execOp,hρ _ _ h1]; exact run_v (run_loadN (by rw [hn]; exact hs) (fun j u e => (ha j u e).cell hm))
theorem R.ldo (i : Nat) {T n b o : Nat} {cur : Array Value} {t : TypeId} {fr : Nat × Nat} (hs : shapeOf x.P T = some (false,n)) (h1 : evo l p = some (.pointer (some ⟨b,o,none⟩)))
    (hi : own[i]? = some [(b,.cells cur t fr)]) (hc : cur.toList[o]? = some v) : Runs x (.load T p) ty l own H v:=R.ld hs h1 (.inr ⟨i,cur,t,fr,hi,by simpa using hc⟩)
theorem R.ldoN (i : Nat) {T b o n : Nat} {cur : Array Value} {t : TypeId} {fr : Nat × Nat} {vs : List Value} (hs : shapeOf x.P T = some (true,n)) (h1 : evo l p = some (.pointer (some ⟨b,o,none⟩)))
    (hi : own[i]? = some [(b,.cells cur t fr)]) (hv : vs = (cur.toList.drop o).take n) (hn : vs.length = n) : Runs x (.load T p) ty l own H (.agg vs.toArray) :=
  R.ldN hs h1 (fun j u e => .inr ⟨i,cur,t,fr,hi,by
    rw [hv,List.getElem?_take] at e
    split at e
    · simpa [List.getElem?_drop] using e
    · cases e⟩) hn
theorem R.ldH {T n b o : Nat} (hs : shapeOf x.P T = some (false,n)) (h1 : evo l p = some (.pointer (some ⟨b,o,none⟩))) (ha : H b o = some v) : Runs x (.load T p) ty l own H v:=R.ld hs h1 (.inl ha)
theorem R.ldHE {T b o n : Nat} {cs : List Value} (k : Nat) {vs : List Value} (hs : shapeOf x.P T = some (true,n)) (h1 : evo l p = some (.pointer (some ⟨b,o + k,none⟩))) (ha : ∀ j u,cs[j]? = some u → H b (o + j) = some u) (hv : vs = (cs.drop k).take n) (hn : vs.length = n) : Runs x (.load T p) ty l own H (.agg vs.toArray) :=
  R.ldN hs h1 (fun j u e => .inl (by
    rw [Nat.add_assoc]; refine ha _ _ ?_
    rw [hv,List.getElem?_take] at e
    split at e
    · simpa [List.getElem?_drop] using e
    · cases e)) hn
theorem R.nilCheck {a : Addr} (h1 : evo l p = some (.pointer (some a))) : Runs x (.nilCheck p) ty l own H (.pointer (some a)):=fun ρ w _ _ _ _ hρ hm => by simp [execOp,hρ _ _ h1,go_sem]
theorem R.len {ao : Option Addr} {n c : Nat} {e : TypeId} (hu : x.P.underlying t = some (.slice e)) (h1 : evo l p = some (.slice ao n c)) : Runs x (.call ⟨.builtin .len,#[p],#[t]⟩) ty l own H (.int .i64 (n : Int)) :=
  fun ρ w _ _ _ _ hρ hm => by simp [execOp,resolve,invoke,hρ _ _ h1,run_underlying hu,go_sem,Builtin.len_,goInt]
def Long (v : Value) (n : Nat) : Prop:=∃ ao cap,v = .slice ao n cap
theorem ZV {n : Nat} {e : TypeId} (hu : x.P.underlying t = some (.slice e)) (h1 : evo l p = some v) (hL : Long v n) : Runs x (.call ⟨.builtin .len,#[p],#[t]⟩) ty l own H (.int .i64 (n : Int)):=by
  obtain ⟨ao,cap,rfl⟩:=hL; exact R.len hu h1
theorem run_equalBool {P : Program} {w : World} {t : TypeId} {a b : Bool} (hu : P.underlying t = some .bool) : (Op.equal t (.bool a) (.bool b)).run P w = .ok (a == b) w:=by
  have key : ∀ k,(Op.equalIn (k + 1) t (.bool a) (.bool b)).run P w = .ok (a == b) w:=fun k => by
    unfold Op.equalIn
    rw [Sem.run_bind,run_underlying hu]
    rfl
  exact key 9999
theorem R.neqBool {a b : Bool} (hu : x.P.underlying t = some .bool) (h1 : evo l p = some (.bool a)) (h2 : evo l q = some (.bool b)) : Runs x (.binOp .neq t p q u) ty l own H (.bool (!(a == b))) :=
  fun ρ w _ _ _ _ hρ hm => by
    simp only [execOp,hρ _ _ h1,hρ _ _ h2]
    refine run_v ?_
    have hg : ∃ g : Bool,(eqGuard .neq t p q (.bool a) (.bool b)).run x.P w = .ok () w:=⟨true,by unfold eqGuard; split <;> rfl⟩
    obtain ⟨_,hg⟩:=hg
    rw [Sem.run_bind,hg]
    simp only [Result.andThen,binOp,Sem.run_bind,run_equalBool hu]; rfl
theorem R.eqlStr {a b : List UInt8} (h1 : evo l p = some (.string (bs a))) (h2 : evo l q = some (.string (bs b))) : Runs x (.binOp .eql t p q u) ty l own H (.bool (decide (a = b))) :=
  fun ρ w _ _ _ _ hρ hm => by simp [execOp,hρ _ _ h1,hρ _ _ h2,eqGuard,binOp,Op.stringOp,bs_eq,go_sem]
theorem R.neqStr {a b : List UInt8} (h1 : evo l p = some (.string (bs a))) (h2 : evo l q = some (.string (bs b))) : Runs x (.binOp .neq t p q u) ty l own H (.bool (!decide (a = b))) :=
  fun ρ w _ _ _ _ hρ hm => by simp [execOp,hρ _ _ h1,hρ _ _ h2,eqGuard,binOp,Op.stringOp,bs_eq,go_sem]
theorem R.toStr {s e : TypeId} {lb : List UInt8} (hs : x.P.underlying s = some (.slice e)) (he : x.P.underlying e = some (.int .u8)) (ht : x.P.underlying t = some .string) (h1 : evo l p = some v) (hB : IsSlice H RU8 1 v lb) : Runs x (.convert s t p) ty l own H (.string (bs lb)):=by
  obtain ⟨cells,hf,ao,cap,rfl,hcc⟩:=IsSlice.cells hB
  rw [hf.of_u8] at hcc
  exact fun ρ w _ _ _ _ hρ hm => by
    simp only [execOp,hρ _ _ h1]
    exact run_v (run_toStr hs he ht ⟨ao,cap,rfl,hcc.imp id (fun ⟨b,o,e1,e2⟩ => ⟨b,o,e1,fun j u hj => hm.1 _ _ _ (e2 j u hj)⟩)⟩)
theorem R.eqlNil {ao : Option Addr} {n c : Nat} {e : TypeId} (hu : x.P.underlying t = some (.slice e)) (h1 : evo l p = some (.slice ao n c)) (h2 : evo l q = some (.slice none 0 0)) : Runs x (.binOp .eql t p q u) ty l own H (.bool ao.isNone) :=
  fun ρ w _ _ _ _ hρ hm => by
    simp only [execOp,hρ _ _ h1,hρ _ _ h2]
    refine run_v ?_
    have hg : (eqGuard .eql t p q (.slice ao n c) (.slice none 0 0)).run x.P w = .ok () w:=rfl
    rw [Sem.run_bind,hg]
    simp only [Result.andThen,binOp,Sem.run_bind,run_equalNil hu]; rfl
theorem R.bld {T : TypeId} {parts : Array (Nat × Operand)} {vs : List (Nat × Value)} {z : Value} {places : List (Nat × Nat)} {cells : Array Value} (hz : zeroOf x.P T = some z) (hp : placesOf x.P T = some places)
    (hv : parts.toList.mapM (fun p => (evo l p.2).map (fun u => (p.1,u))) = some vs) (hf : Instr.fill (places.toArray[·]?) z.cells vs = some cells) : Runs x (.build T parts) ty l own H (.agg cells) :=
  fun ρ w _ _ _ _ hρ hm => by
    simp only [execOp]
    have key : ∀ (ps : List (Nat × Operand)) (us : List (Nat × Value)),ps.mapM (fun p => (evo l p.2).map (fun u => (p.1,u))) = some us → ps.map (fun p => (p.1,ρ p.2)) = us:=by
      intro ps
      induction ps with
      | nil => intro us e; simp at e; simp [e]
      | cons p ps ih =>
        intro us e
        simp only [List.mapM_cons,Option.bind_eq_bind,Option.bind_eq_some_iff,Option.map_eq_some_iff] at e
        obtain ⟨b,⟨u,hu,rfl⟩,cs,hcs,e⟩:=e
        simp at e; subst e
        simp [ih cs hcs,hρ _ _ hu]
    have e : parts.map (fun p => (p.1,ρ p.2)) = vs.toArray:=by
      rw [← key _ _ hv]; apply Array.ext'; simp
    have:=run_build (P:=x.P) (w:=w) hz hp hf
    rw [← e] at this
    exact run_v this
end R

/-! ### Places in slices -/
def ElemAt (v : Value) (n : Nat) (i : Int) (b o : Nat) : Prop:=0 ≤ i ∧ ∃ o0 len cap,v = .slice (some ⟨b,o0,none⟩) len cap ∧ o = o0 + i.toNat * n ∧ i.toNat < len
theorem IsSlice.elem {α : Type} {R : Rep α} {n : Nat} {v : Value} {m : List α} {i : Int} {y : α} {HF : Heaplet} (hS : IsSlice HF R n v m) (hA : Nth m i y) :
    ∃ b o cs,ElemAt v n i b o ∧ R HF cs y ∧ cs.length = n ∧ ∀ j u,cs[j]? = some u → HF b (o + j) = some u:=by
  obtain ⟨ao,cap,rfl,e1,e2,e3,e4,e5⟩:=hS
  obtain ⟨b,o,cs,rfl,f1,f2,f3⟩:=e5 _ _ hA.2
  exact ⟨b,_,cs,⟨hA.1,o,_,cap,rfl,rfl,(List.getElem?_eq_some_iff.1 hA.2).1⟩,f2,f1,f3⟩
theorem RowOf.elem {α : Type} {R : Rep α} {n B : Nat} {E : TypeId} {v : Value} {m : List α} {K : Own} {i : Int} {y : α} {HF : Heaplet} (hS : RowOf HF R B E n v m K) (hA : Nth m i y) :
    ∃ b o cs cur,K = [(b,.cells cur E (0,0))] ∧ ElemAt v n i b o ∧ R HF cs y ∧ cs.length = n ∧ ∀ j u,cs[j]? = some u → cur.toList[o + j]? = some u:=by
  obtain ⟨cells,⟨h0,h3⟩,hf,ho⟩:=hS
  rcases h3 with ⟨rfl,h3,rfl⟩ | ⟨b,cap,cur,rfl,rfl,e3,e4,e5,e6,e7⟩
  · have : m = []:=List.length_eq_zero_iff.1 h3
    subst this; simp [Nth] at hA
  · obtain ⟨cs,f1,f2,f3⟩:=hf.at hA.2
    refine ⟨b,_,cs,cur,rfl,⟨hA.1,0,_,cap,rfl,rfl,(List.getElem?_eq_some_iff.1 hA.2).1⟩,f2,f1,fun j u hj => ?_⟩
    have:=f3 j u hj
    rw [← e7,List.getElem?_take] at this
    split at this
    · rw [Nat.zero_add]; exact this
    · cases this
section R2
variable {ty : TypeId} {p q : Operand} {t u : TypeId} {v : Value}
theorem Zu {T e : TypeId} {g : Bool} {n b o : Nat} {i : Int} {kk : IntKind} (hu : x.P.underlying T = some (.slice e)) (hs : shapeOf x.P e = some (g,n)) (h1 : evo l p = some v) (h2 : evo l q = some (.int kk i)) (hE : ElemAt v n i b o) :
    Runs x (.indexAddr T p q) ty l own H (.pointer (some ⟨b,o,none⟩)):=by
  obtain ⟨h0,o0,len,cap,rfl,rfl,hlt⟩:=hE
  obtain ⟨k,rfl⟩:=Int.eq_ofNat_of_zero_le h0
  exact fun ρ w _ _ _ _ hρ hm => by simp only [execOp,hρ _ _ h1,hρ _ _ h2]; exact run_v (run_indexAt hu hs (by simpa using hlt) w)
theorem R.slc {α : Type} {R : Rep α} {size cap : Nat} {e : TypeId} {g : Bool} {a b c : Int} {lo hi mx : Option Operand} {m : List α} {v' : Value} (hu : x.P.underlying t = some (.slice e)) (hs : shapeOf x.P e = some (g,size)) (h0 : evo l p = some v)
    (h1 : match lo with | none => a = 0 | some o => ∃ kk,evo l o = some (.int kk a)) (h2 : match hi with | none => b = m.length | some o => ∃ kk,evo l o = some (.int kk b)) (h3 : match mx with | none => ∃ ao n,v = .slice ao n cap ∧ c = cap | some o => ∃ kk,evo l o = some (.int kk c))
    (hab : 0 ≤ a ∧ a ≤ b ∧ b ≤ c) (hv : ∃ ao,v = .slice ao m.length cap ∧ c ≤ cap ∧ v' = sliced ao a.toNat b.toNat c.toNat size) (hmx : mx = none ∨ hi ≠ none) :
    Runs x (.slice t p lo hi mx) ty l own H v':=by
  obtain ⟨ao,rfl,hc,rfl⟩:=hv
  obtain ⟨a,rfl⟩:=Int.eq_ofNat_of_zero_le hab.1
  obtain ⟨b,rfl⟩:=Int.eq_ofNat_of_zero_le (show 0 ≤ b by omega)
  obtain ⟨c,rfl⟩:=Int.eq_ofNat_of_zero_le (show 0 ≤ c by omega)
  exact fun ρ w _ _ _ _ hρ hm => by
    simp only [execOp,hρ _ _ h0]
    refine run_v (run_slc hu hs ρ hρ lo hi mx a b c ?_ ?_ ?_ (by omega) (by omega) (by omega) hmx w)
    · cases lo with
      | none => simp only at h1; simp only [bnd]; omega
      | some o => obtain ⟨kk,h⟩:=h1; exact ⟨kk,_,h,rfl⟩
    · cases hi with
      | none => simp only at h2; simp only [bnd]; omega
      | some o => obtain ⟨kk,h⟩:=h2; exact ⟨kk,_,h,rfl⟩
    · cases mx with
      | none => obtain ⟨ao',n',e1,e2⟩:=h3; simp only [Value.slice.injEq] at e1; simp only [bnd]; omega
      | some o => obtain ⟨kk,h⟩:=h3; exact ⟨kk,_,h,rfl⟩
end R2
theorem IsSlice.cutv {α : Type} {R : Rep α} {size : Nat} {v : Value} {m m' : List α} {a b : Int} {HF : Heaplet} (h : IsSlice HF R size v m) (hm : m' = cut m a b) (hab : 0 ≤ a ∧ a ≤ b ∧ b ≤ m.length) :
    ∃ v' cap,(∃ ao n,v = .slice ao n cap ∧ (cap : Int) = cap) ∧ b ≤ cap ∧ (∃ ao,v = .slice ao m.length cap ∧ (cap : Int) ≤ cap ∧ v' = sliced ao a.toNat b.toNat (cap : Int).toNat size) ∧ IsSlice HF R size v' m':=by
  subst hm
  obtain ⟨ao,cap,rfl,e1,r⟩:=h
  have hs:=IsSlice.sub (ao:=ao) (n:=m.length) (cap:=cap) ⟨ao,cap,rfl,e1,r⟩ a.toNat b.toNat cap (by omega) (by omega) (by omega) (Nat.le_refl _)
  exact ⟨_,cap,⟨ao,_,rfl,rfl⟩,by omega,⟨ao,rfl,Int.le_refl _,rfl⟩,by simpa [cut] using hs⟩
theorem IsSlice.long {α : Type} {R : Rep α} {size : Nat} {v : Value} {m : List α} {HF : Heaplet} (h : IsSlice HF R size v m) : Long v m.length:=by obtain ⟨ao,cap,e,_⟩:=h; exact ⟨ao,cap,e⟩
theorem RowOf.long {α : Type} {R : Rep α} {B : Nat} {E : TypeId} {size : Nat} {v : Value} {ls : List α} {K : Own} {HF : Heaplet} (h : RowOf HF R B E size v ls K) : Long v ls.length:=by
  obtain ⟨ao,cap,e,_⟩:=h.len; exact ⟨ao,cap,e⟩
theorem IsSlice.lenI {α : Type} {R : Rep α} {size : Nat} {v : Value} {m : List α} {HF : Heaplet} (h : IsSlice HF R size v m) : (m.length : Int) ≤ 9223372036854775807:=by have:=h.len_le; omega
theorem RowOf.lenI {α : Type} {R : Rep α} {B : Nat} {E : TypeId} {size : Nat} {v : Value} {ls : List α} {K : Own} {HF : Heaplet} (h : RowOf HF R B E size v ls K) : (ls.length : Int) ≤ 9223372036854775807:=by
  obtain ⟨ao,cap,e,h1,h2⟩:=h.len; unfold maxLen at h2; omega

/-! ### What is new -/
def New (H H' : Heaplet) : Heaplet:=fun b o => match H b o with
  | none => H' b o
  | some _ => none
theorem New.le (H H' : Heaplet) : Hle (New H H') H':=fun b o v h => by
  unfold New at h; split at h
  · exact h
  · cases h
theorem New.mono {H H1 H2 : Heaplet} (h : Hle H1 H2) : Hle (New H H1) (New H H2):=fun b o v e => by
  unfold New at e ⊢
  split at e
  · rename_i hn; simp [hn,h _ _ _ e]
  · cases e
theorem New.call {H0 H H' : Heaplet} (h : Hle H0 H) : Hle (New H H') (New H0 H'):=fun b o v e => by
  unfold New at e ⊢
  split at e
  · rename_i hn
    cases h0 : H0 b o with
    | none => simp [e]
    | some u => rw [h _ _ _ h0] at hn; cases hn
  · cases e
def Rep.Const {α : Type} (R : Rep α) : Prop:=∀ H H' cs x,R H cs x → R H' cs x
theorem RU8.const : RU8.Const:=fun _ _ _ _ h => h
theorem RU32.const : RU32.Const:=fun _ _ _ _ h => h
theorem RBool.const : RBool.Const:=fun _ _ _ _ h => h
def RInt : Rep Int:=fun _ cs n => cs = [.int .i64 n]
theorem RInt.const : RInt.Const:=fun _ _ _ _ h => h
theorem RInt.mono : RInt.Mono:=fun _ _ _ _ _ h => h
theorem RInt.one : RInt.One:=fun _ cs y h => by rw [show cs = _ from h]; intro u hu; simp at hu; subst hu; rfl
def RU64 : Rep UInt64:=fun _ cs n => cs = [.int .u64 n.toNat]
theorem RU64.const : RU64.Const:=fun _ _ _ _ h => h
theorem RU64.mono : RU64.Mono:=fun _ _ _ _ _ h => h
theorem RU64.one : RU64.One:=fun _ cs y h => by rw [show cs = _ from h]; intro u hu; simp at hu; subst hu; rfl
def RSl {α : Type} (R : Rep α) (size : Nat) : Rep (List α):=fun H cs l => ∃ v,cs = [v] ∧ IsSlice H R size v l
theorem RSl.mono {α : Type} {R : Rep α} {size : Nat} (hR : R.Mono) : (RSl R size).Mono:=fun _ _ _ _ hle ⟨v,e,h⟩ => ⟨v,e,h.mono hR hle⟩
theorem IsSlice.one1 {α : Type} {R : Rep α} {size : Nat} {v : Value} {m : List α} {HF : Heaplet} (h : IsSlice HF R size v m) : v.oneCell' = true:=by obtain ⟨ao,cap,rfl,_⟩:=h; rfl
theorem RSl.one {α : Type} {R : Rep α} {size : Nat} : (RSl R size).One:=fun _ _ _ ⟨v,e,h⟩ => by subst e; intro u hu; simp at hu; subst hu; exact h.one1
theorem Flat.conv {α : Type} {R : Rep α} {H1 H2 : Heaplet} (hR : ∀ cs y,R H1 cs y → R H2 cs y) {size : Nat} : ∀ {l : List α} {cells : List Value},Flat H1 R size cells l → Flat H2 R size cells l
  | [],cells,h => h
  | y :: r,cells,h => by
    obtain ⟨cs,more,rfl,h1,h2,h3⟩:=h
    exact ⟨cs,more,rfl,h1,hR _ _ h2,Flat.conv hR h3⟩
theorem ZP {α : Type} {R : Rep α} (hR : R.Const) {H1 H2 : Heaplet} {B : Nat} {E : TypeId} {size : Nat} {v : Value} {ls : List α} {K : Own} (h : RowOf H1 R B E size v ls K) : RowOf H2 R B E size v ls K:=by
  obtain ⟨cells,h1,h2,h3⟩:=h
  exact ⟨cells,h1,h2.conv (hR _ _),h3⟩

/-! ### Publishing: what was an own row is new memory -/
theorem Holds.pubN {α : Type} {R : Rep α} (hR : R.Mono) {i : Nat} {K : Own} {B : Nat} {E : TypeId} {size : Nat} {v : Value} {ls : List α} (hi : own[i]? = some K) (hr : RowOf (New x.H0 H) R B E size v ls K) (hB : x.w0.heap.size ≤ B)
    {a : Act} {w : World} (hh : Holds x l own H a w) : ∃ H',Hle H H' ∧ IsSlice (New x.H0 H') R size v ls ∧ Holds x l (own.set i []) H' a w:=by
  obtain ⟨cells,⟨h0,h1⟩,hf,ho⟩:=hr
  rcases h1 with ⟨rfl,h3,rfl⟩ | ⟨g,cap,cur,rfl,rfl,e3,e4,e5,e6,e7⟩
  · have : ls = []:=List.length_eq_zero_iff.1 h3
    subst this
    exact ⟨H,Hle.refl _,IsSlice.nil _ _ _,hh.size,hh.ds,hh.slots,by
      have e : own.set i [] = own:=by
        apply List.ext_getElem?
        intro j
        rw [List.getElem?_set]
        split
        · rename_i hj; subst hj; rw [hi]; split
          · rfl
          · rename_i hlt; have:=(List.getElem?_eq_some_iff.1 hi).1; omega
        · rfl
      rw [e]; exact hh.mem⟩
  · have hm:=Mem.pub hh.mem hi (Nat.le_trans hB e3)
    have hgn : ∀ o,H g o = none:=fun o => (own_here hh.mem hi).apart (g,.cells cur E (0,0)) (by simp) o
    have hg0 : ∀ o,x.H0 g o = none:=fun o => by
      cases h : x.H0 g o with
      | none => rfl
      | some v => have:=hh.mem.le _ _ _ h; rw [hgn] at this; cases this
    have hle : Hle H (fun b o => if b = g then cur[o]? else H b o):=fun b o v e => by
      by_cases hb : b = g
      · subst hb; rw [hgn] at e; cases e
      · simp [hb,e]
    refine ⟨_,hle,?_,hh.size,hh.ds,hh.slots,hm⟩
    refine IsSlice.of_cells (hf.mono hR (New.mono hle)) e4 e5 (fun j u hj => ?_)
    rw [← e7,List.getElem?_take] at hj
    split at hj
    · simp [New,hg0]; simpa using hj
    · cases hj
theorem JN.pubN {C : Act → World → Prop} {α : Type} {R : Rep α} (i : Nat) (hR : R.Mono) {K : Own} {B : Nat} {E : TypeId} {size : Nat} {v : Value} {ls : List α} (hi : own[i]? = some K) (hr : RowOf (New x.H0 H) R B E size v ls K) (hB : x.w0.heap.size ≤ B)
    (h : ∀ H',Hle H H' → IsSlice (New x.H0 H') R size v ls → JN x C l (own.set i []) H') : JN x C l own H:=fun a w hh => by
  obtain ⟨H',h1,h2,h3⟩:=hh.pubN hR hi hr hB; exact h H' h1 h2 a w h3
theorem JL.pubN {α : Type} {R : Rep α} (i : Nat) (hR : R.Mono) {K : Own} {B : Nat} {E : TypeId} {size : Nat} {v : Value} {ls : List α} (hi : own[i]? = some K) (hr : RowOf (New x.H0 H) R B E size v ls K) (hB : x.w0.heap.size ≤ B)
    (h : ∀ H',Hle H H' → IsSlice (New x.H0 H') R size v ls → JL x ops Q rest l (own.set i []) H') : JL x ops Q rest l own H:=JN.pubN (C:=fun a w => wpLs x.P x.r ops Q rest a w) i hR hi hr hB h

/-! ### Results -/
def Res (P : Program) (l : Slots) (own : List Own) : List ResultVar → List Value → Prop
  | [],vs => vs = []
  | .tmp t :: rs,vs => ∃ v r,vs = v :: r ∧ lk l t = some v ∧ Res P l own rs r
  | .cell t T :: rs,vs => ∃ v r,vs = v :: r ∧ (∃ (b i : Nat) (cur : Array Value) (tt : TypeId) (fr : Nat × Nat),lk l t = some (.pointer (some ⟨b,0,none⟩)) ∧ own[i]? = some [(b,Obj.cells cur tt fr)] ∧
      ((shapeOf P T = some (true,cur.toList.length) ∧ v = .agg cur) ∨ (∃ n,shapeOf P T = some (false,n) ∧ cur.toList[0]? = some v))) ∧ Res P l own rs r
theorem ZG {P : Program} {t : Tmp} {v : Value} {rs : List ResultVar} {r : List Value} (h : lk l t = some v) (k : Res P l own rs r) : Res P l own (.tmp t :: rs) (v :: r):=⟨v,r,rfl,h,k⟩
theorem Zn {P : Program} {t : Tmp} {T b : Nat} {cur : Array Value} {tt : TypeId} {fr : Nat × Nat} {rs : List ResultVar} {r : List Value} (i : Nat) (h : lk l t = some (.pointer (some ⟨b,0,none⟩))) (hi : own[i]? = some [(b,Obj.cells cur tt fr)])
    (hs : shapeOf P T = some (true,cur.toList.length)) (k : Res P l own rs r) : Res P l own (.cell t T :: rs) (.agg cur :: r):=⟨_,r,rfl,⟨b,i,cur,tt,fr,h,hi,.inl ⟨hs,rfl⟩⟩,k⟩
def pack : List Value → Value
  | [v] => v
  | vs => .tuple vs.toArray
def resF (tmps : Array Value) : ResultVar → Sem Value
  | .tmp t => pure (tmps.getD t undef)
  | .cell a t => do loadVar t (← asAddr (tmps.getD a undef))
theorem res_mapM {w : World} {a : Act} (hh : Holds x l own H a w) : ∀ (rs : List ResultVar) (vs : List Value),Res x.P l own rs vs → (rs.mapM (resF a.tmps)).run x.P w = .ok vs w
  | [],vs,h => by simp only [Res] at h; subst h; rfl
  | .tmp t :: rs,vs,h => by
    obtain ⟨v,r,rfl,h1,h2⟩:=h
    rw [List.mapM_cons]
    simp only [resF,Sem.run_bind,Sem.run_pure,Result.andThen,res_mapM hh rs r h2,Array.getD_eq_getD_getElem?,hh.slots t _ h1]
  | .cell t T :: rs,vs,h => by
    obtain ⟨v,r,rfl,⟨b,i,cur,tt,fr,h1,hi,hcase⟩,h2⟩:=h
    rw [List.mapM_cons]
    have hb:=hh.mem.ok.here (b,.cells cur tt fr) (List.mem_flatten.2 ⟨_,List.mem_of_getElem? hi,by simp⟩)
    have hl' : (loadVar T ⟨b,0,none⟩).run x.P w = .ok v w:=by
      have e : Instr.loadAt T (.pointer (some ⟨b,0,none⟩)) = loadVar T ⟨b,0,none⟩:=by simp [Instr.loadAt,Instr.sureAddr]
      rw [← e]
      rcases hcase with ⟨hs,rfl⟩ | ⟨n,hs,hc⟩
      · have hl:=run_loadN (P:=x.P) (T:=T) (w:=w) (b:=b) (o:=0) (vs:=cur.toList) hs (fun j u e => by rw [Nat.zero_add,cell_of_row w b j cur tt fr hb]; simpa using e)
        simpa using hl
      · exact run_load1 hs (by rw [cell_of_row w b 0 cur tt fr hb]; simpa using hc)
    simp only [resF,Sem.run_bind,Sem.run_pure,Result.andThen,Array.getD_eq_getD_getElem?,hh.slots t _ h1,asAddr,hl',res_mapM hh rs r h2]
theorem res_run {fn : Func} {w : World} {a : Act} {rs : List ResultVar} {vs : List Value} (hh : Holds x l own H a w) (hr : fn.results = rs.toArray) (h : Res x.P l own rs vs) : (results fn a.tmps).run x.P w = .ok (pack vs) w:=by
  have:=res_mapM hh rs vs h
  have e : results fn a.tmps = (do let vs ← fn.results.mapM (resF a.tmps); pure (if h : vs.size = 1 then vs[0] else .tuple vs)):=by
    unfold results; congr 1
  rw [e,hr]
  simp only [Sem.run_bind,Array.mapM_eq_mapM_toList,map_eq_pure_bind,Result.andThen]
  rw [this]
  simp only [Sem.run_pure]
  congr 1
  cases vs with
  | nil => rfl
  | cons v r => cases r <;> simp [pack]
theorem ZJ {fn : Func} {R : Value → List Own → Heaplet → Prop} {e : Exit} {rs : List ResultVar} {vs : List Value} {K rst : List Own} (he : e = .ret ∨ e = .normal) (hr : fn.results = rs.toArray) (hd : x.ds = []) (hv : Res x.P l own rs vs)
    (hp : own.flatten.Perm (K.flatten ++ rst.flatten)) (h : R (pack vs) K H) : JN x (Ret x fn R e) l own H:=fun a w hh => by
  have hm : Mem x.w0 x.H0 x.S K.flatten H w:=(hh.mem.perm hp).sub (List.sublist_append_left _ _)
  have : bodyPost x.P fn (fun e w' => ∃ v K' H',e = .returned v ∧ R v K' H' ∧ Mem x.w0 x.H0 x.S K'.flatten H' w') .ret a w :=
    ⟨hh.ds.trans hd,_,res_run hh hr hv,_,K,H,rfl,h,hm⟩
  rcases he with rfl | rfl <;> exact this
end Go.Ow

/-
  What is proved here: what operations on unsigned integers yield, told by the types UInt8, UInt32, UInt64. Printed by mku.py.
-/
namespace Go.Ow
open Go.RowKit
set_option linter.unusedVariables false
set_option linter.unusedSimpArgs false
variable {x : Cx} {l : Slots} {own : List Own} {H : Heaplet} {ty : TypeId} {p q : Operand} {t u : TypeId}

theorem wrapU8 (n : Int) : IntKind.u8.wrap n = n % 256:=by simp [IntKind.wrap,IntKind.bits,IntKind.signed]
theorem ltU8 (a : UInt8) : a.toNat < 256:=a.toNat_lt
theorem wr_add8 (a b : UInt8) : IntKind.u8.wrap ((a.toNat : Int) + (b.toNat : Int)) = ((a + b).toNat : Int):=by
  rw [wrapU8,UInt8.toNat_add]; omega
theorem R.add8 {a b : UInt8} (h1 : evo l p = some (.int .u8 ((a).toNat : Int))) (h2 : evo l q = some (.int .u8 ((b).toNat : Int))) : Runs x (.binOp .add t p q u) ty l own H (.int .u8 ((a + b).toNat : Int)) :=
  fun ρ w _ _ _ _ hρ hm => by rw [← wr_add8]; simp [execOp,hρ _ _ h1,hρ _ _ h2,eqGuard,binOp,Op.intArith,go_sem]
theorem wr_xor8 (a b : UInt8) : IntKind.u8.wrap ((BitVec.ofInt (IntKind.bits .u8) (a.toNat : Int) ^^^ BitVec.ofInt (IntKind.bits .u8) (b.toNat : Int)).toNat : Int) = ((a ^^^ b).toNat : Int):=by
  have h1:=ltU8 (a ^^^ b)
  have e : (BitVec.ofInt (IntKind.bits .u8) (a.toNat : Int) ^^^ BitVec.ofInt (IntKind.bits .u8) (b.toNat : Int)).toNat = (a ^^^ b).toNat:=by
    show (BitVec.ofInt 8 (a.toNat : Int) ^^^ BitVec.ofInt 8 (b.toNat : Int)).toNat = _
    rw [BitVec.ofInt_natCast,BitVec.ofInt_natCast,BitVec.toNat_xor,BitVec.toNat_ofNat,BitVec.toNat_ofNat,UInt8.toNat_xor]
    rw [Nat.mod_eq_of_lt (ltU8 a),Nat.mod_eq_of_lt (ltU8 b)]
  rw [e,wrapU8]; omega
theorem R.xor8 {a b : UInt8} (h1 : evo l p = some (.int .u8 ((a).toNat : Int))) (h2 : evo l q = some (.int .u8 ((b).toNat : Int))) : Runs x (.binOp .xor t p q u) ty l own H (.int .u8 ((a ^^^ b).toNat : Int)) :=
  fun ρ w _ _ _ _ hρ hm => by rw [← wr_xor8]; simp [execOp,hρ _ _ h1,hρ _ _ h2,eqGuard,binOp,Op.intBits,go_sem]
theorem R.gtr8 {a b : UInt8} (h1 : evo l p = some (.int .u8 ((a).toNat : Int))) (h2 : evo l q = some (.int .u8 ((b).toNat : Int))) : Runs x (.binOp .gtr t p q u) ty l own H (.bool (decide (b < a))) :=
  fun ρ w _ _ _ _ hρ hm => by simp [execOp,hρ _ _ h1,hρ _ _ h2,eqGuard,binOp,Op.intCmp,go_sem,UInt8.lt_iff_toNat_lt]
theorem R.neq8 {a b : UInt8} (h1 : evo l p = some (.int .u8 ((a).toNat : Int))) (h2 : evo l q = some (.int .u8 ((b).toNat : Int))) : Runs x (.binOp .neq t p q u) ty l own H (.bool (!decide (a = b))) :=
  fun ρ w _ _ _ _ hρ hm => by simp [execOp,hρ _ _ h1,hρ _ _ h2,eqGuard,binOp,Op.intCmp,go_sem,← UInt8.toNat_inj]; rw [Bool.eq_iff_iff]; simp; omega
theorem R.shr8 {a : UInt8} {n : Int} {k' : IntKind} (h1 : evo l p = some (.int .u8 ((a).toNat : Int))) (h2 : evo l q = some (.int k' n)) (h0 : 0 ≤ n) : Runs x (.binOp .shr t p q u) ty l own H (.int .u8 ((sr8 a n.toNat).toNat : Int)):=by
  have e : ((a.toNat : Int).fdiv (2 ^ (min n.toNat 8))) = ((sr8 a n.toNat).toNat : Int):=by
    rw [sr8,UInt8.toNat_ofNat',show ((2 : Int) ^ (min n.toNat 8)) = ((2 ^ (min n.toNat 8) : Nat) : Int) by simp,← Int.ofNat_fdiv]; have h1:=ltU8 a; have:=Nat.div_le_self a.toNat (2 ^ (min n.toNat 8)); rw [Nat.mod_eq_of_lt (by omega)]
  exact fun ρ w _ _ _ _ hρ hm => by rw [← e]; simp [execOp,hρ _ _ h1,hρ _ _ h2,eqGuard,binOp,Op.shift,IntKind.bits,show ¬ n < 0 by omega,go_sem]
theorem wrapU32 (n : Int) : IntKind.u32.wrap n = n % 4294967296:=by simp [IntKind.wrap,IntKind.bits,IntKind.signed]
theorem ltU32 (a : UInt32) : a.toNat < 4294967296:=a.toNat_lt
theorem wr_add32 (a b : UInt32) : IntKind.u32.wrap ((a.toNat : Int) + (b.toNat : Int)) = ((a + b).toNat : Int):=by
  rw [wrapU32,UInt32.toNat_add]; omega
theorem R.add32 {a b : UInt32} (h1 : evo l p = some (.int .u32 ((a).toNat : Int))) (h2 : evo l q = some (.int .u32 ((b).toNat : Int))) : Runs x (.binOp .add t p q u) ty l own H (.int .u32 ((a + b).toNat : Int)) :=
  fun ρ w _ _ _ _ hρ hm => by rw [← wr_add32]; simp [execOp,hρ _ _ h1,hρ _ _ h2,eqGuard,binOp,Op.intArith,go_sem]
theorem wr_mul32 (a b : UInt32) : IntKind.u32.wrap ((a.toNat : Int) * (b.toNat : Int)) = ((a * b).toNat : Int):=by
  rw [wrapU32,UInt32.toNat_mul,← Int.natCast_mul]; omega
theorem R.mul32 {a b : UInt32} (h1 : evo l p = some (.int .u32 ((a).toNat : Int))) (h2 : evo l q = some (.int .u32 ((b).toNat : Int))) : Runs x (.binOp .mul t p q u) ty l own H (.int .u32 ((a * b).toNat : Int)) :=
  fun ρ w _ _ _ _ hρ hm => by rw [← wr_mul32]; simp [execOp,hρ _ _ h1,hρ _ _ h2,eqGuard,binOp,Op.intArith,go_sem]
theorem wr_xor32 (a b : UInt32) : IntKind.u32.wrap ((BitVec.ofInt (IntKind.bits .u32) (a.toNat : Int) ^^^ BitVec.ofInt (IntKind.bits .u32) (b.toNat : Int)).toNat : Int) = ((a ^^^ b).toNat : Int):=by
  have h1:=ltU32 (a ^^^ b)
  have e : (BitVec.ofInt (IntKind.bits .u32) (a.toNat : Int) ^^^ BitVec.ofInt (IntKind.bits .u32) (b.toNat : Int)).toNat = (a ^^^ b).toNat:=by
    show (BitVec.ofInt 32 (a.toNat : Int) ^^^ BitVec.ofInt 32 (b.toNat : Int)).toNat = _
    rw [BitVec.ofInt_natCast,BitVec.ofInt_natCast,BitVec.toNat_xor,BitVec.toNat_ofNat,BitVec.toNat_ofNat,UInt32.toNat_xor]
    rw [Nat.mod_eq_of_lt (ltU32 a),Nat.mod_eq_of_lt (ltU32 b)]
  rw [e,wrapU32]; omega
theorem R.xor32 {a b : UInt32} (h1 : evo l p = some (.int .u32 ((a).toNat : Int))) (h2 : evo l q = some (.int .u32 ((b).toNat : Int))) : Runs x (.binOp .xor t p q u) ty l own H (.int .u32 ((a ^^^ b).toNat : Int)) :=
  fun ρ w _ _ _ _ hρ hm => by rw [← wr_xor32]; simp [execOp,hρ _ _ h1,hρ _ _ h2,eqGuard,binOp,Op.intBits,go_sem]
theorem wr_or32 (a b : UInt32) : IntKind.u32.wrap ((BitVec.ofInt (IntKind.bits .u32) (a.toNat : Int) ||| BitVec.ofInt (IntKind.bits .u32) (b.toNat : Int)).toNat : Int) = ((a ||| b).toNat : Int):=by
  have h1:=ltU32 (a ||| b)
  have e : (BitVec.ofInt (IntKind.bits .u32) (a.toNat : Int) ||| BitVec.ofInt (IntKind.bits .u32) (b.toNat : Int)).toNat = (a ||| b).toNat:=by
    show (BitVec.ofInt 32 (a.toNat : Int) ||| BitVec.ofInt 32 (b.toNat : Int)).toNat = _
    rw [BitVec.ofInt_natCast,BitVec.ofInt_natCast,BitVec.toNat_or,BitVec.toNat_ofNat,BitVec.toNat_ofNat,UInt32.toNat_or]
    rw [Nat.mod_eq_of_lt (ltU32 a),Nat.mod_eq_of_lt (ltU32 b)]
  rw [e,wrapU32]; omega
theorem R.or32 {a b : UInt32} (h1 : evo l p = some (.int .u32 ((a).toNat : Int))) (h2 : evo l q = some (.int .u32 ((b).toNat : Int))) : Runs x (.binOp .or t p q u) ty l own H (.int .u32 ((a ||| b).toNat : Int)) :=
  fun ρ w _ _ _ _ hρ hm => by rw [← wr_or32]; simp [execOp,hρ _ _ h1,hρ _ _ h2,eqGuard,binOp,Op.intBits,go_sem]
theorem R.lss32 {a b : UInt32} (h1 : evo l p = some (.int .u32 ((a).toNat : Int))) (h2 : evo l q = some (.int .u32 ((b).toNat : Int))) : Runs x (.binOp .lss t p q u) ty l own H (.bool (decide (a < b))) :=
  fun ρ w _ _ _ _ hρ hm => by simp [execOp,hρ _ _ h1,hρ _ _ h2,eqGuard,binOp,Op.intCmp,go_sem,UInt32.lt_iff_toNat_lt]
theorem R.leq32 {a b : UInt32} (h1 : evo l p = some (.int .u32 ((a).toNat : Int))) (h2 : evo l q = some (.int .u32 ((b).toNat : Int))) : Runs x (.binOp .leq t p q u) ty l own H (.bool (decide (a ≤ b))) :=
  fun ρ w _ _ _ _ hρ hm => by simp [execOp,hρ _ _ h1,hρ _ _ h2,eqGuard,binOp,Op.intCmp,go_sem,UInt32.le_iff_toNat_le]
theorem R.gtr32 {a b : UInt32} (h1 : evo l p = some (.int .u32 ((a).toNat : Int))) (h2 : evo l q = some (.int .u32 ((b).toNat : Int))) : Runs x (.binOp .gtr t p q u) ty l own H (.bool (decide (b < a))) :=
  fun ρ w _ _ _ _ hρ hm => by simp [execOp,hρ _ _ h1,hρ _ _ h2,eqGuard,binOp,Op.intCmp,go_sem,UInt32.lt_iff_toNat_lt]
theorem R.geq32 {a b : UInt32} (h1 : evo l p = some (.int .u32 ((a).toNat : Int))) (h2 : evo l q = some (.int .u32 ((b).toNat : Int))) : Runs x (.binOp .geq t p q u) ty l own H (.bool (decide (b ≤ a))) :=
  fun ρ w _ _ _ _ hρ hm => by simp [execOp,hρ _ _ h1,hρ _ _ h2,eqGuard,binOp,Op.intCmp,go_sem,UInt32.le_iff_toNat_le]
theorem R.eql32 {a b : UInt32} (h1 : evo l p = some (.int .u32 ((a).toNat : Int))) (h2 : evo l q = some (.int .u32 ((b).toNat : Int))) : Runs x (.binOp .eql t p q u) ty l own H (.bool (decide (a = b))) :=
  fun ρ w _ _ _ _ hρ hm => by simp [execOp,hρ _ _ h1,hρ _ _ h2,eqGuard,binOp,Op.intCmp,go_sem,← UInt32.toNat_inj]; rw [Bool.eq_iff_iff]; simp; omega
theorem R.neq32 {a b : UInt32} (h1 : evo l p = some (.int .u32 ((a).toNat : Int))) (h2 : evo l q = some (.int .u32 ((b).toNat : Int))) : Runs x (.binOp .neq t p q u) ty l own H (.bool (!decide (a = b))) :=
  fun ρ w _ _ _ _ hρ hm => by simp [execOp,hρ _ _ h1,hρ _ _ h2,eqGuard,binOp,Op.intCmp,go_sem,← UInt32.toNat_inj]; rw [Bool.eq_iff_iff]; simp; omega
theorem R.quo32 {a b : UInt32} (h1 : evo l p = some (.int .u32 ((a).toNat : Int))) (h2 : evo l q = some (.int .u32 ((b).toNat : Int))) (h0 : b ≠ 0) : Runs x (.binOp .quo t p q u) ty l own H (.int .u32 ((a / b).toNat : Int)):=by
  have hb : b.toNat ≠ 0:=by intro h; apply h0; apply UInt32.toNat_inj.1; simpa using h
  have e : IntKind.u32.wrap ((a.toNat : Int).tdiv (b.toNat : Int)) = ((a / b).toNat : Int):=by
    rw [wrapU32,UInt32.toNat_div,← Int.ofNat_tdiv]; have h1:=ltU32 a; have:=Nat.div_le_self a.toNat b.toNat; generalize a.toNat / b.toNat = z at *; omega
  exact fun ρ w _ _ _ _ hρ hm => by rw [← e]; simp [execOp,hρ _ _ h1,hρ _ _ h2,eqGuard,binOp,Op.intDiv,hb,go_sem]
theorem R.rem32 {a b : UInt32} (h1 : evo l p = some (.int .u32 ((a).toNat : Int))) (h2 : evo l q = some (.int .u32 ((b).toNat : Int))) (h0 : b ≠ 0) : Runs x (.binOp .rem t p q u) ty l own H (.int .u32 ((a % b).toNat : Int)):=by
  have hb : b.toNat ≠ 0:=by intro h; apply h0; apply UInt32.toNat_inj.1; simpa using h
  have e : (a.toNat : Int).tmod (b.toNat : Int) = ((a % b).toNat : Int):=by rw [UInt32.toNat_mod,← Int.ofNat_tmod]
  exact fun ρ w _ _ _ _ hρ hm => by rw [← e]; simp [execOp,hρ _ _ h1,hρ _ _ h2,eqGuard,binOp,Op.intDiv,hb,go_sem]
theorem R.shl32 {a : UInt32} {n : Int} {k' : IntKind} (h1 : evo l p = some (.int .u32 ((a).toNat : Int))) (h2 : evo l q = some (.int k' n)) (h0 : 0 ≤ n) : Runs x (.binOp .shl t p q u) ty l own H (.int .u32 ((sl32 a n.toNat).toNat : Int)):=by
  have e : IntKind.u32.wrap ((a.toNat : Int) * 2 ^ (min n.toNat 32)) = ((sl32 a n.toNat).toNat : Int):=by
    rw [wrapU32,sl32,UInt32.toNat_ofNat',show ((2 : Int) ^ (min n.toNat 32)) = ((2 ^ (min n.toNat 32) : Nat) : Int) by simp,← Int.natCast_mul]; omega
  exact fun ρ w _ _ _ _ hρ hm => by rw [← e]; simp [execOp,hρ _ _ h1,hρ _ _ h2,eqGuard,binOp,Op.shift,IntKind.bits,show ¬ n < 0 by omega,go_sem]
theorem R.shr32 {a : UInt32} {n : Int} {k' : IntKind} (h1 : evo l p = some (.int .u32 ((a).toNat : Int))) (h2 : evo l q = some (.int k' n)) (h0 : 0 ≤ n) : Runs x (.binOp .shr t p q u) ty l own H (.int .u32 ((sr32 a n.toNat).toNat : Int)):=by
  have e : ((a.toNat : Int).fdiv (2 ^ (min n.toNat 32))) = ((sr32 a n.toNat).toNat : Int):=by
    rw [sr32,UInt32.toNat_ofNat',show ((2 : Int) ^ (min n.toNat 32)) = ((2 ^ (min n.toNat 32) : Nat) : Int) by simp,← Int.ofNat_fdiv]; have h1:=ltU32 a; have:=Nat.div_le_self a.toNat (2 ^ (min n.toNat 32)); rw [Nat.mod_eq_of_lt (by omega)]
  exact fun ρ w _ _ _ _ hρ hm => by rw [← e]; simp [execOp,hρ _ _ h1,hρ _ _ h2,eqGuard,binOp,Op.shift,IntKind.bits,show ¬ n < 0 by omega,go_sem]
theorem wrapU64 (n : Int) : IntKind.u64.wrap n = n % 18446744073709551616:=by simp [IntKind.wrap,IntKind.bits,IntKind.signed]
theorem ltU64 (a : UInt64) : a.toNat < 18446744073709551616:=a.toNat_lt
theorem wr_add64 (a b : UInt64) : IntKind.u64.wrap ((a.toNat : Int) + (b.toNat : Int)) = ((a + b).toNat : Int):=by
  rw [wrapU64,UInt64.toNat_add]; omega
theorem R.add64 {a b : UInt64} (h1 : evo l p = some (.int .u64 ((a).toNat : Int))) (h2 : evo l q = some (.int .u64 ((b).toNat : Int))) : Runs x (.binOp .add t p q u) ty l own H (.int .u64 ((a + b).toNat : Int)) :=
  fun ρ w _ _ _ _ hρ hm => by rw [← wr_add64]; simp [execOp,hρ _ _ h1,hρ _ _ h2,eqGuard,binOp,Op.intArith,go_sem]
theorem wr_sub64 (a b : UInt64) : IntKind.u64.wrap ((a.toNat : Int) - (b.toNat : Int)) = ((a - b).toNat : Int):=by
  have h1:=ltU64 a; have h2:=ltU64 b
  rw [wrapU64,UInt64.toNat_sub]; omega
theorem R.sub64 {a b : UInt64} (h1 : evo l p = some (.int .u64 ((a).toNat : Int))) (h2 : evo l q = some (.int .u64 ((b).toNat : Int))) : Runs x (.binOp .sub t p q u) ty l own H (.int .u64 ((a - b).toNat : Int)) :=
  fun ρ w _ _ _ _ hρ hm => by rw [← wr_sub64]; simp [execOp,hρ _ _ h1,hρ _ _ h2,eqGuard,binOp,Op.intArith,go_sem]
theorem wr_mul64 (a b : UInt64) : IntKind.u64.wrap ((a.toNat : Int) * (b.toNat : Int)) = ((a * b).toNat : Int):=by
  rw [wrapU64,UInt64.toNat_mul,← Int.natCast_mul]; omega
theorem R.mul64 {a b : UInt64} (h1 : evo l p = some (.int .u64 ((a).toNat : Int))) (h2 : evo l q = some (.int .u64 ((b).toNat : Int))) : Runs x (.binOp .mul t p q u) ty l own H (.int .u64 ((a * b).toNat : Int)) :=
  fun ρ w _ _ _ _ hρ hm => by rw [← wr_mul64]; simp [execOp,hρ _ _ h1,hρ _ _ h2,eqGuard,binOp,Op.intArith,go_sem]
theorem wr_and64 (a b : UInt64) : IntKind.u64.wrap ((BitVec.ofInt (IntKind.bits .u64) (a.toNat : Int) &&& BitVec.ofInt (IntKind.bits .u64) (b.toNat : Int)).toNat : Int) = ((a &&& b).toNat : Int):=by
  have h1:=ltU64 (a &&& b)
  have e : (BitVec.ofInt (IntKind.bits .u64) (a.toNat : Int) &&& BitVec.ofInt (IntKind.bits .u64) (b.toNat : Int)).toNat = (a &&& b).toNat:=by
    show (BitVec.ofInt 64 (a.toNat : Int) &&& BitVec.ofInt 64 (b.toNat : Int)).toNat = _
    rw [BitVec.ofInt_natCast,BitVec.ofInt_natCast,BitVec.toNat_and,BitVec.toNat_ofNat,BitVec.toNat_ofNat,UInt64.toNat_and]
    rw [Nat.mod_eq_of_lt (ltU64 a),Nat.mod_eq_of_lt (ltU64 b)]
  rw [e,wrapU64]; omega
theorem R.and64 {a b : UInt64} (h1 : evo l p = some (.int .u64 ((a).toNat : Int))) (h2 : evo l q = some (.int .u64 ((b).toNat : Int))) : Runs x (.binOp .and t p q u) ty l own H (.int .u64 ((a &&& b).toNat : Int)) :=
  fun ρ w _ _ _ _ hρ hm => by rw [← wr_and64]; simp [execOp,hρ _ _ h1,hρ _ _ h2,eqGuard,binOp,Op.intBits,go_sem]
theorem R.lss64 {a b : UInt64} (h1 : evo l p = some (.int .u64 ((a).toNat : Int))) (h2 : evo l q = some (.int .u64 ((b).toNat : Int))) : Runs x (.binOp .lss t p q u) ty l own H (.bool (decide (a < b))) :=
  fun ρ w _ _ _ _ hρ hm => by simp [execOp,hρ _ _ h1,hρ _ _ h2,eqGuard,binOp,Op.intCmp,go_sem,UInt64.lt_iff_toNat_lt]
theorem R.gtr64 {a b : UInt64} (h1 : evo l p = some (.int .u64 ((a).toNat : Int))) (h2 : evo l q = some (.int .u64 ((b).toNat : Int))) : Runs x (.binOp .gtr t p q u) ty l own H (.bool (decide (b < a))) :=
  fun ρ w _ _ _ _ hρ hm => by simp [execOp,hρ _ _ h1,hρ _ _ h2,eqGuard,binOp,Op.intCmp,go_sem,UInt64.lt_iff_toNat_lt]
theorem R.shr64 {a : UInt64} {n : Int} {k' : IntKind} (h1 : evo l p = some (.int .u64 ((a).toNat : Int))) (h2 : evo l q = some (.int k' n)) (h0 : 0 ≤ n) : Runs x (.binOp .shr t p q u) ty l own H (.int .u64 ((sr64 a n.toNat).toNat : Int)):=by
  have e : ((a.toNat : Int).fdiv (2 ^ (min n.toNat 64))) = ((sr64 a n.toNat).toNat : Int):=by
    rw [sr64,UInt64.toNat_ofNat',show ((2 : Int) ^ (min n.toNat 64)) = ((2 ^ (min n.toNat 64) : Nat) : Int) by simp,← Int.ofNat_fdiv]; have h1:=ltU64 a; have:=Nat.div_le_self a.toNat (2 ^ (min n.toNat 64)); rw [Nat.mod_eq_of_lt (by omega)]
  exact fun ρ w _ _ _ _ hρ hm => by rw [← e]; simp [execOp,hρ _ _ h1,hρ _ _ h2,eqGuard,binOp,Op.shift,IntKind.bits,show ¬ n < 0 by omega,go_sem]
theorem wr_u8i (n : Int) : IntKind.u8.wrap n = ((u8i n).toNat : Int):=by rw [wrapU8,u8i,UInt8.toNat_ofNat']; omega
theorem R.cv_i64_u8 {s : TypeId} {ds : TypeDesc} {k : IntKind} {m : Int} (hs : x.P.underlying s = some ds) (ht : x.P.underlying t = some (.int .u8)) (h1 : evo l p = some (.int k m)) : Runs x (.convert s t p) ty l own H (.int .u8 ((u8i m).toNat : Int)):=by
  rw [← wr_u8i]; exact R.convW hs ht h1
theorem R.cv_u8_u32 {s : TypeId} {ds : TypeDesc} {a : UInt8} (hs : x.P.underlying s = some ds) (ht : x.P.underlying t = some (.int .u32)) (h1 : evo l p = some (.int .u8 (a.toNat : Int))) : Runs x (.convert s t p) ty l own H (.int .u32 ((a.toUInt32).toNat : Int)):=by
  have e : IntKind.u32.wrap (a.toNat : Int) = ((a.toUInt32).toNat : Int):=by rw [wrapU32]; have:=ltU8 a; simp only [UInt8.toNat_toUInt32]; omega
  rw [← e]; exact R.convW hs ht h1
theorem R.cv_u8_i64 {s : TypeId} {ds : TypeDesc} {a : UInt8} (hs : x.P.underlying s = some ds) (ht : x.P.underlying t = some (.int .i64)) (h1 : evo l p = some (.int .u8 (a.toNat : Int))) : Runs x (.convert s t p) ty l own H (.int .i64 (a.toNat : Int)):=by
  have e : IntKind.i64.wrap (a.toNat : Int) = (a.toNat : Int):=wi64 (by omega) (by have:=ltU8 a; omega)
  have:=R.convW (x:=x) (own:=own) (H:=H) (ty:=ty) hs ht h1; rw [e] at this; exact this
theorem wr_u32i (n : Int) : IntKind.u32.wrap n = ((u32i n).toNat : Int):=by rw [wrapU32,u32i,UInt32.toNat_ofNat']; omega
theorem R.cv_i64_u32 {s : TypeId} {ds : TypeDesc} {k : IntKind} {m : Int} (hs : x.P.underlying s = some ds) (ht : x.P.underlying t = some (.int .u32)) (h1 : evo l p = some (.int k m)) : Runs x (.convert s t p) ty l own H (.int .u32 ((u32i m).toNat : Int)):=by
  rw [← wr_u32i]; exact R.convW hs ht h1
theorem R.cv_u32_u8 {s : TypeId} {ds : TypeDesc} {a : UInt32} (hs : x.P.underlying s = some ds) (ht : x.P.underlying t = some (.int .u8)) (h1 : evo l p = some (.int .u32 (a.toNat : Int))) : Runs x (.convert s t p) ty l own H (.int .u8 ((a.toUInt8).toNat : Int)):=by
  have e : IntKind.u8.wrap (a.toNat : Int) = ((a.toUInt8).toNat : Int):=by rw [wrapU8]; have:=ltU32 a; simp only [UInt32.toNat_toUInt8]; omega
  rw [← e]; exact R.convW hs ht h1
theorem R.cv_u32_i64 {s : TypeId} {ds : TypeDesc} {a : UInt32} (hs : x.P.underlying s = some ds) (ht : x.P.underlying t = some (.int .i64)) (h1 : evo l p = some (.int .u32 (a.toNat : Int))) : Runs x (.convert s t p) ty l own H (.int .i64 (a.toNat : Int)):=by
  have e : IntKind.i64.wrap (a.toNat : Int) = (a.toNat : Int):=wi64 (by omega) (by have:=ltU32 a; omega)
  have:=R.convW (x:=x) (own:=own) (H:=H) (ty:=ty) hs ht h1; rw [e] at this; exact this
theorem wr_u64i (n : Int) : IntKind.u64.wrap n = ((u64i n).toNat : Int):=by rw [wrapU64,u64i,UInt64.toNat_ofNat']; omega
theorem R.cv_i64_u64 {s : TypeId} {ds : TypeDesc} {k : IntKind} {m : Int} (hs : x.P.underlying s = some ds) (ht : x.P.underlying t = some (.int .u64)) (h1 : evo l p = some (.int k m)) : Runs x (.convert s t p) ty l own H (.int .u64 ((u64i m).toNat : Int)):=by
  rw [← wr_u64i]; exact R.convW hs ht h1
theorem R.cv_u64_i64 {s : TypeId} {ds : TypeDesc} {a : UInt64} (hs : x.P.underlying s = some ds) (ht : x.P.underlying t = some (.int .i64)) (h1 : evo l p = some (.int .u64 (a.toNat : Int))) : Runs x (.convert s t p) ty l own H (.int .i64 (w64 (a.toNat : Int))):=by
  rw [← wrap_w64]; exact R.convW hs ht h1
end Go.Ow

/-
  What is proved here: operations that make or turn memory, with elements that may be new; calls with blocks handed in; over OwU.
-/
namespace Go.Ow
open Go.RowKit
set_option linter.unusedVariables false
set_option linter.unusedSimpArgs false

variable {x : Cx} {ops : Array Oper} {Q : Exit → Act → World → Prop} {rest : List Oper} {l : Slots} {own : List Own} {H HF : Heaplet}
variable {ty : TypeId} {d : Nat} {pos : String} {aft : Array Edge} {v : Value} {p q : Operand} {t : TypeId}

/-! ### Sources -/
def SrcF {α : Type} (x : Cx) (H HF : Heaplet) (own : List Own) (R : Rep α) (size : Nat) (tx : TypeId) (y : Value) (ls : List α) : Prop :=
  ∃ cells,Flat HF R size cells ls ∧ oneCells cells ∧ ∀ w,Mem x.w0 x.H0 x.S own.flatten H w → Src x.P size tx y ls.length cells w
theorem SrcF.slice {α : Type} {R : Rep α} (hR : R.One) {size : Nat} {tx e : TypeId} {y : Value} {ls : List α} (hu : x.P.underlying tx = some (.slice e)) (hle : Hle HF H) (hs : IsSlice HF R size y ls) : SrcF x H HF own R size tx y ls:=by
  obtain ⟨cells,hf,ao,cap,rfl,hc⟩:=hs.cells
  refine ⟨cells,hf,hf.one' hR,fun w hm => ?_⟩
  rcases hc with rfl | ⟨b,o,rfl,hc⟩
  · simp only [Flat] at hf; subst hf
    cases ao with
    | none => exact Src.ofNil w hu cap
    | some a => exact Src.ofSlice w hu a 0 cap [] (by simp) (fun j u h => by simp at h) (fun u h => by cases h)
  · exact Src.ofSlice w hu ⟨b,o,none⟩ _ cap cells (by rw [hf.length]) (fun j u h => by rw [add_lit]; exact hm.agr _ _ _ (hle _ _ _ (hc j u h))) (hf.one' hR)
theorem SrcF.row {α : Type} {R : Rep α} {size B : Nat} {tx e E : TypeId} {y : Value} {ls : List α} {K : Own} (j : Nat) (hu : x.P.underlying tx = some (.slice e)) (hj : own[j]? = some K) (hs : RowOf HF R B E size y ls K) : SrcF x H HF own R size tx y ls:=by
  obtain ⟨cells,⟨h0,h1⟩,hf,ho⟩:=hs
  refine ⟨cells,hf,ho,fun w hm => ?_⟩
  rcases h1 with ⟨rfl,h3,h4⟩ | ⟨g,cap,cur,rfl,e2,e3,e4,e5,e6,e7⟩
  · have : ls = []:=List.length_eq_zero_iff.1 h3
    subst this
    simp only [Flat] at hf; subst hf
    exact Src.ofNil w hu 0
  · subst e2
    have hg:=(own_here hm hj).here (g,.cells cur E (0,0)) (by simp)
    refine Src.ofSlice w hu ⟨g,0,none⟩ _ cap cells (by rw [h0]) (fun j u h => ?_) ho
    rw [add_lit,Nat.zero_add,cell_of_row w g j cur E (0,0) hg]
    rw [← e7,List.getElem?_take] at h
    split at h
    · simpa using h
    · cases h
theorem SrcF.nil {α : Type} {R : Rep α} {size : Nat} {tx e : TypeId} (hu : x.P.underlying tx = some (.slice e)) : SrcF x H HF own R size tx (.slice none 0 0) ([] : List α) :=
  ⟨[],rfl,(fun u h => by cases h),fun w hm => Src.ofNil w hu 0⟩

theorem lim_max {n : Nat} (h : n ≤ LIM) : n ≤ maxLen:=by unfold LIM at h; unfold maxLen; omega
theorem lim_bytes {n bytes : Nat} (h : n ≤ LIM) (hb : Nat.ble bytes 128 = true) : n * bytes ≤ 140737488355328:=by
  have h2:=Nat.le_of_ble_eq_true hb
  have:=Nat.mul_le_mul h h2
  unfold LIM at this; omega
theorem Zr {α : Type} {R : Rep α} (i : Nat) {tx E : TypeId} {z y : Value} {size bytes B : Nat} {ls ms rs : List α} {K : Own} (hu : x.P.underlying t = some (.slice E)) (he : eInfo x.P E = some (z,size,bytes))
    (h1 : evo l p = some v) (hi : own[i]? = some K) (hr : RowOf HF R B E size v ls K) (h2 : evo l q = some y) (hs : SrcF x H HF own R size tx y ms)
    (hrs : rs = ls ++ ms) (hl : ls.length + ms.length ≤ LIM) (hb : Nat.ble bytes 128 = true) (hB : B ≤ x.w0.heap.size) (hd : Nat.blt d x.n = true)
    (h : ∀ v' K',RowOf HF R B E size v' rs K' → JL x ops Q rest ((d,v') :: l) (own.set i K') H) :
    JL x ops Q (⟨some d,.call ⟨.builtin .append,#[p,q],#[t,tx]⟩,ty,pos,aft,none⟩ :: rest) l own H:=fun a w hh => by
  subst hrs
  simp only [wpLs,Zl,if_true]
  refine ⟨fun _ _ => trivial,?_⟩
  obtain ⟨cells,hrow,hf,hone⟩:=hr
  obtain ⟨news,hfn,honen,hsrc⟩:=hs
  obtain ⟨v',K',w',hrun,hrow',hm⟩:=append_row (ty:=ty) hu he hh.mem.agr (own_here hh.mem hi) hrow (hsrc w hh.mem) (lim_max hl) (lim_bytes hl hb) (Nat.le_trans hB hh.mem.kept.size)
  have hrun' : (execOp a.eval ⟨some d,.call ⟨.builtin .append,#[p,q],#[t,tx]⟩,ty,pos,aft,none⟩).run x.P w = .ok (.value v') w':=by
    have e1:=Zi hh h1
    have e2:=Zi hh h2
    have : (execOp a.eval ⟨some d,.call ⟨.builtin .append,#[p,q],#[t,tx]⟩,ty,pos,aft,none⟩).run x.P w = ((Builtin.append_ #[t,tx] ty #[v,y]).run x.P w).andThen (fun r w'' => .ok (.value r) w''):=by
      generalize a.eval = ρ at e1 e2
      have e3 : Array.map ρ #[p,q] = #[v,y]:=by simp [e1,e2]
      simp only [execOp,resolve,e3,Sem.run_bind,Sem.run_pure,Result.andThen,invoke,builtin]
    rw [this,hrun]; rfl
  rw [Zp rfl,hrun']
  exact h v' K' ⟨cells ++ news,by simpa using hrow',Flat.append hfn hf,fun u hu => (List.mem_append.1 hu).elim (hone u) (honen u)⟩ _ _
    (Holds.put (x:=x) (l:=l) ⟨hh.size,hh.ds,hh.slots,hh.mem.go1 hi hm⟩ hd v')

theorem RowOf.conv {α : Type} {R : Rep α} {H1 H2 : Heaplet} (hR : ∀ cs y,R H1 cs y → R H2 cs y) {B : Nat} {E : TypeId} {size : Nat} {v : Value} {ls : List α} {K : Own} (h : RowOf H1 R B E size v ls K) : RowOf H2 R B E size v ls K:=by
  obtain ⟨cells,h1,h2,h3⟩:=h
  exact ⟨cells,h1,h2.conv hR,h3⟩
theorem JL.bslF {α : Type} {R : Rep α} {E n : Nat} {z : Value} {size bytes : Nat} {parts : Array (Nat × Operand)} {vs : List Value} {ls : List α} (hu : x.P.underlying t = some (.slice E)) (he : eInfo x.P E = some (z,size,bytes))
    (hv : parts.toList.mapM (fun p => (evo l p.2).map (fun u => (p.1,u))) = some ((List.range' 0 vs.length).zip vs)) (hs : vs.all (fun u => Nat.beq u.cells.size size) = true) (hf : Flat HF R size (vs.map (·.cells.toList)).flatten ls)
    (hR1 : R.One) (hn : n = vs.length) (hl : ls.length = vs.length) (hb : Nat.ble (n * size) 16777216 = true) (hm : n ≤ maxLen) (hd : Nat.blt d x.n = true)
    (h : ∀ v' K',RowOf HF R x.w0.heap.size E size v' ls K' → JL x ops Q rest ((d,v') :: l) (K' :: own) H) : JL x ops Q (⟨some d,.buildSlice t n parts,ty,pos,aft,none⟩ :: rest) l own H:=by
  -- the elements as bare cells
  refine JL.bsl (R:=(fun _ cs (k : Nat) => cs.length = size ∧ oneCells cs ∧ ∃ y,ls[k]? = some y ∧ R HF cs y : Rep Nat)) (ls:=List.range' 0 ls.length) (vs:=vs) hu he hv hs ?_ ?_ hn (by simpa using hl) hb hm hd ?_
  · have key : ∀ (m : List α) (k : Nat) (cells : List Value),(∀ i y,m[i]? = some y → ls[k + i]? = some y) → Flat HF R size cells m →
        Flat H (fun _ cs (k : Nat) => cs.length = size ∧ oneCells cs ∧ ∃ y,ls[k]? = some y ∧ R HF cs y : Rep Nat) size cells (List.range' k m.length):=by
      intro m
      induction m with
      | nil => intro k cells _ h; exact h
      | cons y r ih =>
        intro k cells hk h
        obtain ⟨cs,more,rfl,h1,h2,h3⟩:=h
        simp only [List.length_cons,List.range'_succ]
        exact ⟨cs,more,rfl,h1,⟨h1,hR1 _ _ _ h2,y,by simpa using hk 0 y rfl,h2⟩,ih (k + 1) more (fun i z hz => by have:=hk (i + 1) z (by simpa using hz); rwa [show k + (i + 1) = k + 1 + i by omega] at this) h3⟩
    exact key ls 0 _ (fun i y hy => by simpa using hy) hf
  · intro H cs y h; exact h.2.1
  · intro v' K' hr
    refine h v' K' ?_
    obtain ⟨cells,h1,h2,h3⟩:=hr
    refine ⟨cells,by simpa using h1,?_,h3⟩
    have key : ∀ (m : List α) (k : Nat) (cells : List Value),(∀ i y,m[i]? = some y → ls[k + i]? = some y) →
        Flat H (fun _ cs (k : Nat) => cs.length = size ∧ oneCells cs ∧ ∃ y,ls[k]? = some y ∧ R HF cs y : Rep Nat) size cells (List.range' k m.length) → Flat HF R size cells m:=by
      intro m
      induction m with
      | nil => intro k cells _ h; exact h
      | cons y r ih =>
        intro k cells hk h
        simp only [List.length_cons,List.range'_succ] at h
        obtain ⟨cs,more,rfl,h1,⟨_,_,y',hy',h2⟩,h3⟩:=h
        have : y' = y:=by have:=hk 0 y rfl; rw [Nat.add_zero,hy'] at this; exact Option.some.inj this
        subst this
        exact ⟨cs,more,rfl,h1,h2,ih (k + 1) more (fun i z hz => by have:=hk (i + 1) z (by simpa using hz); rwa [show k + (i + 1) = k + 1 + i by omega] at this) h3⟩
    exact key ls 0 cells (fun i y hy => by simpa using hy) h2

theorem JL.mkF {α : Type} {R : Rep α} {E : TypeId} {z : Value} {size bytes : Nat} {kl kc : IntKind} {n : Int} {y : α} {rs : List α} (hu : x.P.underlying t = some (.slice E)) (he : eInfo x.P E = some (z,size,bytes)) (h1 : evo l p = some (.int kl n)) (h2 : evo l q = some (.int kc n))
    (hR : ∀ H,R H z.cells.toList y) (hR1 : R.One) (hrs : rs = List.replicate n.toNat y) (hn : 0 ≤ n ∧ n.toNat ≤ LIM) (hb : Nat.ble bytes 128 = true) (hd : Nat.blt d x.n = true)
    (h : ∀ v' K',RowOf HF R x.w0.heap.size E size v' rs K' → JL x ops Q rest ((d,v') :: l) (K' :: own) H) : JL x ops Q (⟨some d,.makeSlice t p q,ty,pos,aft,none⟩ :: rest) l own H:=by
  subst hrs
  obtain ⟨N,rfl⟩:=Int.eq_ofNat_of_zero_le hn.1
  have hN : N ≤ LIM:=by simpa using hn.2
  refine JL.mk (R:=(fun _ cs (k : Unit) => R HF cs y ∧ oneCells cs : Rep Unit)) (y:=()) hu he h1 h2 ⟨hR _,hR1 _ _ _ (hR HF)⟩ (fun _ _ _ h => h.2) ?_ (lim_max hN) hd ?_
  · have:=lim_bytes hN hb; rw [Nat.mul_comm]; omega
  · intro ao cap K' hr
    refine h _ K' ?_
    obtain ⟨cells,h1,h2,h3⟩:=hr
    refine ⟨cells,by simpa using h1,?_,h3⟩
    have key : ∀ (k : Nat) (cells : List Value),Flat H (fun _ cs (k : Unit) => R HF cs y ∧ oneCells cs : Rep Unit) size cells (List.replicate k ()) → Flat HF R size cells (List.replicate k y):=by
      intro k
      induction k with
      | zero => intro cells h; exact h
      | succ k ih =>
        intro cells h
        obtain ⟨cs,more,rfl,h1,h2,h3⟩:=h
        exact ⟨cs,more,rfl,h1,h2.1,ih more h3⟩
    simpa using key N cells h2

theorem JL.stE {α : Type} {R : Rep α} (i : Nat) {T E : TypeId} {g : Bool} {size B b o : Nat} {k : Int} {v u : Value} {m m' : List α} {K : Own} {y : α} (hs : shapeOf x.P T = some (g,size)) (hi : own[i]? = some K) (hS : RowOf HF R B E size v m K)
    (h1 : evo l p = some (.pointer (some ⟨b,o,none⟩))) (hE : ElemAt v size k b o) (h2 : evo l q = some u) (hu : u.cells.size = size) (hR : R HF u.cells.toList y) (hR1 : R.One) (hm : m' = m.set k.toNat y)
    (h : ∀ K',RowOf HF R B E size v m' K' → m'.length = m.length → JL x ops Q rest l (own.set i K') H) : JL x ops Q (⟨none,.store T p q,ty,pos,aft,none⟩ :: rest) l own H:=by
  obtain ⟨cells,⟨h0,h3⟩,hf,ho⟩:=hS
  obtain ⟨hk0,o0,len,cap0,ev,rfl,hklt⟩:=hE
  rcases h3 with ⟨rfl,h3,rfl⟩ | ⟨b',cap,cur,rfl,rfl,e3,e4,e5,e6,e7⟩
  · simp only [Value.slice.injEq] at ev; obtain ⟨ev,_⟩:=ev; cases ev
  · simp only [Value.slice.injEq,Option.some.injEq,Addr.mk.injEq] at ev
    obtain ⟨⟨rfl,rfl,-⟩,rfl,rfl⟩:=ev
    have hk : k.toNat < m.length:=hklt
    have hone:=hR1 _ _ _ hR
    have hks : k.toNat * size + size ≤ m.length * size:=by rw [← Nat.succ_mul]; exact Nat.mul_le_mul_right _ hk
    have hms : m.length * size ≤ cap * size:=Nat.mul_le_mul_right _ e4
    subst hm
    refine JL.store i hs h1 h2 hi hu (List.all_eq_true.2 hone) (by omega) (h _ ?_ (List.length_set ..))
    have hul : u.cells.toList.length = size:=by simpa using hu
    have hcl : cap * size ≤ cur.toList.length:=by simpa using e6
    have hf':=Flat.set (y:=y) hul hR hf hk
    refine ⟨_,⟨by rw [hf'.length],.inr ⟨b',cap,_,by rw [List.length_set],rfl,e3,by rw [List.length_set]; exact e4,e5,?_,?_⟩⟩,hf',?_⟩
    · simp only [List.size_toArray,List.length_append,List.length_take,List.length_drop,hul]; omega
    · rw [List.length_set,← e7,Nat.zero_add]
      simp only []
      rw [List.take_append,List.take_append,List.take_take,List.take_take,Nat.min_eq_right (by omega),Nat.min_eq_left (by omega)]
      rw [List.take_of_length_le (l:=u.cells.toList) (by simp only [List.length_take,hul]; omega)]
      congr 1
      rw [List.take_drop]
      congr 2
      simp only [List.length_append,List.length_take,hul]; omega
    · intro w hw
      rcases List.mem_append.1 hw with hw | hw
      · rcases List.mem_append.1 hw with hw | hw
        · exact ho w (List.mem_of_mem_take hw)
        · exact hone w hw
      · exact ho w (List.mem_of_mem_drop hw)
theorem RowOf.place {α : Type} {R : Rep α} {n B : Nat} {E : TypeId} {v : Value} {m : List α} {K : Own} {i : Int} (hS : RowOf HF R B E n v m K) (hi : 0 ≤ i ∧ i.toNat < m.length) : ∃ b o,ElemAt v n i b o:=by
  obtain ⟨b,o,cs,cur,_,h,_⟩:=hS.elem (i:=i) (y:=m[i.toNat]'hi.2) ⟨hi.1,by simp [hi.2]⟩
  exact ⟨b,o,h⟩

/-! ### Calls -/
theorem ZC : own.flatten.Perm (([] : List Own).flatten ++ own.flatten):=by simp
theorem ZO {s : Own} {K rst : List Own} (i : Nat) (hi : own[i]? = some s) (h : (own.eraseIdx i).flatten.Perm (K.flatten ++ rst.flatten)) : own.flatten.Perm ((s :: K).flatten ++ rst.flatten):=by
  refine (flatten_perm hi).trans ?_
  simp only [List.flatten_cons,List.append_assoc]
  exact h.append_left s
theorem RowOf.new {α : Type} {R : Rep α} {B : Nat} {E : TypeId} {size : Nat} {v : Value} {ls : List α} {K : Own} {H0 : Heaplet} {N : Nat} (hle : Hle H0 H) {H' : Heaplet} (hR : R.Mono) (h : RowOf (New H H') R B E size v ls K) (hB : ∀ p ∈ K,N ≤ p.1) : RowOf (New H0 H') R N E size v ls K :=
  (h.mono hR (New.call hle)).base hB
theorem IsSlice.new {α : Type} {R : Rep α} {size : Nat} {v : Value} {m : List α} {H0 H' : Heaplet} (hR : R.Mono) (hle : Hle H0 H) (h : IsSlice (New H H') R size v m) : IsSlice (New H0 H') R size v m:=h.mono hR (New.call hle)
theorem IsSlice.old {α : Type} {R : Rep α} {size : Nat} {v : Value} {m : List α} {H0 : Heaplet} (hR : R.Mono) (h : IsSlice (New H0 H) R size v m) : IsSlice H R size v m:=h.mono hR (New.le _ _)
theorem RowOf.old {α : Type} {R : Rep α} {B : Nat} {E : TypeId} {size : Nat} {v : Value} {ls : List α} {K : Own} {H0 : Heaplet} (hR : R.Mono) (h : RowOf (New H0 H) R B E size v ls K) : RowOf H R B E size v ls K:=h.mono hR (New.le _ _)
theorem RowOf.ge {α : Type} {R : Rep α} {B : Nat} {E : TypeId} {size : Nat} {v : Value} {ls : List α} {K : Own} (h : RowOf HF R B E size v ls K) : ∀ p ∈ K,B ≤ p.1:=by
  obtain ⟨cells,⟨h0,h1⟩,h2,h3⟩:=h
  rcases h1 with ⟨_,_,rfl⟩ | ⟨g,cap,cur,e1,rfl,e3,r⟩
  · intro p hp; cases hp
  · intro p hp; simp at hp; subst hp; exact e3
theorem ZS {K : Own} {p : Nat × Obj} (i : Nat) (h : own[i]? = some K) (hp : p ∈ K) : p ∈ own.flatten:=List.mem_flatten.2 ⟨K,List.mem_of_getElem? h,hp⟩
theorem SrcF.sliceC {α : Type} {R : Rep α} (hC : R.Const) (hR : R.One) {size : Nat} {tx e : TypeId} {y : Value} {ls : List α} (hu : x.P.underlying tx = some (.slice e)) (hs : IsSlice H R size y ls) : SrcF x H HF own R size tx y ls:=by
  obtain ⟨cells,hf,ho,h⟩:=SrcF.slice (own:=own) hR hu (Hle.refl _) hs
  exact ⟨cells,hf.conv (fun cs y h => hC _ _ _ _ h),ho,h⟩
theorem Holds.le {a : Act} {w : World} (hh : Holds x l own H a w) : Hle x.H0 H:=hh.mem.le
end Go.Ow

/-
  Plain structures for the data of the program. Printed by mkt.py.
-/
namespace Go.Ow

structure Write where
  At : Int
  Data : List UInt8
instance : Inhabited Write:=⟨⟨default,default⟩⟩
structure Disk where
  Blocks : List (List UInt8)
  Waits : List Write
instance : Inhabited Disk:=⟨⟨default,default⟩⟩
structure Ptr where
  At : Int
  Birth : UInt32
  Iv : UInt32
  Tag : UInt32
  Sum : UInt32
instance : Inhabited Ptr:=⟨⟨default,default,default,default,default⟩⟩
structure Label where
  Gen : UInt32
  Epoch : UInt32
  Root : Ptr
instance : Inhabited Label:=⟨⟨default,default,default⟩⟩
structure Object where
  Kind : UInt8
  Links : Int
  Size : Int
  Data : List Ptr
instance : Inhabited Object:=⟨⟨default,default,default,default⟩⟩
structure Line where
  Id : Int
  Kind : UInt8
  Owner : Int
  Prev : Int
  Txg : UInt32
  Guid : UInt32
  Key : Int
  Root : Ptr
  Dead : List Ptr
instance : Inhabited Line:=⟨⟨default,default,default,default,default,default,default,default,default⟩⟩
structure Store where
  Disk : Disk
  Space : List UInt8
  Epoch : UInt32
  Count : UInt32
instance : Inhabited Store:=⟨⟨default,default,default,default⟩⟩
structure Change where
  Set : Int
  Obj : Int
  Index : Int
  Kind : UInt8
  Links : Int
  Size : Int
  Data : List UInt8
  Laid : Ptr
instance : Inhabited Change:=⟨⟨default,default,default,default,default,default,default,default⟩⟩
structure Pool where
  Store : Store
  Gen : UInt32
  Root : Ptr
  MetaL : List Int
  Lines : List Line
  Keys : List (List UInt8)
  Loaded : List (List UInt8)
  Changes : List Change
  Logged : Int
  NextId : Int
  NextGuid : UInt32
instance : Inhabited Pool:=⟨⟨default,default,default,default,default,default,default,default,default,default,default⟩⟩
structure Signer where
  Seed : List UInt8
  Spent : Int
instance : Inhabited Signer:=⟨⟨default,default⟩⟩
structure Entry where
  Name : List UInt8
  Obj : Int
instance : Inhabited Entry:=⟨⟨default,default⟩⟩
structure Info where
  Obj : Int
  Kind : UInt8
  Links : Int
  Size : Int
  To : List UInt8
instance : Inhabited Info:=⟨⟨default,default,default,default,default⟩⟩
structure Call where
  Kind : UInt8
  A : Int
  B : Int
  C : Int
  Name : List UInt8
  As : List UInt8
  Text : List UInt8
  Data : List UInt8
instance : Inhabited Call:=⟨⟨default,default,default,default,default,default,default,default⟩⟩
structure Reply where
  Error : Int
  Id : Int
  Data : List UInt8
  Names : List (List UInt8)
  Info : Info
  Lines : List Int
instance : Inhabited Reply:=⟨⟨default,default,default,default,default,default⟩⟩
structure Part where
  Obj : Int
  Index : Int
  Iv : UInt32
  Tag : UInt32
  Data : List UInt8
instance : Inhabited Part:=⟨⟨default,default,default,default,default⟩⟩
structure Stream where
  Guid : UInt32
  Base : UInt32
  Key : List UInt8
  Parts : List Part
  Sign : List UInt8
instance : Inhabited Stream:=⟨⟨default,default,default,default,default⟩⟩
structure Deed where
  Kind : UInt8
  At : Int
  A : Int
  B : Int
  Call : Call
  Keep : List Bool
instance : Inhabited Deed:=⟨⟨default,default,default,default,default,default⟩⟩
structure Pair where
  Pools : List Pool
  Stream : List UInt8
  Signer : Signer
instance : Inhabited Pair:=⟨⟨default,default,default⟩⟩
end Go.Ow

/-
  What is proved here: plain structures for the data of the program, and how they lie in cells. Printed by mkt.py.
-/
namespace Go.Ow
open Go.RowKit
set_option linter.unusedVariables false
set_option linter.unusedSimpArgs false
def RStr : Rep (List UInt8):=fun _ cs s => cs = [.string (bs s)]
theorem RStr.mono : RStr.Mono:=fun _ _ _ _ _ h => h
theorem RStr.const : RStr.Const:=fun _ _ _ _ h => h
theorem RStr.one : RStr.One:=fun _ cs y h => by rw [show cs = _ from h]; intro u hu; simp at hu; subst hu; rfl


def R_Write : Rep Write:=fun H cs x => ∃ v1 : Value,cs = [.int .i64 x.At,v1] ∧ IsSlice H RU8 1 v1 x.Data
theorem R_Write.mono : R_Write.Mono:=fun _ _ _ _ hle ⟨v1,e,h1⟩ => ⟨v1,e,h1.mono RU8.mono hle⟩
theorem R_Write.one : R_Write.One:=fun _ _ _ ⟨v1,e,h1⟩ => by
  subst e; intro u hu; simp only [List.mem_cons,List.not_mem_nil,or_false] at hu
  rcases hu with rfl | rfl <;> first | rfl | exact h1.one1

def R_Disk : Rep Disk:=fun H cs x => ∃ v0 v1 : Value,cs = [v0,v1] ∧ IsSlice H (RSl RU8 1) 1 v0 x.Blocks ∧ IsSlice H R_Write 2 v1 x.Waits
theorem R_Disk.mono : R_Disk.Mono:=fun _ _ _ _ hle ⟨v0,v1,e,h0,h1⟩ => ⟨v0,v1,e,h0.mono (RSl.mono RU8.mono) hle,h1.mono R_Write.mono hle⟩
theorem R_Disk.one : R_Disk.One:=fun _ _ _ ⟨v0,v1,e,h0,h1⟩ => by
  subst e; intro u hu; simp only [List.mem_cons,List.not_mem_nil,or_false] at hu
  rcases hu with rfl | rfl <;> first | rfl | exact h0.one1 | exact h1.one1

def R_Ptr : Rep Ptr:=fun H cs x => cs = [.int .i64 x.At,.int .u32 (x.Birth.toNat : Int),.int .u32 (x.Iv.toNat : Int),.int .u32 (x.Tag.toNat : Int),.int .u32 (x.Sum.toNat : Int)]
theorem R_Ptr.mono : R_Ptr.Mono:=fun _ _ _ _ _ h => h
theorem R_Ptr.const : R_Ptr.Const:=fun _ _ _ _ h => h
theorem R_Ptr.one : R_Ptr.One:=fun _ cs x h => by
  rw [show cs = _ from h]; intro u hu; simp only [List.mem_cons,List.not_mem_nil,or_false] at hu
  rcases hu with rfl | rfl | rfl | rfl | rfl <;> rfl
def R_Label : Rep Label:=fun H cs x => cs = [.int .u32 (x.Gen.toNat : Int),.int .u32 (x.Epoch.toNat : Int),.int .i64 x.Root.At,.int .u32 (x.Root.Birth.toNat : Int),.int .u32 (x.Root.Iv.toNat : Int),.int .u32 (x.Root.Tag.toNat : Int),.int .u32 (x.Root.Sum.toNat : Int)]
theorem R_Label.mono : R_Label.Mono:=fun _ _ _ _ _ h => h
theorem R_Label.const : R_Label.Const:=fun _ _ _ _ h => h
theorem R_Label.one : R_Label.One:=fun _ cs x h => by
  rw [show cs = _ from h]; intro u hu; simp only [List.mem_cons,List.not_mem_nil,or_false] at hu
  rcases hu with rfl | rfl | rfl | rfl | rfl | rfl | rfl <;> rfl
def R_Object : Rep Object:=fun H cs x => ∃ v3 : Value,cs = [.int .u8 (x.Kind.toNat : Int),.int .i64 x.Links,.int .i64 x.Size,v3] ∧ IsSlice H R_Ptr 5 v3 x.Data
theorem R_Object.mono : R_Object.Mono:=fun _ _ _ _ hle ⟨v3,e,h3⟩ => ⟨v3,e,h3.mono R_Ptr.mono hle⟩
theorem R_Object.one : R_Object.One:=fun _ _ _ ⟨v3,e,h3⟩ => by
  subst e; intro u hu; simp only [List.mem_cons,List.not_mem_nil,or_false] at hu
  rcases hu with rfl | rfl | rfl | rfl <;> first | rfl | exact h3.one1

def R_Line : Rep Line:=fun H cs x => ∃ v12 : Value,cs = [.int .i64 x.Id,.int .u8 (x.Kind.toNat : Int),.int .i64 x.Owner,.int .i64 x.Prev,.int .u32 (x.Txg.toNat : Int),.int .u32 (x.Guid.toNat : Int),.int .i64 x.Key,.int .i64 x.Root.At,.int .u32 (x.Root.Birth.toNat : Int),.int .u32 (x.Root.Iv.toNat : Int),.int .u32 (x.Root.Tag.toNat : Int),.int .u32 (x.Root.Sum.toNat : Int),v12] ∧ IsSlice H R_Ptr 5 v12 x.Dead
theorem R_Line.mono : R_Line.Mono:=fun _ _ _ _ hle ⟨v12,e,h12⟩ => ⟨v12,e,h12.mono R_Ptr.mono hle⟩
theorem R_Line.one : R_Line.One:=fun _ _ _ ⟨v12,e,h12⟩ => by
  subst e; intro u hu; simp only [List.mem_cons,List.not_mem_nil,or_false] at hu
  rcases hu with rfl | rfl | rfl | rfl | rfl | rfl | rfl | rfl | rfl | rfl | rfl | rfl | rfl <;> first | rfl | exact h12.one1

def R_Store : Rep Store:=fun H cs x => ∃ v0 v1 v2 : Value,cs = [v0,v1,v2,.int .u32 (x.Epoch.toNat : Int),.int .u32 (x.Count.toNat : Int)] ∧ IsSlice H (RSl RU8 1) 1 v0 x.Disk.Blocks ∧ IsSlice H R_Write 2 v1 x.Disk.Waits ∧ IsSlice H RU8 1 v2 x.Space
theorem R_Store.mono : R_Store.Mono:=fun _ _ _ _ hle ⟨v0,v1,v2,e,h0,h1,h2⟩ => ⟨v0,v1,v2,e,h0.mono (RSl.mono RU8.mono) hle,h1.mono R_Write.mono hle,h2.mono RU8.mono hle⟩
theorem R_Store.one : R_Store.One:=fun _ _ _ ⟨v0,v1,v2,e,h0,h1,h2⟩ => by
  subst e; intro u hu; simp only [List.mem_cons,List.not_mem_nil,or_false] at hu
  rcases hu with rfl | rfl | rfl | rfl | rfl <;> first | rfl | exact h0.one1 | exact h1.one1 | exact h2.one1

def R_Change : Rep Change:=fun H cs x => ∃ v6 : Value,cs = [.int .i64 x.Set,.int .i64 x.Obj,.int .i64 x.Index,.int .u8 (x.Kind.toNat : Int),.int .i64 x.Links,.int .i64 x.Size,v6,.int .i64 x.Laid.At,.int .u32 (x.Laid.Birth.toNat : Int),.int .u32 (x.Laid.Iv.toNat : Int),.int .u32 (x.Laid.Tag.toNat : Int),.int .u32 (x.Laid.Sum.toNat : Int)] ∧ IsSlice H RU8 1 v6 x.Data
theorem R_Change.mono : R_Change.Mono:=fun _ _ _ _ hle ⟨v6,e,h6⟩ => ⟨v6,e,h6.mono RU8.mono hle⟩
theorem R_Change.one : R_Change.One:=fun _ _ _ ⟨v6,e,h6⟩ => by
  subst e; intro u hu; simp only [List.mem_cons,List.not_mem_nil,or_false] at hu
  rcases hu with rfl | rfl | rfl | rfl | rfl | rfl | rfl | rfl | rfl | rfl | rfl | rfl <;> first | rfl | exact h6.one1

def R_Pool : Rep Pool:=fun H cs x => ∃ v0 v1 v2 v11 v12 v13 v14 v15 : Value,cs = [v0,v1,v2,.int .u32 (x.Store.Epoch.toNat : Int),.int .u32 (x.Store.Count.toNat : Int),.int .u32 (x.Gen.toNat : Int),.int .i64 x.Root.At,.int .u32 (x.Root.Birth.toNat : Int),.int .u32 (x.Root.Iv.toNat : Int),.int .u32 (x.Root.Tag.toNat : Int),.int .u32 (x.Root.Sum.toNat : Int),v11,v12,v13,v14,v15,.int .i64 x.Logged,.int .i64 x.NextId,.int .u32 (x.NextGuid.toNat : Int)] ∧ IsSlice H (RSl RU8 1) 1 v0 x.Store.Disk.Blocks ∧ IsSlice H R_Write 2 v1 x.Store.Disk.Waits ∧ IsSlice H RU8 1 v2 x.Store.Space ∧ IsSlice H RInt 1 v11 x.MetaL ∧ IsSlice H R_Line 13 v12 x.Lines ∧ IsSlice H (RSl RU8 1) 1 v13 x.Keys ∧ IsSlice H (RSl RU8 1) 1 v14 x.Loaded ∧ IsSlice H R_Change 12 v15 x.Changes
theorem R_Pool.mono : R_Pool.Mono:=fun _ _ _ _ hle ⟨v0,v1,v2,v11,v12,v13,v14,v15,e,h0,h1,h2,h11,h12,h13,h14,h15⟩ => ⟨v0,v1,v2,v11,v12,v13,v14,v15,e,h0.mono (RSl.mono RU8.mono) hle,h1.mono R_Write.mono hle,h2.mono RU8.mono hle,h11.mono RInt.mono hle,h12.mono R_Line.mono hle,h13.mono (RSl.mono RU8.mono) hle,h14.mono (RSl.mono RU8.mono) hle,h15.mono R_Change.mono hle⟩
theorem R_Pool.one : R_Pool.One:=fun _ _ _ ⟨v0,v1,v2,v11,v12,v13,v14,v15,e,h0,h1,h2,h11,h12,h13,h14,h15⟩ => by
  subst e; intro u hu; simp only [List.mem_cons,List.not_mem_nil,or_false] at hu
  rcases hu with rfl | rfl | rfl | rfl | rfl | rfl | rfl | rfl | rfl | rfl | rfl | rfl | rfl | rfl | rfl | rfl | rfl | rfl | rfl <;> first | rfl | exact h0.one1 | exact h1.one1 | exact h2.one1 | exact h11.one1 | exact h12.one1 | exact h13.one1 | exact h14.one1 | exact h15.one1

def R_Signer : Rep Signer:=fun H cs x => ∃ v0 : Value,cs = [v0,.int .i64 x.Spent] ∧ IsSlice H RU8 1 v0 x.Seed
theorem R_Signer.mono : R_Signer.Mono:=fun _ _ _ _ hle ⟨v0,e,h0⟩ => ⟨v0,e,h0.mono RU8.mono hle⟩
theorem R_Signer.one : R_Signer.One:=fun _ _ _ ⟨v0,e,h0⟩ => by
  subst e; intro u hu; simp only [List.mem_cons,List.not_mem_nil,or_false] at hu
  rcases hu with rfl | rfl <;> first | rfl | exact h0.one1

def R_Entry : Rep Entry:=fun H cs x => cs = [.string (bs x.Name),.int .i64 x.Obj]
theorem R_Entry.mono : R_Entry.Mono:=fun _ _ _ _ _ h => h
theorem R_Entry.const : R_Entry.Const:=fun _ _ _ _ h => h
theorem R_Entry.one : R_Entry.One:=fun _ cs x h => by
  rw [show cs = _ from h]; intro u hu; simp only [List.mem_cons,List.not_mem_nil,or_false] at hu
  rcases hu with rfl | rfl <;> rfl
def R_Info : Rep Info:=fun H cs x => cs = [.int .i64 x.Obj,.int .u8 (x.Kind.toNat : Int),.int .i64 x.Links,.int .i64 x.Size,.string (bs x.To)]
theorem R_Info.mono : R_Info.Mono:=fun _ _ _ _ _ h => h
theorem R_Info.const : R_Info.Const:=fun _ _ _ _ h => h
theorem R_Info.one : R_Info.One:=fun _ cs x h => by
  rw [show cs = _ from h]; intro u hu; simp only [List.mem_cons,List.not_mem_nil,or_false] at hu
  rcases hu with rfl | rfl | rfl | rfl | rfl <;> rfl
def R_Call : Rep Call:=fun H cs x => ∃ v7 : Value,cs = [.int .u8 (x.Kind.toNat : Int),.int .i64 x.A,.int .i64 x.B,.int .i64 x.C,.string (bs x.Name),.string (bs x.As),.string (bs x.Text),v7] ∧ IsSlice H RU8 1 v7 x.Data
theorem R_Call.mono : R_Call.Mono:=fun _ _ _ _ hle ⟨v7,e,h7⟩ => ⟨v7,e,h7.mono RU8.mono hle⟩
theorem R_Call.one : R_Call.One:=fun _ _ _ ⟨v7,e,h7⟩ => by
  subst e; intro u hu; simp only [List.mem_cons,List.not_mem_nil,or_false] at hu
  rcases hu with rfl | rfl | rfl | rfl | rfl | rfl | rfl | rfl <;> first | rfl | exact h7.one1

def R_Reply : Rep Reply:=fun H cs x => ∃ v2 v3 v9 : Value,cs = [.int .i64 x.Error,.int .i64 x.Id,v2,v3,.int .i64 x.Info.Obj,.int .u8 (x.Info.Kind.toNat : Int),.int .i64 x.Info.Links,.int .i64 x.Info.Size,.string (bs x.Info.To),v9] ∧ IsSlice H RU8 1 v2 x.Data ∧ IsSlice H RStr 1 v3 x.Names ∧ IsSlice H RInt 1 v9 x.Lines
theorem R_Reply.mono : R_Reply.Mono:=fun _ _ _ _ hle ⟨v2,v3,v9,e,h2,h3,h9⟩ => ⟨v2,v3,v9,e,h2.mono RU8.mono hle,h3.mono RStr.mono hle,h9.mono RInt.mono hle⟩
theorem R_Reply.one : R_Reply.One:=fun _ _ _ ⟨v2,v3,v9,e,h2,h3,h9⟩ => by
  subst e; intro u hu; simp only [List.mem_cons,List.not_mem_nil,or_false] at hu
  rcases hu with rfl | rfl | rfl | rfl | rfl | rfl | rfl | rfl | rfl | rfl <;> first | rfl | exact h2.one1 | exact h3.one1 | exact h9.one1

def R_Part : Rep Part:=fun H cs x => ∃ v4 : Value,cs = [.int .i64 x.Obj,.int .i64 x.Index,.int .u32 (x.Iv.toNat : Int),.int .u32 (x.Tag.toNat : Int),v4] ∧ IsSlice H RU8 1 v4 x.Data
theorem R_Part.mono : R_Part.Mono:=fun _ _ _ _ hle ⟨v4,e,h4⟩ => ⟨v4,e,h4.mono RU8.mono hle⟩
theorem R_Part.one : R_Part.One:=fun _ _ _ ⟨v4,e,h4⟩ => by
  subst e; intro u hu; simp only [List.mem_cons,List.not_mem_nil,or_false] at hu
  rcases hu with rfl | rfl | rfl | rfl | rfl <;> first | rfl | exact h4.one1

def R_Stream : Rep Stream:=fun H cs x => ∃ v2 v3 v4 : Value,cs = [.int .u32 (x.Guid.toNat : Int),.int .u32 (x.Base.toNat : Int),v2,v3,v4] ∧ IsSlice H RU8 1 v2 x.Key ∧ IsSlice H R_Part 5 v3 x.Parts ∧ IsSlice H RU8 1 v4 x.Sign
theorem R_Stream.mono : R_Stream.Mono:=fun _ _ _ _ hle ⟨v2,v3,v4,e,h2,h3,h4⟩ => ⟨v2,v3,v4,e,h2.mono RU8.mono hle,h3.mono R_Part.mono hle,h4.mono RU8.mono hle⟩
theorem R_Stream.one : R_Stream.One:=fun _ _ _ ⟨v2,v3,v4,e,h2,h3,h4⟩ => by
  subst e; intro u hu; simp only [List.mem_cons,List.not_mem_nil,or_false] at hu
  rcases hu with rfl | rfl | rfl | rfl | rfl <;> first | rfl | exact h2.one1 | exact h3.one1 | exact h4.one1

def R_Deed : Rep Deed:=fun H cs x => ∃ v11 v12 : Value,cs = [.int .u8 (x.Kind.toNat : Int),.int .i64 x.At,.int .i64 x.A,.int .i64 x.B,.int .u8 (x.Call.Kind.toNat : Int),.int .i64 x.Call.A,.int .i64 x.Call.B,.int .i64 x.Call.C,.string (bs x.Call.Name),.string (bs x.Call.As),.string (bs x.Call.Text),v11,v12] ∧ IsSlice H RU8 1 v11 x.Call.Data ∧ IsSlice H RBool 1 v12 x.Keep
theorem R_Deed.mono : R_Deed.Mono:=fun _ _ _ _ hle ⟨v11,v12,e,h11,h12⟩ => ⟨v11,v12,e,h11.mono RU8.mono hle,h12.mono RBool.mono hle⟩
theorem R_Deed.one : R_Deed.One:=fun _ _ _ ⟨v11,v12,e,h11,h12⟩ => by
  subst e; intro u hu; simp only [List.mem_cons,List.not_mem_nil,or_false] at hu
  rcases hu with rfl | rfl | rfl | rfl | rfl | rfl | rfl | rfl | rfl | rfl | rfl | rfl | rfl <;> first | rfl | exact h11.one1 | exact h12.one1

def R_Pair : Rep Pair:=fun H cs x => ∃ v0 v1 v2 : Value,cs = [v0,v1,v2,.int .i64 x.Signer.Spent] ∧ IsSlice H R_Pool 19 v0 x.Pools ∧ IsSlice H RU8 1 v1 x.Stream ∧ IsSlice H RU8 1 v2 x.Signer.Seed
theorem R_Pair.mono : R_Pair.Mono:=fun _ _ _ _ hle ⟨v0,v1,v2,e,h0,h1,h2⟩ => ⟨v0,v1,v2,e,h0.mono R_Pool.mono hle,h1.mono RU8.mono hle,h2.mono RU8.mono hle⟩
theorem R_Pair.one : R_Pair.One:=fun _ _ _ ⟨v0,v1,v2,e,h0,h1,h2⟩ => by
  subst e; intro u hu; simp only [List.mem_cons,List.not_mem_nil,or_false] at hu
  rcases hu with rfl | rfl | rfl | rfl <;> first | rfl | exact h0.one1 | exact h1.one1 | exact h2.one1

end Go.Ow

/-
  What is proved here: equality of structs; storing into a part of an element of an own row; over OwT.
-/
namespace Go.Ow
open Go.RowKit
set_option linter.unusedVariables false
set_option linter.unusedSimpArgs false

variable {x : Cx} {ops : Array Oper} {Q : Exit → Act → World → Prop} {rest : List Oper} {l : Slots} {own : List Own} {H HF : Heaplet}
variable {ty : TypeId} {d : Nat} {pos : String} {aft : Array Edge} {v : Value} {p q : Operand} {t u : TypeId}

/-! ### Equality -/
def EqF (P : Program) (d : Nat) (xs ys : Array Value) : List Field → Bool → Prop
  | [],b => b = true
  | f :: fs, b => f.name ≠ "_" ∧ ∃ (p q : Value) (b1 b2 : Bool), (∀ w, (part f.type xs f.offset).run P w = .ok p w) ∧ (∀ w, (part f.type ys f.offset).run P w = .ok q w) ∧
      (∀ w,(Op.equalIn d f.type p q).run P w = .ok b1 w) ∧ EqF P d xs ys fs b2 ∧ b = (b1 && b2)
theorem EqF.run {P : Program} {d : Nat} {xs ys : Array Value} : ∀ {fs : List Field} {b : Bool},EqF P d xs ys fs b → ∀ w,(Op.eqFields d xs ys fs).run P w = .ok b w
  | [],b,h,w => by simp only [EqF] at h; subst h; rfl
  | f :: fs,b,h,w => by
    obtain ⟨hn,p,q,b1,b2,h1,h2,h3,h4,rfl⟩:=h
    simp only [Op.eqFields,hn,ne_eq,not_false_eq_true,if_true,Sem.run_bind,h1,h2,h3,Result.andThen,Sem.run_ite]
    cases b1 with
    | true => simpa using EqF.run h4 w
    | false => simp [Sem.run_pure]
theorem run_part1 {P : Program} {T n : Nat} {cs : Array Value} {off : Nat} {v : Value} (hs : shapeOf P T = some (false,n)) (h : cs.toList[off]? = some v) (w : World) : (part T cs off).run P w = .ok v w:=by
  have h' : cs[off]? = some v:=by simpa using h
  simp only [part,Sem.run_bind,run_isAgg hs,Result.andThen,Bool.false_eq_true,if_false,h',Sem.run_pure]
theorem run_partN {P : Program} {T n : Nat} {cs vs : Array Value} {off : Nat} (hs : shapeOf P T = some (true,n)) (h : cs.extract off (off + n) = vs) (w : World) : (part T cs off).run P w = .ok (.agg vs) w:=by
  simp only [part,Sem.run_bind,run_isAgg hs,run_sizeOf hs,Result.andThen,if_true,h,Sem.run_pure]
section eqf
variable {P : Program} {xs ys : Array Value} {f : Field} {fs : List Field} {bb : Bool} {k : Nat}
theorem EqF.nil : EqF P k xs ys [] true:=rfl
theorem EqF.i {kk k' : IntKind} {n : Nat} {a b : Int} (hn : f.name ≠ "_") (hs : shapeOf P f.type = some (false, n)) (hu : P.underlying f.type = some (.int k')) (h1 : xs.toList[f.offset]? = some (.int kk a)) (h2 : ys.toList[f.offset]? = some (.int kk b)) (h : EqF P (k + 1) xs ys fs bb) :
    EqF P (k + 1) xs ys (f :: fs) (decide (a = b) && bb) :=
  ⟨hn,_,_,_,_,run_part1 hs h1,run_part1 hs h2,fun w => by rw [run_equalIn_int w k f.type kk k' a b hu,show (a == b) = decide (a = b) by rw [Bool.eq_iff_iff]; simp],h,rfl⟩
theorem EqF.u32 {k' : IntKind} {n : Nat} {a b : UInt32} (hn : f.name ≠ "_") (hs : shapeOf P f.type = some (false, n)) (hu : P.underlying f.type = some (.int k')) (h1 : xs.toList[f.offset]? = some (.int .u32 (a.toNat : Int))) (h2 : ys.toList[f.offset]? = some (.int .u32 (b.toNat : Int))) (h : EqF P (k + 1) xs ys fs bb) :
    EqF P (k + 1) xs ys (f :: fs) (decide (a = b) && bb):=by
  have:=EqF.i hn hs hu h1 h2 h
  rw [show decide ((a.toNat : Int) = (b.toNat : Int)) = decide (a = b) by rw [Bool.eq_iff_iff]; simp only [decide_eq_true_eq,← UInt32.toNat_inj]; omega] at this; exact this
theorem EqF.u8 {k' : IntKind} {n : Nat} {a b : UInt8} (hn : f.name ≠ "_") (hs : shapeOf P f.type = some (false, n)) (hu : P.underlying f.type = some (.int k')) (h1 : xs.toList[f.offset]? = some (.int .u8 (a.toNat : Int))) (h2 : ys.toList[f.offset]? = some (.int .u8 (b.toNat : Int))) (h : EqF P (k + 1) xs ys fs bb) :
    EqF P (k + 1) xs ys (f :: fs) (decide (a = b) && bb):=by
  have:=EqF.i hn hs hu h1 h2 h
  rw [show decide ((a.toNat : Int) = (b.toNat : Int)) = decide (a = b) by rw [Bool.eq_iff_iff]; simp only [decide_eq_true_eq,← UInt8.toNat_inj]; omega] at this; exact this
theorem EqF.s {n : Nat} {xs' ys' : Array Value} {fs' : List Field} {b : Bool} (hn : f.name ≠ "_") (hs : shapeOf P f.type = some (true, n)) (hu : P.underlying f.type = some (.struct (P.fieldsOf f.type))) (hp : P.stoodInHeld f.type = false) (hf : (P.fieldsOf f.type).toList = fs') (h1 : xs.extract f.offset (f.offset + n) = xs') (h2 : ys.extract f.offset (f.offset + n) = ys')
    (hi : EqF P k xs' ys' fs' b) (h : EqF P (k + 1) xs ys fs bb) : EqF P (k + 1) xs ys (f :: fs) (b && bb) :=
  ⟨hn,_,_,_,_,run_partN hs h1,run_partN hs h2,fun w => by rw [run_equalIn_struct w k f.type xs' ys' hu hp,hf]; exact hi.run w,h,rfl⟩
end eqf
theorem R.eqlAgg {xs ys : Array Value} {fs : List Field} {b : Bool} (hu : x.P.underlying t = some (.struct (x.P.fieldsOf t))) (hp : x.P.stoodInHeld t = false) (hg : x.P.eqGuardType x.P.depth t = false) (hf : (x.P.fieldsOf t).toList = fs)
    (h1 : evo l p = some (.agg xs)) (h2 : evo l q = some (.agg ys)) (h : EqF x.P 9999 xs ys fs b) : Runs x (.binOp .eql t p q u) ty l own H (.bool b):=fun ρ w _ _ _ _ hρ hm => by
  simp only [execOp,hρ _ _ h1,hρ _ _ h2]
  refine run_v ?_
  rw [Sem.run_bind,run_eqGuard_agg w .eql t p q xs ys hg]
  simp only [Result.andThen,run_eql_struct,run_equalIn_struct w 9999 t xs ys hu hp,hf,h.run w]
/-! ### A part of an element -/
theorem take_drop_split {α : Type} (l : List α) (k m n o : Nat) (h : k + m ≤ n) (ho : o + n ≤ l.length) (cs : List α) (hcs : cs = (l.drop o).take n) (u : List α) (hu : u.length = m) :
    l.take (o + k) ++ u ++ l.drop (o + k + m) = l.take o ++ (cs.take k ++ u ++ cs.drop (k + m)) ++ l.drop (o + n):=by
  subst hcs
  have e1 : l.take (o + k) = l.take o ++ ((l.drop o).take n).take k:=by
    rw [List.take_take,Nat.min_eq_left (by omega),List.take_add]
  have e2 : l.drop (o + k + m) = ((l.drop o).take n).drop (k + m) ++ l.drop (o + n):=by
    rw [List.drop_take]
    have : l.drop (o + n) = (l.drop (o + k + m)).drop (n - (k + m)):=by rw [List.drop_drop]; congr 1; omega
    rw [this,List.drop_drop,show o + (k + m) = o + k + m by omega,List.take_append_drop]
  rw [e1,e2]; simp
theorem JL.stP {α : Type} {R : Rep α} (i : Nat) (k : Nat) {T E : TypeId} {g : Bool} {size m B b o : Nat} {j : Int} {v u : Value} {ms ms' : List α} {y' : α} {cs : List Value} {cur : Array Value} (hs : shapeOf x.P T = some (g,m)) (hi : own[i]? = some [(b,.cells cur E (0,0))]) (hS : RowOf HF R B E size v ms [(b,.cells cur E (0,0))])
    (h1 : evo l p = some (.pointer (some ⟨b,o + k,none⟩))) (hE : ElemAt v size j b o) (h2 : evo l q = some u) (hu : u.cells.size = m) (hc : ∀ j u,cs[j]? = some u → cur.toList[o + j]? = some u) (hl : cs.length = size)
    (hR : R HF (cs.take k ++ u.cells.toList ++ cs.drop (k + m)) y') (hR1 : R.One) (hk : k + m ≤ size) (hm : ms' = ms.set j.toNat y')
    (h : ∀ K',RowOf HF R B E size v ms' K' → ms'.length = ms.length → JL x ops Q rest l (own.set i K') H) : JL x ops Q (⟨none,.store T p q,ty,pos,aft,none⟩ :: rest) l own H:=by
  obtain ⟨cells,⟨h0,h3⟩,hf,ho⟩:=hS
  obtain ⟨hk0,o0,len,cap0,ev,rfl,hklt⟩:=hE
  rcases h3 with ⟨rfl,h3,h4⟩ | ⟨b',cap,cur',rfl,e2,e3,e4,e5,e6,e7⟩
  · cases h4
  · simp only [List.cons.injEq,Prod.mk.injEq,Obj.cells.injEq,and_true] at e2
    obtain ⟨rfl,rfl⟩:=e2
    simp only [Value.slice.injEq,Option.some.injEq,Addr.mk.injEq] at ev
    obtain ⟨⟨-,rfl,-⟩,rfl,rfl⟩:=ev
    have hj : j.toNat < ms.length:=hklt
    subst hm
    have hone:=hR1 _ _ _ hR
    have hks : j.toNat * size + size ≤ ms.length * size:=by rw [← Nat.succ_mul]; exact Nat.mul_le_mul_right _ hj
    have hms : ms.length * size ≤ cap * size:=Nat.mul_le_mul_right _ e4
    have hul : u.cells.toList.length = m:=by simpa using hu
    have hcl : cap * size ≤ cur.toList.length:=by simpa using e6
    have hone' : ∀ w ∈ u.cells.toList,w.oneCell' = true:=fun w hw => hone w (by simp [hw])
    refine JL.store i hs h1 h2 hi hu (List.all_eq_true.2 hone') (by omega) (h _ ?_ (List.length_set ..))
    have hcs : cs = (cur.toList.drop (0 + j.toNat * size)).take size:=by
      apply List.ext_getElem?
      intro n
      rw [List.getElem?_take]
      by_cases hn : n < size
      · rw [if_pos hn,List.getElem?_drop]
        have : cs[n]? = some cs[n]:=by simp
        rw [this,hc n _ this]
      · rw [if_neg hn,List.getElem?_eq_none (by omega)]
    have hcl2 : (cs.take k ++ u.cells.toList ++ cs.drop (k + m)).length = size:=by simp only [List.length_append,List.length_take,List.length_drop,hl,hul]; omega
    have hf':=Flat.set (y:=y') hcl2 hR hf hj
    have es:=take_drop_split cur.toList k m size (0 + j.toNat * size) hk (by omega) cs hcs u.cells.toList hul
    refine ⟨_,⟨by rw [hf'.length],.inr ⟨b,cap,_,by rw [List.length_set],rfl,e3,by rw [List.length_set]; exact e4,e5,?_,?_⟩⟩,hf',?_⟩
    · simp only [List.size_toArray,List.length_append,List.length_take,List.length_drop,hul]; omega
    · simp only [List.length_set,List.toList_toArray]
      rw [es,← e7]
      generalize cs.take k ++ u.cells.toList ++ cs.drop (k + m) = C at hcl2
      rw [Nat.zero_add]
      rw [List.take_append,List.take_append,List.take_take,List.take_take,Nat.min_eq_right (by omega),Nat.min_eq_left (by omega)]
      rw [List.take_of_length_le (l:=C) (by simp only [List.length_take,hcl2,hcl]; omega)]
      congr 1
      rw [List.take_drop]
      congr 2
      simp only [List.length_append,List.length_take,hcl2,hcl]; omega
    · intro w hw
      rcases List.mem_append.1 hw with hw | hw
      · rcases List.mem_append.1 hw with hw | hw
        · exact ho w (List.mem_of_mem_take hw)
        · exact hone w hw
      · exact ho w (List.mem_of_mem_drop hw)
end Go.Ow

/-
  What is proved here: ranges over what an iterator yields; how such a function is left; a few more operations; over OwQ.
-/
namespace Go.Ow
open Go.RowKit
set_option linter.unusedVariables false
set_option linter.unusedSimpArgs false

variable {x : Cx} {ops : Array Oper} {Q : Exit → Act → World → Prop} {rest : List Oper} {l : Slots} {own : List Own} {H HF : Heaplet}
variable {ty : TypeId} {d : Nat} {pos : String} {aft : Array Edge} {v : Value} {p q : Operand} {t u : TypeId}

/-! ### Iterators -/
def IterL {α : Type} (P : Program) (f : FuncId) (cap : Array Value) (H : Heaplet) (RA : Heaplet → Array Value → α → Prop) (xs : List α) : Prop :=
  Iter P f cap H (fun pre H' args y => RA H' args y ∧ ∃ t,pre ++ y :: t = xs) (fun ys => ys = xs) (fun ys => ∃ t,ys ++ t = xs)
def RoundS {σ τ : Type} (I : σ → List Own → Heaplet → Prop) (X : τ → Code → List Own → Heaplet → Prop) (out : σ ⊕ τ) (wb : World) (Hb : Heaplet) (S : List Nat) : Exit → Act → World → Prop
  | .normal,_,w => ∃ s' o' H',out = .inl s' ∧ Mem wb Hb S o'.flatten H' w ∧ I s' o' H'
  | .ret,_,w => ∃ t o' H',out = .inr t ∧ Mem wb Hb S o'.flatten H' w ∧ X t .ret o' H'
  | .exit id,_,w => ∃ t o' H',out = .inr t ∧ Mem wb Hb S o'.flatten H' w ∧ X t (.exit id) o' H'
  | _,_,_ => False
theorem JC.rangeL {α σ τ : Type} (hr : x.r = none) {g : Operand} {ps : Array Tmp} {assign body : Code} {gf : FuncId} {cap : Array Value} {RA : Heaplet → Array Value → α → Prop} {xs : List α}
    (bd : α → σ → Option (σ ⊕ τ)) (s0 : σ) (tt : σ ⊕ τ) (hrun : forL bd xs s0 = some tt)
    (I : σ → List Own → Heaplet → Prop) (X : τ → Code → List Own → Heaplet → Prop)
    (hg : evo l g = some (.func (.func gf) #[] cap)) (he : Enters x.P gf) (hit : IterL x.P gf cap H RA xs) (hps : ∀ H args y,RA H args y → args.size = ps.size) (hlt : ps.toList.all (fun p => Nat.blt p x.n) = true)
    (h0 : I s0 own H)
    (hround : ∀ (lr : Nat) (y : α) (s : σ) (args : Array Value) (o : List Own) (H' : Heaplet) (out : σ ⊕ τ),I s o H' → RA H' args y → bd y s = some out → ∃ L1 : Slots,
      (∀ wb,x.w0.heap.size ≤ wb.heap.size → JC { x with r:=some lr,w0:=wb,H0:=H',S:=ids o.flatten,ds:=[] } assign
        (Exit.then (fun a w => Holds { x with r:=some lr,w0:=wb,H0:=H',S:=ids o.flatten,ds:=[] } L1 o H' a w) (fun _ _ _ => False)) ((ps.toList.zip args.toList).reverse ++ l) o H') ∧
      (∀ wb,x.w0.heap.size ≤ wb.heap.size → JC { x with r:=some lr,w0:=wb,H0:=H',S:=ids o.flatten,ds:=[] } body (RoundS I X out wb H' (ids o.flatten)) L1 o H'))
    (hdone : ∀ (D : Nat) (s : σ) (o : List Own) (H' : Heaplet),x.w0.heap.size ≤ D → tt = .inl s → I s o H' → Hle H H' → JN { x with ds:=mark D :: x.ds } (Q .normal) l ([(D,.deferred (some []))] :: o) H')
    (hstop : ∀ (D : Nat) (c : Code) (e : τ) (o : List Own) (H' : Heaplet),x.w0.heap.size ≤ D → tt = .inr e → X e c o H' → Hle H H' → JC { x with ds:=mark D :: x.ds } c Q l ([(D,.deferred (some []))] :: o) H') :
    JC x (.rangeFunc g ps assign body) Q l own H:=by
  refine JC.rangeFunc hr hg he hit (fun pre H args y h => hps H args y h.1) hlt
    (fun pre o H' => ∃ s ys,pre ++ ys = xs ∧ forL bd ys s = some tt ∧ I s o H') (fun c pre o H' => ∃ e,tt = .inr e ∧ X e c o H') ⟨s0,xs,rfl,hrun,h0⟩ ?_ ?_ ?_
  · rintro lr pre y args o H' ⟨s,ys,hpre,hf,hI⟩ ⟨hy,t,ht⟩
    have hys : ys = y :: t:=by rw [← ht] at hpre; exact List.append_cancel_left hpre
    subst hys
    obtain ⟨out,hb,hcase⟩:=forL_some hf
    obtain ⟨L1,hA,hB⟩:=hround lr y s args o H' out hI hy hb
    refine ⟨L1,hA,fun wb hwb a w hh => wpIn_mono (hB wb hwb a w hh) ?_⟩
    rintro e a w hq
    cases e with
    | normal =>
      obtain ⟨s',o',H2,ho,hm,hI'⟩:=hq
      rcases hcase with ⟨s'',e1,h2⟩ | ⟨e',e1,h2⟩
      · rw [ho] at e1; cases e1
        exact ⟨o',H2,hm,s',t,by rw [← ht]; simp,h2,hI'⟩
      · rw [ho] at e1; cases e1
    | ret =>
      obtain ⟨e',o',H2,ho,hm,hX⟩:=hq
      rcases hcase with ⟨s'',e1,h2⟩ | ⟨e'',e1,h2⟩
      · rw [ho] at e1; cases e1
      · rw [ho] at e1; cases e1; exact ⟨o',H2,hm,e',h2,hX⟩
    | exit id =>
      obtain ⟨e',o',H2,ho,hm,hX⟩:=hq
      rcases hcase with ⟨s'',e1,h2⟩ | ⟨e'',e1,h2⟩
      · rw [ho] at e1; cases e1
      · rw [ho] at e1; cases e1; exact ⟨o',H2,hm,e',h2,hX⟩
    | goto _ => exact hq.elim
    | panic _ => exact hq.elim
    | outgrown => exact hq.elim
  · rintro D ys o H' hD rfl ⟨s,zs,hz,hf,hI⟩ hle
    have : zs = []:=by
      have:=congrArg List.length hz; simp at this; exact this
    subst this
    exact hdone D s o H' hD (Option.some.inj hf).symm hI hle
  · rintro D c ys o H' hD hS ⟨e,he',hX⟩ hle
    exact hstop D c e o H' hD he' hX hle
theorem JN.rN {σ τ : Type} {I : σ → List Own → Heaplet → Prop} {X : τ → Code → List Own → Heaplet → Prop} {s : σ} (h : I s own H) : JN x (RoundS I X (.inl s) x.w0 x.H0 x.S .normal) l own H :=
  fun a w hh => ⟨s,own,H,rfl,hh.mem,h⟩
theorem JN.rX {σ τ : Type} {I : σ → List Own → Heaplet → Prop} {X : τ → Code → List Own → Heaplet → Prop} {e : τ} {id : Nat} (h : X e (.exit id) own H) : JN x (RoundS I X (.inr e) x.w0 x.H0 x.S (.exit id)) l own H :=
  fun a w hh => ⟨e,own,H,rfl,hh.mem,h⟩

/-! ### Leaving a function that holds such a statement; results in cells too -/
theorem leaves_marks2 {P : Program} {fn : Func} {tmps : Array Value} {w0 : World} {H0 H : Heaplet} {S : List Nat} {R : Ending → World → Prop} {v : Value} {rst : Own}
    (hres : ∀ w,Mem w0 H0 S rst H w → (results fn tmps).run P w = .ok v w) (hR : ∀ w,Mem w0 H0 S rst H w → R (.returned v) w) : ∀ (Ds : List Nat) (w : World),
    Mem w0 H0 S ((Ds.map fun D => (D,Obj.deferred (some []))) ++ rst) H w → LeavesInM Fence.wide 0 P fn tmps R (Ds.map mark) .returning w
  | [],w,hm => ⟨v,hres w (by simpa using hm),hR w (by simpa using hm)⟩
  | D :: Ds,w,hm => by
    have hD : w.heap[D]? = some (.deferred (some [])):=hm.ok.here (D,Obj.deferred (some [])) (by simp)
    have hap : ∀ k,H D k = none:=fun k => hm.ok.apart (D,Obj.deferred (some [])) (by simp) k
    refine ⟨by simp,.inl ⟨D,_,rfl,run_takeDeferred hD,?_⟩⟩
    refine leaves_marks2 hres hR Ds _ ?_
    have:=hm.go (K:=[(D,Obj.deferred (some []))]) (rst:=(Ds.map fun D => (D,Obj.deferred (some []))) ++ rst) (by simp) (Mem.putObj hm.agr hD hap (.deferred none))
    exact this.sub (List.sublist_append_right _ _)
def marked (Ds : List Nat) : List Own:=Ds.map fun D => [(D,Obj.deferred (some []))]
theorem marked_flat (Ds : List Nat) : (marked Ds).flatten = Ds.map fun D => (D,Obj.deferred (some [])):=by
  induction Ds with
  | nil => rfl
  | cons D Ds ih => simp only [marked,List.map_cons,List.flatten_cons] at ih ⊢; rw [ih]; rfl
theorem JN.outMP {x0 : Cx} {fn : Func} {R : Value → List Own → Heaplet → Prop} {e : Exit} {rs : List ResultVar} {vs : List Value} {K rst own2 : List Own} (Ds : List Nat) (he : e = .ret ∨ e = .normal)
    (hx : x.P = x0.P ∧ x.w0 = x0.w0 ∧ x.H0 = x0.H0 ∧ x.S = x0.S) (hd : x.ds = Ds.map mark) (hr : fn.results = rs.toArray) (hp : own.flatten.Perm ((marked Ds).flatten ++ own2.flatten)) (hv : Res x.P l own2 rs vs)
    (hp2 : own2.flatten.Perm (K.flatten ++ rst.flatten)) (h : R (pack vs) K H) : JN x (RetM x0 fn R e) l own H:=fun a w hh => by
  have : RetM x0 fn R .ret a w:=by
    show LeavesInM Fence.wide 0 x0.P fn a.tmps _ a.defers .returning w
    rw [hh.ds,hd]
    obtain ⟨e1,e2,e3,e4⟩:=hx
    refine leaves_marks2 (rst:=own2.flatten) (w0:=x.w0) (H0:=x.H0) (S:=x.S) (H:=H) (v:=pack vs) (fun w' hm => ?_) (fun w' hm => ⟨pack vs,K,H,rfl,h,by rw [← e2,← e3,← e4]; exact (hm.perm hp2).sub (List.sublist_append_left _ _)⟩) Ds w ?_
    · rw [← e1]
      exact res_run (x:=x) (l:=l) (own:=own2) (H:=H) (a:=a) ⟨hh.size,hh.ds,hh.slots,hm⟩ hr hv
    · have:=hh.mem.perm hp
      rw [marked_flat] at this; exact this
  rcases he with rfl | rfl <;> exact this
/-! ### Entering, with what is known of the blocks that are handed in -/
theorem Does.enterL {P : Program} {f : FuncId} {fn : Func} {c : Code} {vs : List Value} {K : List Own} {H : Heaplet} {R : Value → List Own → Heaplet → Prop} {l : Slots}
    (hf : P.funcs[f]? = some fn) (hb : fn.body = some c) (hn : Nat.ble vs.length fn.ntmps = true) (hl : Sub l ((List.range' 0 vs.length).zip vs))
    (h : ∀ w,(∀ i ∈ ids K.flatten,i < w.heap.size) → JC { P:=P,r:=none,n:=fn.ntmps,w0:=w,H0:=H,S:=ids K.flatten,ds:=[] } c
      (Ret { P:=P,r:=none,n:=fn.ntmps,w0:=w,H0:=H,S:=ids K.flatten,ds:=[] } fn R) l K H) : Does P f vs.toArray K H R:=fun w ha hk => by
  have hlt : ∀ i ∈ ids K.flatten,i < w.heap.size:=fun i hi => by
    obtain ⟨p,hp,rfl⟩:=List.mem_map.1 hi; exact hk.lt p hp
  have hn:=Nat.le_of_ble_eq_true hn
  refine callsIn_of_wp hf hb trivial ?_
  refine h w hlt _ w ⟨?_,rfl,?_,⟨ha,hk,Kept.refl _ _,fun p hp => .inl (List.mem_map_of_mem hp),Hle.refl _,fun _ _ _ => rfl,Mem.soft0⟩⟩
  · simp; omega
  · intro i v e
    obtain ⟨_,h2⟩:=lk_args vs 0 i v (lk_sub hl i v e)
    have hi : i < vs.length:=by
      rcases Nat.lt_or_ge i vs.length with h' | h'
      · exact h'
      · simp [List.getElem?_eq_none h'] at h2
    have h3 : vs[i] = v:=by simpa [List.getElem?_eq_getElem hi] using h2
    have : i < (vs.toArray ++ Array.replicate (fn.ntmps - vs.toArray.size) undef).size:=by simp; omega
    simp only [Array.getD_eq_getD_getElem?,Array.getElem?_eq_getElem this,Option.getD_some]
    rw [Array.getElem_append_left (by simpa using hi)]
    simpa using h3
theorem Does.enterML {P : Program} {f : FuncId} {fn : Func} {c : Code} {vs : List Value} {K : List Own} {H : Heaplet} {R : Value → List Own → Heaplet → Prop} {l : Slots}
    (hf : P.funcs[f]? = some fn) (hb : fn.body = some c) (hn : Nat.ble vs.length fn.ntmps = true) (hl : Sub l ((List.range' 0 vs.length).zip vs))
    (h : ∀ w,(∀ i ∈ ids K.flatten,i < w.heap.size) → JC { P:=P,r:=none,n:=fn.ntmps,w0:=w,H0:=H,S:=ids K.flatten,ds:=[] } c
      (RetM { P:=P,r:=none,n:=fn.ntmps,w0:=w,H0:=H,S:=ids K.flatten,ds:=[] } fn R) l K H) : Does P f vs.toArray K H R:=fun w ha hk => by
  have hlt : ∀ i ∈ ids K.flatten,i < w.heap.size:=fun i hi => by
    obtain ⟨p,hp,rfl⟩:=List.mem_map.1 hi; exact hk.lt p hp
  have hn:=Nat.le_of_ble_eq_true hn
  refine callsIn_of_wp_marks hf hb trivial ?_
  refine h w hlt _ w ⟨?_,rfl,?_,⟨ha,hk,Kept.refl _ _,fun p hp => .inl (List.mem_map_of_mem hp),Hle.refl _,fun _ _ _ => rfl,Mem.soft0⟩⟩
  · simp; omega
  · intro i v e
    obtain ⟨_,h2⟩:=lk_args vs 0 i v (lk_sub hl i v e)
    have hi : i < vs.length:=by
      rcases Nat.lt_or_ge i vs.length with h' | h'
      · exact h'
      · simp [List.getElem?_eq_none h'] at h2
    have h3 : vs[i] = v:=by simpa [List.getElem?_eq_getElem hi] using h2
    have : i < (vs.toArray ++ Array.replicate (fn.ntmps - vs.toArray.size) undef).size:=by simp; omega
    simp only [Array.getElem?_eq_getElem this,Option.getD_some]
    rw [Array.getElem_append_left (by simpa using hi)]
    simpa using h3
theorem Zh {α : Type} {R : Rep α} {N : Nat} {E : TypeId} {size : Nat} {v : Value} {ls : List α} {K : Own} {S : List Nat} (h : RowOf HF R N E size v ls K) (hS : ∀ i ∈ S,i < N) : ∀ p ∈ K,p.1 ∉ S:=fun p hp hm => by
  have h1:=h.ge p hp; have h2:=hS _ hm; omega
theorem JC.pubN {c : Code} {α : Type} {R : Rep α} (i : Nat) (hR : R.Mono) {K : Own} {B : Nat} {E : TypeId} {size : Nat} {v : Value} {ls : List α} (hi : own[i]? = some K) (hr : RowOf (New x.H0 H) R B E size v ls K) (hB : x.w0.heap.size ≤ B)
    (h : ∀ H',Hle H H' → IsSlice (New x.H0 H') R size v ls → JC x c Q l (own.set i []) H') : JC x c Q l own H:=JN.pubN (C:=fun a w => c.wpIn (Fw x.r) 0 x.P Q a w) i hR hi hr hB h

/-! ### Cuts around code that leaves marks -/
def HoldsD (x : Cx) (I : List Deferred → Slots → List Own → Heaplet → Prop) (a : Act) (w : World) : Prop:=∃ ds l o g,I ds l o g ∧ Holds { x with ds:=ds } l o g a w
theorem JC.cutD {c : Code} (I : List Deferred → Slots → List Own → Heaplet → Prop) (h2 : ∀ ds l o g,I ds l o g → JN { x with ds:=ds } (Q .normal) l o g)
    (h1 : JC x c (Exit.then (HoldsD x I) Q) l own H) : JC x c Q l own H:=fun a w hh => by
  refine wpIn_mono (h1 a w hh) ?_
  intro e a w hq
  cases e with
  | normal => obtain ⟨ds,l,o,g,hI,hh⟩:=hq; exact h2 ds l o g hI a w hh
  | exit id => exact hq
  | goto t => exact hq
  | ret => exact hq
  | panic c => exact hq
  | outgrown => exact hq
theorem JN.cutD {x0 : Cx} {I : List Deferred → Slots → List Own → Heaplet → Prop} {ds' : List Deferred} {l' : Slots} {o' : List Own} {g' : Heaplet} (hI : I ds' l' o' g') (hx : x = { x0 with ds:=ds' }) (hl : Sub l' l) (ho : o' = own) (hg : g' = H) :
    JN x (Exit.then (HoldsD x0 I) Q .normal) l own H:=fun a w hh => ⟨ds',l',o',g',hI,by rw [← hx,ho,hg]; exact hh.sub hl⟩
end Go.Ow

/-
  What is proved here: parts of own rows: reading through them, a prefix that goes on as the row, clearing a part; append of zeros to nothing; over OwS.
-/
namespace Go.Ow
open Go.RowKit
set_option linter.unusedVariables false
set_option linter.unusedSimpArgs false

variable {x : Cx} {ops : Array Oper} {Q : Exit → Act → World → Prop} {rest : List Oper} {l : Slots} {own : List Own} {H HF : Heaplet}
variable {ty : TypeId} {d : Nat} {pos : String} {aft : Array Edge} {v : Value} {p q : Operand} {t u : TypeId}

def SubV (size : Nat) (v v' : Value) (lo len : Nat) : Prop :=
  (∃ ao cap,v' = .slice ao len cap) ∧ (len = 0 ∨ ∃ b o n cap cap',v = .slice (some ⟨b,o,none⟩) n cap ∧ v' = .slice (some ⟨b,o + lo * size,none⟩) len cap' ∧ lo + len ≤ n)
def LongI (v : Value) (e : Int) : Prop:=∃ n : Nat,Long v n ∧ (n : Int) = e
theorem R.lenE {e : Int} {el : TypeId} (hu : x.P.underlying t = some (.slice el)) (h1 : evo l p = some v) (hL : LongI v e) : Runs x (.call ⟨.builtin .len,#[p],#[t]⟩) ty l own H (.int .i64 e):=by
  obtain ⟨n,h,rfl⟩:=hL; exact ZV hu h1 h
theorem ElemAt.sub {size lo len : Nat} {v v' : Value} {i j : Int} {b o : Nat} (hs : SubV size v v' lo len) (hE : ElemAt v size j b o) (hj : j = (lo : Int) + i) (hi : 0 ≤ i ∧ i < len) : ElemAt v' size i b o:=by
  obtain ⟨_,hs⟩:=hs
  rcases hs with h0 | ⟨b',o',n,cap,cap',rfl,rfl,hle⟩
  · omega
  · obtain ⟨h0,o0,len',cap0,e,rfl,hlt⟩:=hE
    simp only [Value.slice.injEq,Option.some.injEq,Addr.mk.injEq] at e
    obtain ⟨⟨rfl,rfl,-⟩,rfl,rfl⟩:=e
    refine ⟨hi.1,_,len,cap',rfl,?_,by omega⟩
    have : j.toNat = lo + i.toNat:=by omega
    rw [this,Nat.add_mul]; omega
theorem RowOf.cutv {α : Type} {R : Rep α} {B size : Nat} {E : TypeId} {v : Value} {m : List α} {K : Own} {a b : Int} (h : RowOf HF R B E size v m K) (hab : 0 ≤ a ∧ a ≤ b ∧ b ≤ m.length) :
    ∃ v' cap,(∃ ao n,v = .slice ao n cap ∧ (cap : Int) = cap) ∧ b ≤ cap ∧ (∃ ao,v = .slice ao m.length cap ∧ (cap : Int) ≤ cap ∧ v' = sliced ao a.toNat b.toNat (cap : Int).toNat size) ∧
      SubV size v v' a.toNat (b.toNat - a.toNat) ∧ LongI v' (b - a):=by
  obtain ⟨cells,⟨h0,h1⟩,hf,ho⟩:=h
  rcases h1 with ⟨rfl,h3,rfl⟩ | ⟨g,cap,cur,rfl,rfl,e3,e4,e5,e6,e7⟩
  · have hm : m = []:=List.length_eq_zero_iff.1 h3
    subst hm
    have ha : a = 0:=by simp at hab; omega
    have hb : b = 0:=by simp at hab; omega
    subst ha hb
    exact ⟨_,0,⟨none,0,rfl,rfl⟩,by omega,⟨none,rfl,Int.le_refl _,rfl⟩,⟨⟨_,_,rfl⟩,.inl rfl⟩,0,⟨_,_,rfl⟩,rfl⟩
  · refine ⟨_,cap,⟨_,_,rfl,rfl⟩,by omega,⟨_,rfl,Int.le_refl _,rfl⟩,⟨⟨_,_,rfl⟩,?_⟩,b.toNat - a.toNat,⟨_,_,rfl⟩,by omega⟩
    by_cases hz : b.toNat - a.toNat = 0
    · exact .inl hz
    · refine .inr ⟨g,0,_,cap,cap - a.toNat,rfl,?_,by omega⟩
      have hne : ¬ cap = a.toNat:=by omega
      simp only [sliced,Int.toNat_natCast,if_neg hne,Option.map_some,add_lit]
theorem RowOf.pre {α : Type} {R : Rep α} {B size : Nat} {E : TypeId} {v : Value} {m m' : List α} {K : Own} {b : Int} (h : RowOf HF R B E size v m K) (hm : m' = cut m 0 b) (hab : (0 : Int) ≤ 0 ∧ 0 ≤ b ∧ b ≤ m.length) :
    ∃ v' cap,(∃ ao n,v = .slice ao n cap ∧ (cap : Int) = cap) ∧ b ≤ cap ∧ (∃ ao,v = .slice ao m.length cap ∧ (cap : Int) ≤ cap ∧ v' = sliced ao (0 : Int).toNat b.toNat (cap : Int).toNat size) ∧ RowOf HF R B E size v' m' K:=by
  subst hm
  obtain ⟨cells,⟨h0,h1⟩,hf,ho⟩:=h
  rcases h1 with ⟨rfl,h3,rfl⟩ | ⟨g,cap,cur,rfl,rfl,e3,e4,e5,e6,e7⟩
  · have hm : m = []:=List.length_eq_zero_iff.1 h3
    subst hm
    have hb : b = 0:=by simp at hab; omega
    subst hb
    refine ⟨_,0,⟨none,0,rfl,rfl⟩,by omega,⟨none,rfl,Int.le_refl _,rfl⟩,?_⟩
    have : sliced (none : Option Addr) (0 : Int).toNat (0 : Int).toNat ((0 : Nat) : Int).toNat size = .slice none 0 0:=by simp [sliced]
    rw [this,show cut ([] : List α) 0 0 = [] by simp [cut]]; exact ZR _ _ _ _ _
  · have hlen : (cut m 0 b).length = b.toNat:=by simp only [cut,List.length_take,List.length_drop]; omega
    have hfl:=hf.length
    have hft : ∀ (k : Nat) (m : List α) (cells : List Value),Flat HF R size cells m → Flat HF R size (cells.take (k * size)) (m.take k):=by
      intro k
      induction k with
      | zero => intro m cells _; simp [Flat]
      | succ k ih =>
        intro m cells hF
        cases m with
        | nil => simp only [Flat] at hF; subst hF; simp [Flat]
        | cons y r =>
          obtain ⟨cs,more,rfl,f1,f2,f3⟩:=hF
          refine ⟨cs,more.take (k * size),?_,f1,f2,ih r more f3⟩
          rw [List.take_append,List.take_of_length_le (by rw [f1,Nat.add_mul]; omega),f1]; congr 2; rw [Nat.add_mul]; omega
    have hcut : cut m 0 b = m.take b.toNat:=by simp [cut]
    refine ⟨_,cap,⟨_,_,rfl,rfl⟩,by omega,⟨_,rfl,Int.le_refl _,rfl⟩,?_⟩
    have hv : sliced (some (⟨g,0,none⟩ : Addr)) (0 : Int).toNat b.toNat (cap : Int).toNat size = .slice (some ⟨g,0,none⟩) b.toNat cap:=by
      simp [sliced]
    rw [hv]
    refine ⟨cells.take (b.toNat * size),⟨?_,.inr ⟨g,cap,cur,by rw [hlen],rfl,e3,by omega,e5,e6,?_⟩⟩,by rw [hcut]; exact hft _ _ _ hf,fun w hw => ho w (List.mem_of_mem_take hw)⟩
    · rw [List.length_take,hlen,hfl,Nat.min_eq_left (Nat.mul_le_mul_right _ (by omega))]
    · rw [hlen,← e7,List.take_take,Nat.min_eq_left (Nat.mul_le_mul_right _ (by omega))]
/-! ### Nothing -/
theorem R.capN (hu : ∃ e,x.P.underlying t = some (.slice e)) (h1 : evo l p = some (.slice none 0 0)) : Runs x (.call ⟨.builtin .cap,#[p],#[t]⟩) ty l own H (.int .i64 0):=by
  obtain ⟨e,hu⟩:=hu
  exact fun ρ w _ _ _ _ hρ hm => by simp [execOp,resolve,invoke,hρ _ _ h1,run_underlying hu,go_sem,Builtin.cap_,goInt]
theorem R.slcN {e : TypeId} {g : Bool} {size : Nat} {lo hi mx : Option Operand} (hu : x.P.underlying t = some (.slice e)) (hs : shapeOf x.P e = some (g,size)) (h0 : evo l p = some (.slice none 0 0))
    (h1 : match lo with | none => True | some o => ∃ kk,evo l o = some (.int kk 0)) (h2 : match hi with | none => True | some o => ∃ kk,evo l o = some (.int kk 0)) (hmx : mx = none) :
    Runs x (.slice t p lo hi mx) ty l own H (.slice none 0 0):=by
  subst hmx
  have:=R.slc (x:=x) (own:=own) (H:=H) (ty:=ty) (α:=UInt8) (R:=RU8) (m:=[]) (a:=0) (b:=0) (c:=0) (cap:=0) (v':=.slice none 0 0) (lo:=lo) (hi:=hi) (mx:=none) hu hs h0
    (by cases lo <;> simp_all) (by cases hi <;> simp_all) ⟨none,0,rfl,rfl⟩ ⟨by omega,by omega,by omega⟩ ⟨none,rfl,by simp,by simp [sliced]⟩ (.inl rfl)
  exact this
theorem JL.appZ {α : Type} {R : Rep α} {tn E : TypeId} {z : Value} {size bytes : Nat} {kn : IntKind} {n : Int} {y : α} {rs : List α} (hu : x.P.underlying t = some (.slice E)) (hun : x.P.underlying tn = some (.int kn)) (he : eInfo x.P E = some (z,size,bytes)) (h1 : evo l p = some (.slice none 0 0)) (h2 : evo l q = some (.int .i64 n))
    (hR : ∀ H,R H z.cells.toList y) (hR1 : R.One) (hrs : rs = List.replicate n.toNat y) (hn : 0 ≤ n ∧ n.toNat ≤ LIM) (hb : Nat.ble bytes 128 = true) (hd : Nat.blt d x.n = true)
    (h : ∀ v' K',RowOf HF R x.w0.heap.size E size v' rs K' → JL x ops Q rest ((d,v') :: l) (K' :: own) H) : JL x ops Q (⟨some d,.call ⟨.builtin .append,#[p,q],#[t,tn]⟩,ty,pos,aft,none⟩ :: rest) l own H:=fun a w hh => by
  subst hrs
  obtain ⟨N,rfl⟩:=Int.eq_ofNat_of_zero_le hn.1
  have hN : N ≤ LIM:=by simpa using hn.2
  simp only [Int.toNat_natCast] at h
  obtain ⟨i,hi,hz,hsz,hby,hzs,hpos⟩:=eInfo_parts he
  subst hsz; subst hby
  have e1:=Zi hh h1
  have e2:=Zi hh h2
  simp only [wpLs,Zl,if_true]
  refine ⟨fun _ _ => trivial,?_⟩
  have base : ∀ v' w',(Builtin.append_ #[t,tn] ty #[.slice none 0 0,.int .i64 (N : Int)]).run x.P w = .ok v' w' →
      (execOp a.eval ⟨some d,.call ⟨.builtin .append,#[p,q],#[t,tn]⟩,ty,pos,aft,none⟩).run x.P w = .ok (.value v') w':=fun v' w' hr => by
    generalize a.eval = ρ at e1 e2
    have e3 : Array.map ρ #[p,q] = #[.slice none 0 0,.int .i64 (N : Int)]:=by simp [e1,e2]
    simp only [execOp,resolve,e3,Sem.run_bind,Sem.run_pure,Result.andThen,invoke,builtin,hr]
  by_cases h0 : N = 0
  · subst h0
    have hr : (Builtin.append_ #[t,tn] ty #[.slice none 0 0,.int .i64 ((0 : Nat) : Int)]).run x.P w = .ok (.slice none 0 0) w:=by
      have hw0 : IntKind.i64.wrap 0 = 0:=by decide
      simp [Builtin.append_,run_underlying hu,run_underlying hun,sizeOf,typeInfo,hi,asInt,asIntOf,hw0,go_sem]
    rw [Zp rfl,base _ _ hr]
    exact h _ [] (ZR _ _ _ _ _) _ _ (Holds.put (x:=x) (l:=l) ⟨hh.size,hh.ds,hh.slots,by simpa using hh.mem⟩ hd _)
  · have hlb:=lim_bytes hN hb
    have hr:=Lib.run_append_grow_zeros (P:=x.P) w t tn ty E i z .i64 kn hu hun hi hz none 0 0 [] (by simp [Builtin.firstCells,go_sem]) N (by omega) hpos (by omega) (by unfold LIM at hN; omega) (by omega) (growslice_fits (by omega) (by rw [Nat.zero_add]; exact hlb))
    simp only [Nat.zero_add] at hr
    rw [Zp rfl,base _ _ (by simpa using hr)]
    obtain ⟨C,hC⟩ : ∃ C,C = Builtin.zeroCells z.cells N ++ Builtin.zeroCells z.cells (grownCap w N 0 E - N):=⟨_,rfl⟩
    have hzc : (Builtin.zeroCells z.cells N).toList = (List.replicate N z.cells.toList).flatten:=by
      have:=madeCells_flat z.cells N (by rw [hzs]; exact hpos)
      rw [← this]; simp [Builtin.zeroCells,madeCells]
    have hfl:=flat_replicate (R:=R) (H:=HF) (size:=i.size) (hR HF) (by simpa using hzs) N
    have hge:=grownCap_ge w N 0 E
    refine h _ [(w.heap.size,.cells C E (0,0))] ⟨(List.replicate N z.cells.toList).flatten,⟨by rw [hfl.length],.inr ⟨w.heap.size,_,C,by simp,rfl,hh.mem.kept.size,by simpa using hge,grownCap_le_maxLen w N 0 E (lim_max hN),?_,?_⟩⟩,hfl,hfl.one' hR1⟩ _ _ (Holds.put (x:=x) (l:=l) ?_ hd _)
    · rw [hC]; simp only [Array.size_append,size_zeroCells,hzs,← Nat.add_mul]; refine Nat.mul_le_mul_right _ ?_; omega
    · rw [hC,List.length_replicate,Array.toList_append,hzc]
      exact List.take_left' (by rw [hfl.length]; simp)
    · have hm:=Mem.alloc (w:=w.drew) (H:=H) (fun b o v e => hh.mem.agr b o v e) (.cells C E (0,0))
      have hm' : Mem w H [] [(w.heap.size,.cells C E (0,0))] H (w.drew.alloc (.cells C E (0,0))):=⟨hm.agr,hm.ok,⟨hm.kept.os,hm.kept.tape,hm.kept.output,hm.kept.size,Nat.le_trans (Nat.le_succ _) hm.kept.drawn,hm.kept.block⟩,hm.fresh,hm.le,hm.grow,hm.soft⟩
      refine ⟨hh.size,hh.ds,hh.slots,?_⟩
      have:=hh.mem.go0 (K':=[[(w.heap.size,.cells C E (0,0))]]) (by simpa using hm')
      rw [hC] at this ⊢
      simpa using this
end Go.Ow

/-
  What is proved here: what a reading of an argument says, as a datum that lies in the memory at the law's beginning; the lift of a law's walk to its contract.
-/
namespace Go.Ow
open Go.ChangeShapes Go.WideShapes Go.ChangeAt Go.RowKit
set_option linter.unusedVariables false
set_option linter.unusedSimpArgs false

def HW (W : World) : Heaplet:=fun b o => W.cell? ⟨b,o,none⟩
theorem agrees_HW (W : World) : Agrees (HW W) W:=fun _ _ _ h => h

structure Bulk (H : Type) where
  one : DataW H → Nat
  all : List (DataW H) → Nat
  hstr : ∀ l : List UInt8,one (.lit (.string l)) = l.length + 1
  hsl : ∀ a b,one (.slice a b) = all a + all b + 1
  hagg : ∀ a,one (.agg a) = all a + 1
  hnil : all [] = 0
  hcons : ∀ d r,all (d :: r) = one d + all r
  hone : ∀ d,1 ≤ one d

section
variable {H : Type} {enc : TypeId × Value → H} {P : Program} {W : World} {B : Bulk H}

theorem Bulk.append (l r : List (DataW H)) : B.all (l ++ r) = B.all l + B.all r:=by
  induction l with
  | nil => simp [B.hnil]
  | cons x l ih => simp only [List.cons_append,B.hcons,ih]; omega
def Reads (enc : TypeId × Value → H) (P : Program) (W : World) (B : Bulk H) (t : TypeId) {α : Type} (R : Rep α) (size : Nat) (big : α → Nat) (I : α → Prop) : Prop :=
  ∀ fuel cs d ps,DataW.trod enc P W 0 (fun _ => true) true fuel t cs = some (d,ps) → ∃ x,R (HW W) cs x ∧ cs.length = size ∧ big x ≤ B.one d ∧ I x

theorem has_iff {k : IntKind} {n : Int} (h : (Lit.int k n).wf = true) : k.min ≤ n ∧ n ≤ k.max:=by
  simpa [Lit.wf] using h
theorem reads_int {t : TypeId} (ht : P.underlying t = some (.int .i64)) : Reads enc P W B t RInt 1 (fun _ => 1) InI64:=fun fuel cs d ps h => by
  obtain ⟨n,rfl,hx,hw⟩:=DataW.trod_int ht h
  exact ⟨n,rfl,rfl,B.hone _,by simpa [InI64,IntKind.min,IntKind.max,IntKind.signed,IntKind.bits] using has_iff hw⟩
theorem reads_u8 {t : TypeId} (ht : P.underlying t = some (.int .u8)) : Reads enc P W B t RU8 1 (fun _ => 1) (fun _ => True):=fun fuel cs d ps h => by
  obtain ⟨n,rfl,hx,hw⟩:=DataW.trod_int ht h
  have:=has_iff hw
  simp only [IntKind.min,IntKind.max,IntKind.signed,IntKind.bits] at this
  refine ⟨UInt8.ofNat n.toNat,?_,rfl,B.hone _,trivial⟩
  show [Value.int .u8 n] = [.int .u8 (UInt8.ofNat n.toNat).toNat]
  have h2 : n.toNat < 256:=by simp at this; omega
  rw [UInt8.toNat_ofNat_of_lt' (by simpa [UInt8.size] using h2)]
  simp at this
  congr 2; omega
theorem reads_u32 {t : TypeId} (ht : P.underlying t = some (.int .u32)) : Reads enc P W B t RU32 1 (fun _ => 1) (fun _ => True):=fun fuel cs d ps h => by
  obtain ⟨n,rfl,hx,hw⟩:=DataW.trod_int ht h
  have:=has_iff hw
  simp only [IntKind.min,IntKind.max,IntKind.signed,IntKind.bits] at this
  refine ⟨UInt32.ofNat n.toNat,?_,rfl,B.hone _,trivial⟩
  show [Value.int .u32 n] = [.int .u32 (UInt32.ofNat n.toNat).toNat]
  have h2 : n.toNat < 4294967296:=by simp at this; omega
  rw [UInt32.toNat_ofNat_of_lt' (by simpa [UInt32.size] using h2)]
  simp at this
  congr 2; omega
def bigs {α : Type} (big : α → Nat) (l : List α) : Nat:=(l.map big).sum + 1

theorem reads_slice {α : Type} {t e : TypeId} {R : Rep α} {size : Nat} {big : α → Nat} {I : α → Prop} (ht : P.underlying t = some (.slice e)) (hc : P.cellsOf e = size) (hpos : 0 < size) (he : Reads enc P W B e R size big I) :
    ∀ fuel cs d ps,DataW.trod enc P W 0 (fun _ => true) true fuel t cs = some (d,ps) → ∃ ao n cap,cs = [.slice ao n cap] ∧ ∃ l,IsSlice (HW W) R size (.slice ao n cap) l ∧ bigs big l ≤ B.one d ∧ ∀ x ∈ l,I x:=fun fuel cs d ps h => by
  rcases DataW.trod_slice ht h with ⟨rfl,hx⟩ | ⟨a,len,cap,elems,rst,m,_,rfl,hx,_,hlc,hcm,hlen,hel,hrest,_⟩
  · exact ⟨none,0,0,rfl,[],IsSlice.nil _ _ _,by simp [bigs]; exact B.hone _,by simp⟩
  · have hspot : cap = 0 ∨ a.spot = none:=by
      by_cases h0 : cap = 0
      · exact .inl h0
      right
      have hsome : ∃ cs',W.cells? 0 a (P.cellsOf e) = some cs':=by
        by_cases hl : len = 0
        · subst hl
          obtain ⟨hr1,hr2⟩:=hrest rfl
          have:=hr2 0 (by omega)
          have h3 : (rst[0]?).isSome = true:=by rw [List.getElem?_eq_getElem (by omega)]; rfl
          rw [← this] at h3
          cases h4 : W.cells? 0 (a.add ((0 + 0) * P.cellsOf e)) (P.cellsOf e) with
          | none => rw [h4] at h3; simp at h3
          | some c => exact ⟨c,by simpa [Addr.add] using h4⟩
        · have:=hel 0 (by omega)
          have h3 : (elems[0]?).isSome = true:=by rw [List.getElem?_eq_getElem (by omega)]; rfl
          rw [← this] at h3
          cases h4 : W.cells? 0 (a.add (0 * P.cellsOf e)) (P.cellsOf e) with
          | none => rw [h4] at h3; simp at h3
          | some c => exact ⟨c,by simpa [Addr.add] using h4⟩
      obtain ⟨cs',hcs'⟩:=hsome
      obtain ⟨_,hl',hc'⟩:=World.cells?_some hcs'
      have:=hc' 0 (by omega)
      have h5 : (cs'[0]?).isSome = true:=by rw [List.getElem?_eq_getElem (by omega)]; rfl
      rw [← this] at h5
      have h6 : a.add 0 = a:=by simp [Addr.add]
      rw [h6] at h5
      cases hs : a.spot with
      | none => rfl
      | some s =>
        unfold World.cell? at h5
        rw [hs] at h5
        split at h5 <;> simp at h5
    have key : ∀ (k : Nat),k ≤ len → ∃ l : List α,l.length = k ∧ (l.map big).sum ≤ B.all ((elems.take k).map (·.1)) ∧ (∀ x ∈ l,I x) ∧
        ∀ i y,l[i]? = some y → ∃ cs,W.cells? 0 (a.add (i * size)) size = some cs ∧ R (HW W) cs y ∧ cs.length = size:=by
      intro k
      induction k with
      | zero => intro _; exact ⟨[],rfl,by simp,by simp,by simp⟩
      | succ k ih =>
        intro hk
        obtain ⟨l,hl,hb,hI,hi⟩:=ih (by omega)
        have h1:=hel k (by omega)
        have hk' : k < elems.length:=by omega
        rw [List.getElem?_eq_getElem hk'] at h1
        cases h4 : W.cells? 0 (a.add (k * P.cellsOf e)) (P.cellsOf e) with
        | none => rw [h4] at h1; simp at h1
        | some c =>
          rw [h4] at h1
          simp only [Option.bind_some] at h1
          obtain ⟨y,hy1,hy2,hy3,hy4⟩:=he m c elems[k].1 elems[k].2 h1
          refine ⟨l ++ [y],by simp [hl],?_,?_,?_⟩
          · rw [List.map_append,List.sum_append,List.take_succ_eq_append_getElem hk',List.map_append,B.append]
            simp only [List.map_cons,List.map_nil,List.sum_cons,List.sum_nil,B.hcons,B.hnil]
            omega
          · intro x hx
            rcases List.mem_append.1 hx with hx | hx
            · exact hI x hx
            · simp at hx; subst hx; exact hy4
          · intro i z hz
            by_cases hi' : i < k
            · rw [List.getElem?_append_left (by omega)] at hz
              exact hi i z hz
            · have hik : i = k:=by
                have:=(List.getElem?_eq_some_iff.1 hz).1
                simp at this; omega
              subst hik
              rw [List.getElem?_append_right (by omega)] at hz
              simp [hl] at hz; subst hz
              exact ⟨c,by rw [← hc]; exact h4,hy1,hy2⟩
    obtain ⟨l,hl,hb,hI,hi⟩:=key len (Nat.le_refl _)
    refine ⟨some a,len,cap,rfl,l,⟨some a,cap,by rw [hl],by omega,hcm,fun a' e' => ?_,fun e' => (by cases e'),fun i y hy => ?_⟩,?_,hI⟩
    · cases e'; exact hspot
    · have hlt:=(List.getElem?_eq_some_iff.1 hy).1
      have hsp : a.spot = none:=hspot.resolve_left (by omega)
      obtain ⟨b,o,s⟩:=a
      simp at hsp; subst hsp
      obtain ⟨cs,h1,h2,h3⟩:=hi i y hy
      refine ⟨b,o,cs,rfl,h3,h2,fun j u hu => ?_⟩
      obtain ⟨_,_,h5⟩:=World.cells?_some h1
      have hj : j < size:=by have:=(List.getElem?_eq_some_iff.1 hu).1; omega
      have h6:=h5 j hj
      rw [hu] at h6
      have e1 : (Addr.add (Addr.add ⟨b,o,none⟩ (i * size)) j) = ⟨b,o + i * size + j,none⟩:=by
        unfold Addr.add; split <;> split <;> simp_all
      rw [e1] at h6
      exact h6
    · simp only [Prod.mk.injEq] at hx
      rw [hx.1,B.hsl]
      rw [List.take_of_length_le (by omega)] at hb
      unfold bigs; omega
end
end Go.Ow

/-
  What is proved here: what a reading of the program's structures says. Printed by mkrt.py.
-/
namespace Go.Ow
open Go.ChangeShapes Go.WideShapes Go.ChangeAt Go.RowKit
set_option linter.unusedVariables false
set_option linter.unusedSimpArgs false

section
variable {H : Type} {enc : TypeId × Value → H} {P : Program} {W : World} {B : Bulk H}

def big_Ptr (x : Ptr) : Nat:=1 + 1 + 1 + 1 + 1 + 1
def ok_Ptr (x : Ptr) : Prop:=InI64 x.At ∧ True ∧ True ∧ True ∧ True
theorem reads_Ptr {t : TypeId} {fs : Array Field} {f0 f1 f2 f3 f4 : Field} (ht : P.underlying t = some (.struct fs)) (hN : P.cellsOf t = 5) (hk : fs.size = 5)
    (g0 : fs[0]? = some f0 ∧ f0.offset = 0 ∧ P.cellsOf f0.type = 1) (r0 : Reads enc P W B f0.type RInt 1 (fun _ => 1) InI64)
    (g1 : fs[1]? = some f1 ∧ f1.offset = 1 ∧ P.cellsOf f1.type = 1) (r1 : Reads enc P W B f1.type RU32 1 (fun _ => 1) (fun _ => True))
    (g2 : fs[2]? = some f2 ∧ f2.offset = 2 ∧ P.cellsOf f2.type = 1) (r2 : Reads enc P W B f2.type RU32 1 (fun _ => 1) (fun _ => True))
    (g3 : fs[3]? = some f3 ∧ f3.offset = 3 ∧ P.cellsOf f3.type = 1) (r3 : Reads enc P W B f3.type RU32 1 (fun _ => 1) (fun _ => True))
    (g4 : fs[4]? = some f4 ∧ f4.offset = 4 ∧ P.cellsOf f4.type = 1) (r4 : Reads enc P W B f4.type RU32 1 (fun _ => 1) (fun _ => True)) :
    Reads enc P W B t R_Ptr 5 big_Ptr ok_Ptr:=fun fuel cs d ps h => by
  obtain ⟨xs,n,_,hx,hlen,hxl,hf⟩:=DataW.trod_struct ht h
  rw [hN] at hlen
  rw [hk] at hxl
  match xs,hxl with
  | [x0,x1,x2,x3,x4],_ =>
  match cs,hlen with
  | [c0,c1,c2,c3,c4],_ =>
  obtain ⟨y0,a0,_,b0,i0⟩:=r0 n [c0] x0.1 x0.2 (by have e:=hf 0 _ g0.1; rw [g0.2.1,g0.2.2] at e; exact e)
  have b0 : 1 ≤ B.one x0.1:=b0
  obtain rfl : c0 = .int .i64 y0:=by have e : [c0] = [.int .i64 y0]:=a0; simpa using e
  obtain ⟨y1,a1,_,b1,i1⟩:=r1 n [c1] x1.1 x1.2 (by have e:=hf 1 _ g1.1; rw [g1.2.1,g1.2.2] at e; exact e)
  have b1 : 1 ≤ B.one x1.1:=b1
  obtain rfl : c1 = .int .u32 (y1.toNat : Int):=by have e : [c1] = [.int .u32 (y1.toNat : Int)]:=a1; simpa using e
  obtain ⟨y2,a2,_,b2,i2⟩:=r2 n [c2] x2.1 x2.2 (by have e:=hf 2 _ g2.1; rw [g2.2.1,g2.2.2] at e; exact e)
  have b2 : 1 ≤ B.one x2.1:=b2
  obtain rfl : c2 = .int .u32 (y2.toNat : Int):=by have e : [c2] = [.int .u32 (y2.toNat : Int)]:=a2; simpa using e
  obtain ⟨y3,a3,_,b3,i3⟩:=r3 n [c3] x3.1 x3.2 (by have e:=hf 3 _ g3.1; rw [g3.2.1,g3.2.2] at e; exact e)
  have b3 : 1 ≤ B.one x3.1:=b3
  obtain rfl : c3 = .int .u32 (y3.toNat : Int):=by have e : [c3] = [.int .u32 (y3.toNat : Int)]:=a3; simpa using e
  obtain ⟨y4,a4,_,b4,i4⟩:=r4 n [c4] x4.1 x4.2 (by have e:=hf 4 _ g4.1; rw [g4.2.1,g4.2.2] at e; exact e)
  have b4 : 1 ≤ B.one x4.1:=b4
  obtain rfl : c4 = .int .u32 (y4.toNat : Int):=by have e : [c4] = [.int .u32 (y4.toNat : Int)]:=a4; simpa using e
  refine ⟨⟨y0,y1,y2,y3,y4⟩,rfl,rfl,?_,⟨i0,i1,i2,i3,i4⟩⟩
  simp only [Prod.mk.injEq] at hx
  rw [hx.1,B.hagg]
  simp only [List.map_cons,List.map_nil,B.hcons,B.hnil,big_Ptr]
  omega

end
end Go.Ow

/-
  What is proved here: a law's arguments, as data that lie in the memory; from the walk of a law that is true to its contract.
-/
namespace Go.Ow
open Go.ChangeShapes Go.WideShapes Go.ChangeAt Go.RowKit
set_option linter.unusedVariables false
set_option linter.unusedSimpArgs false
section
variable {H : Type} {enc : TypeId × Value → H} {P : Program} {W : World} {B : Bulk H} {r : Reach} {b0 : Nat} {t : TypeId} {v : Value} {d : DataW H} {ps : List MemPlace}

theorem arg_slice {α : Type} {e : TypeId} {R : Rep α} {size : Nat} {big : α → Nat} {I : α → Prop} (ht : P.underlying t = some (.slice e)) (hc : P.cellsOf e = size) (hpos : 0 < size) (he : Reads enc P W B e R size big I)
    (hval : Value.okWide P W r b0 t v) (hd : DataW.Trod enc P W 0 (fun _ => true) true t v d ps) :
    ∃ ao n cap,v = .slice ao n cap ∧ ∃ l,IsSlice (HW W) R size (.slice ao n cap) l ∧ bigs big l ≤ B.one d ∧ ∀ x ∈ l,I x:=by
  obtain ⟨a,n,cap,rfl⟩:=okWide_slice ht hval
  obtain ⟨fuel,hf⟩:=hd
  obtain ⟨ao,n',cap',e1,l,h1,h2,h3⟩:=reads_slice (B:=B) ht hc hpos he fuel _ d ps hf
  have e2 : Value.slice a n cap = .slice ao n' cap':=by simpa [Value.cells] using e1
  exact ⟨a,n,cap,rfl,l,by rw [e2]; exact h1,h2,h3⟩
theorem arg_struct {α : Type} {fs : Array Field} {R : Rep α} {size : Nat} {big : α → Nat} {I : α → Prop} (ht : P.underlying t = some (.struct fs)) (he : Reads enc P W B t R size big I)
    (hval : Value.okWide P W r b0 t v) (hd : DataW.Trod enc P W 0 (fun _ => true) true t v d ps) :
    ∃ cs : Array Value,v = .agg cs ∧ ∃ x,R (HW W) cs.toList x ∧ big x ≤ B.one d ∧ I x:=by
  obtain ⟨cs,rfl,_⟩:=okWide_struct ht hval
  obtain ⟨fuel,hf⟩:=hd
  obtain ⟨x,h1,h2,h3,h4⟩:=he fuel _ d ps hf
  exact ⟨cs,rfl,x,by simpa [Value.cells] using h1,h3,h4⟩
theorem trodAll_below (hl : laidOutB P = true) {W' : World} {sp : Nat → Bool} (hb : Below W.heap.size W W') : ∀ {ts : List TypeId} {vs : List Value} {ds : List (DataW H)} {ps : List MemPlace},
    ts.all (fun t => P.readableRec t && decide (t < P.types.size)) = true → DataW.TrodAll enc P W 0 (fun _ => true) true ts vs ds ps → (∀ p ∈ ps,p.block < W.heap.size) → (∀ p ∈ ps,sp p.block = true) →
    DataW.TrodAll enc P W' 0 sp true ts vs ds ps
  | [],_,_,_,_,h,_,_ => by
    obtain ⟨rfl,rfl,rfl⟩:=trodAll_nil h
    exact trodAll_mk0
  | t :: ts,_,_,_,hr,h,hlt,hs => by
    obtain ⟨v,vs,d,ds,p,q,rfl,rfl,rfl,h1,h2⟩:=trodAll_cons h
    simp only [List.all_cons,Bool.and_eq_true,decide_eq_true_eq] at hr
    refine trodAll_cons_mk (WideElems.Trod_stays hl hr.1.1 hr.1.2 h1 (fun x hx => hb.same (hlt x (by simp [hx]))) (fun x hx => hs x (by simp [hx]))) ?_
    exact trodAll_below hl hb (by simpa using hr.2) h2 (fun x hx => hlt x (by simp [hx])) (fun x hx => hs x (by simp [hx]))

theorem lift_true {fid : FuncId} {fn : Func} {s : ChangeSpec} {args : Array Value} {ds gs : List (DataW H)} {before : List MemPlace} {tb : TypeId} {R : Value → List Own → Heaplet → Prop} (hl : laidOutB P = true)
    (hrec : fn.params.toList.all (fun t => P.readableRec t && decide (t < P.types.size)) = true) (hres : fn.resultTypes = #[tb]) (htb : P.underlying tb = some .bool) (hv : s.vars = [])
    (hW : DataW.Whole enc P fn.params.toList s.vars false W args.toList ds gs before) (hs : s.fn H (ds ++ gs) = { results:=[.lit (.bool true)],args:=ds })
    (hd : Does P fid args [] (HW W) R) (hR : ∀ u K H',R u K H' → u = .bool true) :
    Calls P fid args W fun e W' => ∃ v,e = .returned v ∧ s.post enc P fn false true false false W args v W':=by
  have h1:=callsIn_wide.1 (hd W (agrees_HW W) ⟨by simp,by simp [ids],by simp⟩)
  refine h1.mono fun e W' ⟨v,K',H',he,hr,hm⟩ => ?_
  obtain rfl:=hR _ _ _ hr
  refine ⟨_,he,?_⟩
  have hb : Below W.heap.size W W':=(show Kept [] W W' from hm.kept).below
  have hlt:=hW.lt
  have hW':=hW
  obtain ⟨p,q,hA,hV,rfl,hfz,hnd⟩:=hW'
  rw [hv] at hV
  obtain ⟨rfl,rfl⟩:=trodVars_none hV
  refine ⟨ds,[],_,[],p,[],hW,?_,?_,?_,hb.frame _,fun h => by cases h⟩
  · rw [hs,hres]
    exact trodAll_cons_mk (shut_bool htb _) trodAll_mk0
  · rw [hs]
    exact trodAll_below hl hb hrec hA (fun x hx => hlt x (by simpa using hx)) (fun x hx => by simpa using hlt x (by simpa using hx))
  · rw [hs,hv]; exact rfl
end
end Go.Ow

/-
  Arrays of a few elements,as plain structures.
-/
namespace Go.Ow
set_option linter.unusedVariables false
set_option linter.unusedSimpArgs false
variable {α β : Type}
structure A2 (α : Type) where
  e0 : α
  e1 : α
instance [Inhabited α] : Inhabited (A2 α):=⟨⟨default,default⟩⟩
def A2.l (x : A2 α) : List α:=[x.e0,x.e1]
theorem A2.len (x : A2 α) : x.l.length = 2:=rfl
def A2.of (d : α) (l : List α) : A2 α:=⟨l.getD 0 d,l.getD 1 d⟩
theorem A2.of_l (d : α) : ∀ (l : List α),l.length = 2 → (A2.of d l).l = l
  | [e0,e1],_ => rfl
def A2.setI (x : A2 α) (i : Int) (y : α) (k : A2 α → Option β) : Option β:=if 0 ≤ i ∧ i.toNat < 2 then k (A2.of y (x.l.set i.toNat y)) else none
theorem A2.setI_some {x : A2 α} {i : Int} {y : α} {k : A2 α → Option β} {r : β} (h : A2.setI x i y k = some r) : ∃ m,m.l = x.l.set i.toNat y ∧ (0 ≤ i ∧ i.toNat < 2) ∧ k m = some r:=by
  unfold A2.setI at h
  split at h
  · exact ⟨_,A2.of_l y _ (by rw [List.length_set]; rfl),by assumption,h⟩
  · cases h
structure A3 (α : Type) where
  e0 : α
  e1 : α
  e2 : α
instance [Inhabited α] : Inhabited (A3 α):=⟨⟨default,default,default⟩⟩
def A3.l (x : A3 α) : List α:=[x.e0,x.e1,x.e2]
theorem A3.len (x : A3 α) : x.l.length = 3:=rfl
def A3.of (d : α) (l : List α) : A3 α:=⟨l.getD 0 d,l.getD 1 d,l.getD 2 d⟩
theorem A3.of_l (d : α) : ∀ (l : List α),l.length = 3 → (A3.of d l).l = l
  | [e0,e1,e2],_ => rfl
def A3.setI (x : A3 α) (i : Int) (y : α) (k : A3 α → Option β) : Option β:=if 0 ≤ i ∧ i.toNat < 3 then k (A3.of y (x.l.set i.toNat y)) else none
theorem A3.setI_some {x : A3 α} {i : Int} {y : α} {k : A3 α → Option β} {r : β} (h : A3.setI x i y k = some r) : ∃ m,m.l = x.l.set i.toNat y ∧ (0 ≤ i ∧ i.toNat < 3) ∧ k m = some r:=by
  unfold A3.setI at h
  split at h
  · exact ⟨_,A3.of_l y _ (by rw [List.length_set]; rfl),by assumption,h⟩
  · cases h
structure A4 (α : Type) where
  e0 : α
  e1 : α
  e2 : α
  e3 : α
instance [Inhabited α] : Inhabited (A4 α):=⟨⟨default,default,default,default⟩⟩
def A4.l (x : A4 α) : List α:=[x.e0,x.e1,x.e2,x.e3]
theorem A4.len (x : A4 α) : x.l.length = 4:=rfl
def A4.of (d : α) (l : List α) : A4 α:=⟨l.getD 0 d,l.getD 1 d,l.getD 2 d,l.getD 3 d⟩
theorem A4.of_l (d : α) : ∀ (l : List α),l.length = 4 → (A4.of d l).l = l
  | [e0,e1,e2,e3],_ => rfl
def A4.setI (x : A4 α) (i : Int) (y : α) (k : A4 α → Option β) : Option β:=if 0 ≤ i ∧ i.toNat < 4 then k (A4.of y (x.l.set i.toNat y)) else none
theorem A4.setI_some {x : A4 α} {i : Int} {y : α} {k : A4 α → Option β} {r : β} (h : A4.setI x i y k = some r) : ∃ m,m.l = x.l.set i.toNat y ∧ (0 ≤ i ∧ i.toNat < 4) ∧ k m = some r:=by
  unfold A4.setI at h
  split at h
  · exact ⟨_,A4.of_l y _ (by rw [List.length_set]; rfl),by assumption,h⟩
  · cases h
structure A5 (α : Type) where
  e0 : α
  e1 : α
  e2 : α
  e3 : α
  e4 : α
instance [Inhabited α] : Inhabited (A5 α):=⟨⟨default,default,default,default,default⟩⟩
def A5.l (x : A5 α) : List α:=[x.e0,x.e1,x.e2,x.e3,x.e4]
theorem A5.len (x : A5 α) : x.l.length = 5:=rfl
def A5.of (d : α) (l : List α) : A5 α:=⟨l.getD 0 d,l.getD 1 d,l.getD 2 d,l.getD 3 d,l.getD 4 d⟩
theorem A5.of_l (d : α) : ∀ (l : List α),l.length = 5 → (A5.of d l).l = l
  | [e0,e1,e2,e3,e4],_ => rfl
def A5.setI (x : A5 α) (i : Int) (y : α) (k : A5 α → Option β) : Option β:=if 0 ≤ i ∧ i.toNat < 5 then k (A5.of y (x.l.set i.toNat y)) else none
theorem A5.setI_some {x : A5 α} {i : Int} {y : α} {k : A5 α → Option β} {r : β} (h : A5.setI x i y k = some r) : ∃ m,m.l = x.l.set i.toNat y ∧ (0 ≤ i ∧ i.toNat < 5) ∧ k m = some r:=by
  unfold A5.setI at h
  split at h
  · exact ⟨_,A5.of_l y _ (by rw [List.length_set]; rfl),by assumption,h⟩
  · cases h
structure A7 (α : Type) where
  e0 : α
  e1 : α
  e2 : α
  e3 : α
  e4 : α
  e5 : α
  e6 : α
instance [Inhabited α] : Inhabited (A7 α):=⟨⟨default,default,default,default,default,default,default⟩⟩
def A7.l (x : A7 α) : List α:=[x.e0,x.e1,x.e2,x.e3,x.e4,x.e5,x.e6]
theorem A7.len (x : A7 α) : x.l.length = 7:=rfl
def A7.of (d : α) (l : List α) : A7 α:=⟨l.getD 0 d,l.getD 1 d,l.getD 2 d,l.getD 3 d,l.getD 4 d,l.getD 5 d,l.getD 6 d⟩
theorem A7.of_l (d : α) : ∀ (l : List α),l.length = 7 → (A7.of d l).l = l
  | [e0,e1,e2,e3,e4,e5,e6],_ => rfl
def A7.setI (x : A7 α) (i : Int) (y : α) (k : A7 α → Option β) : Option β:=if 0 ≤ i ∧ i.toNat < 7 then k (A7.of y (x.l.set i.toNat y)) else none
theorem A7.setI_some {x : A7 α} {i : Int} {y : α} {k : A7 α → Option β} {r : β} (h : A7.setI x i y k = some r) : ∃ m,m.l = x.l.set i.toNat y ∧ (0 ≤ i ∧ i.toNat < 7) ∧ k m = some r:=by
  unfold A7.setI at h
  split at h
  · exact ⟨_,A7.of_l y _ (by rw [List.length_set]; rfl),by assumption,h⟩
  · cases h

structure A12 (α : Type) where
  e0 : α
  e1 : α
  e2 : α
  e3 : α
  e4 : α
  e5 : α
  e6 : α
  e7 : α
  e8 : α
  e9 : α
  e10 : α
  e11 : α
instance [Inhabited α] : Inhabited (A12 α):=⟨⟨default,default,default,default,default,default,default,default,default,default,default,default⟩⟩
def A12.l (x : A12 α) : List α:=[x.e0,x.e1,x.e2,x.e3,x.e4,x.e5,x.e6,x.e7,x.e8,x.e9,x.e10,x.e11]
theorem A12.len (x : A12 α) : x.l.length = 12:=rfl
def A12.of (d : α) (l : List α) : A12 α:=⟨l.getD 0 d,l.getD 1 d,l.getD 2 d,l.getD 3 d,l.getD 4 d,l.getD 5 d,l.getD 6 d,l.getD 7 d,l.getD 8 d,l.getD 9 d,l.getD 10 d,l.getD 11 d⟩
theorem A12.of_l (d : α) : ∀ (l : List α),l.length = 12 → (A12.of d l).l = l
  | [e0,e1,e2,e3,e4,e5,e6,e7,e8,e9,e10,e11],_ => rfl
def A12.first (d : α) (l : List α) (k : A12 α → Option β) : Option β:=if 12 ≤ l.length then k (A12.of d (l.take 12)) else none
structure A16 (α : Type) where
  e0 : α
  e1 : α
  e2 : α
  e3 : α
  e4 : α
  e5 : α
  e6 : α
  e7 : α
  e8 : α
  e9 : α
  e10 : α
  e11 : α
  e12 : α
  e13 : α
  e14 : α
  e15 : α
instance [Inhabited α] : Inhabited (A16 α):=⟨⟨default,default,default,default,default,default,default,default,default,default,default,default,default,default,default,default⟩⟩
def A16.l (x : A16 α) : List α:=[x.e0,x.e1,x.e2,x.e3,x.e4,x.e5,x.e6,x.e7,x.e8,x.e9,x.e10,x.e11,x.e12,x.e13,x.e14,x.e15]
theorem A16.len (x : A16 α) : x.l.length = 16:=rfl
def A16.of (d : α) (l : List α) : A16 α:=⟨l.getD 0 d,l.getD 1 d,l.getD 2 d,l.getD 3 d,l.getD 4 d,l.getD 5 d,l.getD 6 d,l.getD 7 d,l.getD 8 d,l.getD 9 d,l.getD 10 d,l.getD 11 d,l.getD 12 d,l.getD 13 d,l.getD 14 d,l.getD 15 d⟩
theorem A16.of_l (d : α) : ∀ (l : List α),l.length = 16 → (A16.of d l).l = l
  | [e0,e1,e2,e3,e4,e5,e6,e7,e8,e9,e10,e11,e12,e13,e14,e15],_ => rfl
def A16.first (d : α) (l : List α) (k : A16 α → Option β) : Option β:=if 16 ≤ l.length then k (A16.of d (l.take 16)) else none
/-! ### A list in pieces -/
def chunks (n : Nat) : Nat → List α → List (List α)
  | 0,_ => []
  | f + 1,r => match r with
    | [] => []
    | y :: r' => (y :: r').take n :: chunks n f ((y :: r').drop n)
theorem chunks_nil (n f : Nat) : chunks n f ([] : List α) = []:=by cases f <;> rfl
theorem chunks_step {n f : Nat} {r : List α} (h : r ≠ []) : chunks n (f + 1) r = r.take n :: chunks n f (r.drop n):=by
  cases r with
  | nil => exact absurd rfl h
  | cons y r' => rfl
theorem chunks_fuel {n : Nat} (hn : 0 < n) : ∀ {f g : Nat} {r : List α},r.length ≤ f → r.length ≤ g → chunks n f r = chunks n g r
  | 0,g,r,h,_ => by
    have : r = []:=List.length_eq_zero_iff.1 (by omega)
    subst this; rw [chunks_nil,chunks_nil]
  | f + 1,0,r,_,h => by
    have : r = []:=List.length_eq_zero_iff.1 (by omega)
    subst this; rw [chunks_nil,chunks_nil]
  | f + 1,g + 1,r,h1,h2 => by
    by_cases h : r = []
    · subst h; rw [chunks_nil,chunks_nil]
    · rw [chunks_step h,chunks_step h,chunks_fuel hn (f:=f) (g:=g)]
      · have:=List.length_pos_iff.2 h; rw [List.length_drop]; omega
      · have:=List.length_pos_iff.2 h; rw [List.length_drop]; omega

/-! ### What was never touched -/
structure WriteO where
  At : Int
  Data : Option (List UInt8)
instance : Inhabited WriteO:=⟨⟨default,default⟩⟩
def WriteO.w (y : WriteO) : Write:=⟨y.At,y.Data.getD []⟩
def chkN (y : Option α) (k : Option β) : Option β:=match y with
  | none => k
  | some _ => none
theorem chkN_some {y : Option α} {k : Option β} {r : β} (h : chkN y k = some r) : y = none ∧ k = some r:=by
  cases y with
  | none => exact ⟨rfl,h⟩
  | some m => cases h

/-! ### copy -/
def cpy (l : List α) (a : Nat) (m : List α) : List α:=l.take a ++ m ++ l.drop (a + m.length)
def cpyO (l : List α) (lo hi : Int) (m : List α) (k : List α → Option β) : Option β:=if 0 ≤ lo ∧ lo ≤ hi ∧ hi ≤ l.length then k (cpy l lo.toNat (m.take (hi.toNat - lo.toNat))) else none
theorem cpyO_some {l : List α} {lo hi : Int} {m : List α} {k : List α → Option β} {r : β} (h : cpyO l lo hi m k = some r) : ∃ q,q = cpy l lo.toNat (m.take (hi.toNat - lo.toNat)) ∧ (0 ≤ lo ∧ lo ≤ hi ∧ hi ≤ l.length) ∧ k q = some r:=by
  unfold cpyO at h
  split at h
  · exact ⟨_,rfl,by assumption,h⟩
  · cases h
end Go.Ow

/- What is said here: maps from numbers, in plain words: written, laid into a row. -/
namespace Go.Ow
set_option linter.unusedVariables false
set_option linter.unusedSimpArgs false

def putM {α : Type} : List (Int × α) → Int → α → List (Int × α)
  | [],k,y => [(k,y)]
  | p :: r,k,y => if p.1 = k then (k,y) :: r else p :: putM r k y

def layM {α β : Type} (f : α → β) (L : List β) (M : List (Int × α)) : List β:=M.foldl (fun L p => L.set p.1.toNat (f p.2)) L
def layR {α β γ : Type} (f : α → β) (L : List β) (M : List (Int × α)) (k : List β → Option γ) : Option γ:=if ∀ p ∈ M,0 ≤ p.1 ∧ p.1.toNat < L.length then k (layM f L M) else none
theorem layR_some {α β γ : Type} {f : α → β} {L : List β} {M : List (Int × α)} {k : List β → Option γ} {r : γ} (h : layR f L M k = some r) :
    ∃ m,m = layM f L M ∧ (∀ p ∈ M,0 ≤ p.1 ∧ p.1.toNat < L.length) ∧ k m = some r:=by
  unfold layR at h
  split at h
  · rename_i c; exact ⟨_,rfl,c,h⟩
  · cases h


def maxB (a b : UInt8) : UInt8:=if a < b then b else a

def cntB (m : List UInt8) (c : UInt8) : Nat:=m.foldl (fun n x => if x == c then n + 1 else n) 0
def cmpB : List UInt8 → List UInt8 → Int
  | [],[] => 0
  | [],_ :: _ => -1
  | _ :: _,[] => 1
  | a :: as,b :: bs => if a < b then -1 else if b < a then 1 else cmpB as bs
end Go.Ow

/-
  What is proved here: arrays of a few elements, as structures; slices with three bounds; append to a slice that is full; over OwV.
-/
namespace Go.Ow
open Go.RowKit
set_option linter.unusedVariables false
set_option linter.unusedSimpArgs false

variable {x : Cx} {ops : Array Oper} {Q : Exit → Act → World → Prop} {rest : List Oper} {l : Slots} {own : List Own} {H HF : Heaplet}
variable {ty : TypeId} {d : Nat} {pos : String} {aft : Array Edge} {v : Value} {p q : Operand} {t u : TypeId}

/-! ### Arrays -/
theorem R.ixA {T e len : Nat} {g : Bool} {n b o : Nat} {kk : IntKind} (k : Nat) (hu : x.P.underlying T = some (.array len e)) (hs : shapeOf x.P e = some (g,n)) (h1 : evo l p = some (.pointer (some ⟨b,o,none⟩))) (h2 : evo l q = some (.int kk (k : Int))) (hk : Nat.blt k len = true) :
    Runs x (.indexAddr T p q) ty l own H (.pointer (some ⟨b,o + k * n,none⟩)):=by
  have hlt : k < len:=by simpa using hk
  refine fun ρ w _ _ _ _ hρ hm => ?_
  simp only [execOp,hρ _ _ h1,hρ _ _ h2]
  refine run_v ?_
  have h0 : (0 : Int) ≤ (k : Int) ∧ (k : Int) < (len : Int):=⟨by omega,by omega⟩
  simp only [Instr.indexAt,asIntOf,Instr.sureAddr,Sem.run_bind,Sem.run_pure,Result.andThen,run_underlying hu,if_pos h0,run_sizeOf hs,Int.toNat_natCast,add_lit]
theorem R.ixAd {α : Type} {T e len : Nat} {g : Bool} {b o : Nat} {kk : IntKind} {i : Int} {y : α} {L : List α} (hu : x.P.underlying T = some (.array len e)) (hs : shapeOf x.P e = some (g,1)) (h1 : evo l p = some (.pointer (some ⟨b,o,none⟩))) (h2 : evo l q = some (.int kk i)) (hL : L.length = len) (hN : Nth L i y) :
    Runs x (.indexAddr T p q) ty l own H (.pointer (some ⟨b,o + i.toNat,none⟩)):=by
  obtain ⟨h0,hy⟩:=hN
  have hlt : i.toNat < len:=by rw [← hL]; exact (List.getElem?_eq_some_iff.1 hy).1
  refine fun ρ w _ _ _ _ hρ hm => ?_
  simp only [execOp,hρ _ _ h1,hρ _ _ h2]
  refine run_v ?_
  have h0 : (0 : Int) ≤ i ∧ i < (len : Int):=⟨by omega,by omega⟩
  simp only [Instr.indexAt,asIntOf,Instr.sureAddr,Sem.run_bind,Sem.run_pure,Result.andThen,run_underlying hu,if_pos h0,run_sizeOf hs,add_lit,Nat.mul_one]
theorem R.ldoA {α : Type} (j : Nat) {T n b : Nat} {i : Int} {cur : Array Value} {t : TypeId} {fr : Nat × Nat} {enc : α → Value} {y : α} {L : List α} (hs : shapeOf x.P T = some (false,n)) (h1 : evo l p = some (.pointer (some ⟨b,0 + i.toNat,none⟩)))
    (hi : own[j]? = some [(b,.cells cur t fr)]) (hc : cur.toList = L.map enc) (hN : Nth L i y) : Runs x (.load T p) ty l own H (enc y) :=
  R.ldo j hs h1 hi (by rw [hc,Nat.zero_add,List.getElem?_map,hN.2]; rfl)
theorem R.idxA {α : Type} {T e len n : Nat} {kk : IntKind} {i : Int} {cs : Array Value} {enc : α → Value} {y : α} {L : List α} (hu : x.P.underlying T = some (.array len e)) (hs : shapeOf x.P e = some (false,n)) (hn : n = 1) (h1 : evo l p = some (.agg cs)) (h2 : evo l q = some (.int kk i))
    (hL : L.length = len) (hc : cs.toList = L.map enc) (hN : Nth L i y) : Runs x (.index T p q) ty l own H (enc y):=by
  obtain ⟨h0,hy⟩:=hN
  subst hn
  have hlt : i.toNat < len:=by rw [← hL]; exact (List.getElem?_eq_some_iff.1 hy).1
  refine fun ρ w _ _ _ _ hρ hm => ?_
  simp only [execOp,hρ _ _ h1,hρ _ _ h2]
  refine run_v ?_
  have h0 : (0 : Int) ≤ i ∧ i < (len : Int):=⟨by omega,by omega⟩
  have he : cs[i.toNat]? = some (enc y):=by rw [← Array.getElem?_toList,hc,List.getElem?_map,hy]; rfl
  simp only [Instr.index,asIntOf,Sem.run_bind,Sem.run_pure,Result.andThen,run_underlying hu,if_pos h0,run_sizeOf hs,Nat.mul_one,part,run_isAgg hs,Bool.false_eq_true,if_false,he]
theorem R.idxAk {T e len n : Nat} {kk : IntKind} (k : Nat) {cs : Array Value} (hu : x.P.underlying T = some (.array len e)) (hs : shapeOf x.P e = some (false,n)) (hn : n = 1) (h1 : evo l p = some (.agg cs)) (h2 : evo l q = some (.int kk (k : Int)))
    (hk : Nat.blt k len = true) (hv : cs[k]? = some v) : Runs x (.index T p q) ty l own H v:=by
  have hlt : k < len:=by simpa using hk
  subst hn
  refine fun ρ w _ _ _ _ hρ hm => ?_
  simp only [execOp,hρ _ _ h1,hρ _ _ h2]
  refine run_v ?_
  have h0 : (0 : Int) ≤ (k : Int) ∧ (k : Int) < (len : Int):=⟨by omega,by omega⟩
  simp only [Instr.index,asIntOf,Sem.run_bind,Sem.run_pure,Result.andThen,run_underlying hu,if_pos h0,run_sizeOf hs,Nat.mul_one,Int.toNat_natCast,part,run_isAgg hs,Bool.false_eq_true,if_false,hv]
def placesA (P : Program) (T n : Nat) : Option (List (Nat × Nat)):=match P.underlying T with
  | some (.array _ e) => (shapeOf P e).map (fun s => (List.range n).map (fun i => (i * s.2,s.2)))
  | _ => none
theorem fill_congr {f g : Nat → Option (Nat × Nat)} : ∀ {vs : List (Nat × Value)} {cells : Array Value},(∀ p ∈ vs,f p.1 = g p.1) → Instr.fill f cells vs = Instr.fill g cells vs
  | [],_,_ => rfl
  | (i,v) :: r,cells,h => by
    have h0 : f i = g i:=h (i,v) (by simp)
    simp only [Instr.fill,h0]
    cases hg : g i with
    | none => rfl
    | some s =>
      obtain ⟨off,size⟩:=s
      simp only []
      split
      · rfl
      · exact fill_congr (fun p hp => h p (by simp [hp]))
theorem R.bldA {T n : Nat} {parts : Array (Nat × Operand)} {vs : List (Nat × Value)} {z : Value} {places : List (Nat × Nat)} {cells : Array Value} (hz : zeroOf x.P T = some z) (hp : placesA x.P T n = some places)
    (hv : parts.toList.mapM (fun p => (evo l p.2).map (fun u => (p.1,u))) = some vs) (hlt : vs.all (fun p => Nat.blt p.1 n) = true) (hf : vs.all (fits places z.cells.size) = true) (hc : (setAll places z.cells.toList vs).toArray = cells) :
    Runs x (.build T parts) ty l own H (.agg cells):=by
  subst hc
  refine fun ρ w _ _ _ _ hρ hm => ?_
  simp only [execOp]
  have key : ∀ (ps : List (Nat × Operand)) (us : List (Nat × Value)),ps.mapM (fun p => (evo l p.2).map (fun u => (p.1,u))) = some us → ps.map (fun p => (p.1,ρ p.2)) = us:=by
    intro ps
    induction ps with
    | nil => intro us e; simp at e; simp [e]
    | cons p ps ih =>
      intro us e
      simp only [List.mapM_cons,Option.bind_eq_bind,Option.bind_eq_some_iff,Option.map_eq_some_iff] at e
      obtain ⟨b,⟨u,hu,rfl⟩,cs,hcs,e⟩:=e
      simp at e; subst e
      simp [ih cs hcs,hρ _ _ hu]
  have hk:=key _ _ hv
  refine run_v ?_
  have e : parts.map (fun p => (p.1,ρ p.2)) = vs.toArray:=by rw [← Array.toList_inj]; simpa using hk
  have hfill:=fill_one _ _ _ hf
  unfold placesA at hp
  split at hp
  · rename_i ln e' hu
    cases hse : shapeOf x.P e' with
    | none => simp [hse] at hp
    | some s =>
      simp [hse] at hp
      have hfc : Instr.fill (fun i => some (i * s.2,s.2)) z.cells vs = some (setAll places z.cells.toList vs).toArray:=by
        rw [← hfill]
        refine fill_congr (fun p hp' => ?_)
        have:=List.all_eq_true.1 hlt p hp'
        have hlt' : p.1 < n:=by simpa using this
        rw [← hp]; simp [hlt']
      have : (Instr.build T vs.toArray).run x.P w = .ok (.agg (setAll places z.cells.toList vs).toArray) w:=by
        unfold Instr.build
        simp only [Sem.run_bind,run_zeroValue hz,Result.andThen,run_underlying hu,run_sizeOf (g:=s.1) (n:=s.2) hse,hfc,Sem.run_pure]
      first
        | exact (by simpa [e] using this)
        | (rw [show (Array.map _ parts) = vs.toArray from e]; exact this)
  · cases hp

/-! ### Slices with three bounds -/
theorem IsSlice.cutv3 {α : Type} {R : Rep α} {size : Nat} {v : Value} {m m' : List α} {a b c : Int} {HF : Heaplet} (h : IsSlice HF R size v m) (hm : m' = cut m a b) (hab : 0 ≤ a ∧ a ≤ b ∧ b ≤ c ∧ c ≤ m.length) :
    ∃ v' cap,(∃ ao,v = .slice ao m.length cap ∧ c ≤ cap ∧ v' = sliced ao a.toNat b.toNat c.toNat size) ∧ IsSlice HF R size v' m' ∧ ∃ ao',v' = .slice ao' m'.length (c.toNat - a.toNat):=by
  subst hm
  obtain ⟨ao,cap,rfl,e1,r⟩:=h
  have hs:=IsSlice.sub (ao:=ao) (n:=m.length) (cap:=cap) ⟨ao,cap,rfl,e1,r⟩ a.toNat b.toNat c.toNat (by omega) (by omega) (by omega) (by omega)
  refine ⟨_,cap,⟨ao,rfl,by omega,rfl⟩,by simpa [cut] using hs,?_⟩
  have hl : (cut m a b).length = b.toNat - a.toNat:=by have:=cut_length (l:=m) (a:=a) (b:=b) (by omega) (by omega) (by omega); omega
  unfold sliced
  exact ⟨_,by rw [hl]⟩
theorem IsSlice.cutc {α : Type} {R : Rep α} {size : Nat} {v : Value} {m m' : List α} {a b : Int} {HF : Heaplet} (h : IsSlice HF R size v m) (hm : m' = cut m a b) (hab : 0 ≤ a ∧ a ≤ b ∧ b ≤ m.length) :
    ∃ v' cap ao',(∃ ao,v = .slice ao m.length cap ∧ b ≤ cap ∧ v' = sliced ao a.toNat b.toNat b.toNat size) ∧ v' = .slice ao' m'.length m'.length ∧ IsSlice HF R size v' m':=by
  obtain ⟨v',cap,⟨ao,e,hc,e'⟩,hs,ao',e2⟩:=h.cutv3 (c:=b) hm ⟨hab.1,hab.2.1,Int.le_refl _,hab.2.2⟩
  refine ⟨v',cap,ao',⟨ao,e,hc,e'⟩,?_,hs⟩
  have hl : m'.length = b.toNat - a.toNat:=by subst hm; have:=cut_length (l:=m) (a:=a) (b:=b) (by omega) (by omega) (by omega); omega
  rw [e2,hl]

/-! ### The lesser and the greater of two -/
theorem R.min2 {m n : Int} {ts : Array TypeId} (h1 : evo l p = some (.int .i64 m)) (h2 : evo l q = some (.int .i64 n)) : Runs x (.call ⟨.builtin .min,#[p,q],ts⟩) ty l own H (.int .i64 (min m n)):=fun ρ w _ _ _ _ hρ hm => by
  have e3 : Array.map ρ #[p,q] = #[.int .i64 m,.int .i64 n]:=by simp [hρ _ _ h1,hρ _ _ h2]
  have e : (if n < m then n else m) = min m n:=by omega
  simp only [execOp,resolve,e3,Sem.run_bind,Sem.run_pure,Result.andThen,invoke,builtin,Builtin.min_,List.foldlM_cons,List.foldlM_nil,Builtin.min2,e]
theorem R.max2 {m n : Int} {ts : Array TypeId} (h1 : evo l p = some (.int .i64 m)) (h2 : evo l q = some (.int .i64 n)) : Runs x (.call ⟨.builtin .max,#[p,q],ts⟩) ty l own H (.int .i64 (max m n)):=fun ρ w _ _ _ _ hρ hm => by
  have e3 : Array.map ρ #[p,q] = #[.int .i64 m,.int .i64 n]:=by simp [hρ _ _ h1,hρ _ _ h2]
  have e : (if n > m then n else m) = max m n:=by omega
  have e' : (if m < n then n else m) = max m n:=by omega
  simp only [execOp,resolve,e3,Sem.run_bind,Sem.run_pure,Result.andThen,invoke,builtin,Builtin.max_,List.foldlM_cons,List.foldlM_nil,Builtin.max2]
  first | rw [e'] | rw [e]

/-! ### Lending: what is owned may be looked at by a callee that answers a plain value -/
theorem Lent.row' {α : Type} {R : Rep α} {H0 H2 : Heaplet} {B : Nat} {K : Own} {E : TypeId} {size : Nat} {v : Value} {ls : List α} (i : Nat) (hl : Lent own H2) (hR : R.Mono) (hle : Hle H0 H2) (hi : own[i]? = some K) (hr : RowOf H0 R B E size v ls K) : IsSlice H2 R size v ls :=
  Lent.row hl hR hle hi hr
theorem JL.callL2 {c : Operand} {as : Array Operand} {ts : Array TypeId} {f : FuncId} {vs : List Value} {v : Value}
    (he : Enters x.P f) (hc : evo l c = some (.func (.func f) #[] #[])) (ha : as.toList.mapM (evo l) = some vs)
    (C : ∀ H2,Hle H H2 → Lent own H2 → Does x.P f vs.toArray [] H2 (fun u K H' => u = v)) (hd : Nat.blt d x.n = true) (h : JL x ops Q rest ((d,v) :: l) own H) :
    JL x ops Q (⟨some d,.call ⟨.value c,as,ts⟩,ty,pos,aft,none⟩ :: rest) l own H:=fun a w hh => by
  simp only [wpLs,Zl,if_true]
  refine ⟨fun _ _ => trivial,?_⟩
  have hrun : (execOp a.eval ⟨some d,.call ⟨.value c,as,ts⟩,ty,pos,aft,none⟩).run x.P w = .ok (.enter f vs.toArray) w:=by
    have e1:=Zi hh hc
    have e2:=mapM_eval (fun o u e => Zi hh e) ha
    simp only [execOp,resolve,e1,e2,Deferred.ofValue,Sem.run_bind,Sem.run_pure,Result.andThen,invoke]
    simpa using he _ _
  rw [Zp rfl,hrun]
  have hle:=lend_le hh.mem.ok
  show (_ → _) ∧ CallsIn _ _ _ _ _ _ _
  refine ⟨fun e => by simp [Fw] at e,?_⟩
  refine CallsIn.mono (show CallsIn (Fw x.r) (0 - 1) x.P f _ w _ from C _ hle (lend_lent hh.mem.ok) w (lend_agrees hh.mem.agr hh.mem.ok) ⟨fun p hp => by simp at hp,by simp [ids],fun p hp => by simp at hp⟩) ?_
  rintro e w' ⟨v',K',H',rfl,rfl,hm⟩
  have hm' : Mem w H (ids []) [] H w':=⟨hm.agr.le (hle.trans hm.le),⟨fun p hp => by simp at hp,by simp [ids],fun p hp => by simp at hp⟩,hm.kept,fun p hp => by simp at hp,Hle.refl _,fun _ _ _ => rfl,Mem.soft0⟩
  refine h _ _ (Holds.put (x:=x) (l:=l) ⟨hh.size,hh.ds,hh.slots,?_⟩ hd _)
  simpa using hh.mem.go (K:=[]) (rst:=own.flatten) (by simp) hm'

/-! ### Append to a slice that is full -/
theorem append_full {P : Program} {w : World} {H : Heaplet} {t tx ty E : TypeId} {z : Value} {size bytes : Nat} (hu : P.underlying t = some (.slice E)) (he : eInfo P E = some (z,size,bytes))
    {n m : Nat} {base : Option Addr} {y : Value} {cells news : List Value} (ha : Agrees H w) (h0 : cells.length = n * size) (hold : (Builtin.firstCells size n (.slice base n n)).run P w.drew = .ok cells.toArray w.drew) (hs : Src P size tx y m news w) (hm : 0 < m)
    (h63 : n + m ≤ maxLen) (hb : (n + m) * bytes ≤ 140737488355328) {B : Nat} (hB : B ≤ w.heap.size) :
    ∃ v' K' w',(Builtin.append_ #[t,tx] ty #[.slice base n n,y]).run P w = .ok v' w' ∧ Row B E size v' (cells ++ news) (n + m) K' ∧ Mem w H [] K' H w':=by
  obtain ⟨i,hi,hz,hsz,hby,hzs,hpos⟩:=eInfo_parts he
  subst hsz; subst hby
  have hlen : (cells ++ news).length = (n + m) * i.size:=by rw [List.length_append,h0,hs.newsLen,Nat.add_mul]
  have hg : n < n + m:=by omega
  have hsmall : n + m ≤ 9223372036854775807:=by simp only [maxLen] at h63; omega
  have hrun:=run_append_grow_src (P:=P) w t tx ty E i z hu hi hz base n n cells hold y m news hs hg (by omega) (growslice_fits hg hb)
  have hge:=grownCap_ge w (n + m) n E
  have hcm : grownCap w (n + m) n E ≤ maxLen:=grownCap_le_maxLen w (n + m) n E h63
  obtain ⟨C,hC⟩ : ∃ C,C = (cells ++ news).toArray ++ Builtin.zeroCells z.cells (grownCap w (n + m) n E - (n + m)):=⟨_,rfl⟩
  rw [← hC] at hrun
  refine ⟨_,[(w.heap.size,.cells C E (0,0))],_,hrun,⟨hlen,.inr ⟨w.heap.size,_,C,rfl,rfl,hB,hge,hcm,?_,?_⟩⟩,?_⟩
  · rw [hC]; simp only [Array.size_append,List.size_toArray,size_zeroCells,hzs,hlen,← Nat.add_mul]
    refine Nat.mul_le_mul_right _ ?_; omega
  · rw [hC]; simp only [Array.toList_append,List.append_assoc,List.toList_toArray]
    rw [← List.append_assoc,← hlen]; exact List.take_left
  · have h:=Mem.alloc (w:=w.drew) (H:=H) (fun b o v e => ha b o v e) (.cells C E (0,0))
    exact ⟨h.agr,h.ok,⟨h.kept.os,h.kept.tape,h.kept.output,h.kept.size,Nat.le_trans (Nat.le_succ _) h.kept.drawn,h.kept.block⟩,h.fresh,h.le,h.grow,h.soft⟩
theorem JL.appC {α : Type} {R : Rep α} {tx E : TypeId} {z y : Value} {size bytes n : Nat} {ao : Option Addr} {ls ms rs : List α} {H1 : Heaplet} (hu : x.P.underlying t = some (.slice E)) (he : eInfo x.P E = some (z,size,bytes))
    (h1 : evo l p = some (.slice ao n n)) (hR1 : R.One) (hle : Hle H1 H) (hs : IsSlice H1 R size (.slice ao n n) ls) (hF : ∀ cs y,R H1 cs y → R HF cs y) (h2 : evo l q = some y) (hsrc : SrcF x H HF own R size tx y ms)
    (hm : ms ≠ []) (hrs : rs = ls ++ ms) (hl : ls.length + ms.length ≤ LIM) (hb : Nat.ble bytes 128 = true) (hd : Nat.blt d x.n = true)
    (h : ∀ v' K',RowOf HF R x.w0.heap.size E size v' rs K' → JL x ops Q rest ((d,v') :: l) (K' :: own) H) :
    JL x ops Q (⟨some d,.call ⟨.builtin .append,#[p,q],#[t,tx]⟩,ty,pos,aft,none⟩ :: rest) l own H:=fun a w hh => by
  subst hrs
  simp only [wpLs,Zl,if_true]
  refine ⟨fun _ _ => trivial,?_⟩
  obtain ⟨cells,hf,ao',cap',ev,hc⟩:=hs.cells
  simp only [Value.slice.injEq] at ev
  obtain ⟨rfl,rfl,-⟩:=ev
  obtain ⟨news,hfn,honen,hsr⟩:=hsrc
  have hlen : cells.length = ls.length * size:=hf.length
  have hold : (Builtin.firstCells size ls.length (.slice ao ls.length ls.length)).run x.P w.drew = .ok cells.toArray w.drew:=by
    rcases hc with rfl | ⟨b,o,rfl,hc⟩
    · simp only [Flat] at hf; subst hf
      cases ao with
      | none => simp [Builtin.firstCells,go_sem]
      | some a => exact run_firstCells_some (P:=x.P) w.drew size 0 a 0 0 [] (by simp) (fun j u h => by simp at h)
    · exact run_firstCells_some (P:=x.P) w.drew size ls.length ⟨b,o,none⟩ ls.length ls.length cells hlen (fun j u h => by
        rw [add_lit]; exact hh.mem.agr _ _ _ (hle _ _ _ (hc j u h)))
  have hmp : 0 < ms.length:=List.length_pos_iff.2 hm
  obtain ⟨v',K',w',hrun,hrow',hmem⟩:=append_full (ty:=ty) hu he hh.mem.agr hlen hold (hsr w hh.mem) hmp (lim_max hl) (lim_bytes hl hb) hh.mem.kept.size
  have hrun' : (execOp a.eval ⟨some d,.call ⟨.builtin .append,#[p,q],#[t,tx]⟩,ty,pos,aft,none⟩).run x.P w = .ok (.value v') w':=by
    have e1:=Zi hh h1
    have e2:=Zi hh h2
    have : (execOp a.eval ⟨some d,.call ⟨.builtin .append,#[p,q],#[t,tx]⟩,ty,pos,aft,none⟩).run x.P w = ((Builtin.append_ #[t,tx] ty #[.slice ao ls.length ls.length,y]).run x.P w).andThen (fun r w'' => .ok (.value r) w''):=by
      generalize a.eval = ρ at e1 e2
      have e3 : Array.map ρ #[p,q] = #[.slice ao ls.length ls.length,y]:=by simp [e1,e2]
      simp only [execOp,resolve,e3,Sem.run_bind,Sem.run_pure,Result.andThen,invoke,builtin]
    rw [this,hrun]; rfl
  rw [Zp rfl,hrun']
  refine h v' K' ⟨cells ++ news,by simpa using hrow',Flat.append hfn (hf.conv hF),fun u hu => (List.mem_append.1 hu).elim (hf.one' hR1 u) (honen u)⟩ _ _ (Holds.put (x:=x) (l:=l) ⟨hh.size,hh.ds,hh.slots,?_⟩ hd v')
  simpa using hh.mem.go0 (K':=[K']) (by simpa using hmem)

/-! ### Append of zeros to an own row -/
theorem append_zrow {P : Program} {w : World} {H : Heaplet} {t tn ty E : TypeId} {kn : IntKind} {z : Value} {size bytes : Nat} (hu : P.underlying t = some (.slice E)) (hun : P.underlying tn = some (.int kn)) (he : eInfo P E = some (z,size,bytes))
    {B n N : Nat} {v : Value} {cells : List Value} {K : Own} (ha : Agrees H w) (hk : OwnOk H K w) (hr : Row B E size v cells n K) (hone : oneCells z.cells.toList)
    (hl : n + N ≤ LIM) (hbb : Nat.ble bytes 128 = true) (hB : B ≤ w.heap.size) :
    ∃ v' K' w',(Builtin.append_ #[t,tn] ty #[v,.int .i64 (N : Int)]).run P w = .ok v' w' ∧ Row B E size v' (cells ++ (List.replicate N z.cells.toList).flatten) (n + N) K' ∧ Mem w H (ids K) K' H w':=by
  obtain ⟨i,hi,hz,hsz,hby,hzs,hpos⟩:=eInfo_parts he
  subst hsz; subst hby
  obtain ⟨h0,h1⟩:=hr
  have hnl : ((List.replicate N z.cells.toList).flatten).length = N * i.size:=by simp [hzs]
  have hlen : (cells ++ (List.replicate N z.cells.toList).flatten).length = (n + N) * i.size:=by rw [List.length_append,h0,hnl,Nat.add_mul]
  have hw : IntKind.i64.wrap (N : Int) = N:=wi64 (by omega) (by unfold LIM at hl; omega)
  have hneg : ¬ ((N : Int) < 0):=by omega
  have hlb:=lim_bytes hl hbb
  have hlb2 : N * i.bytes ≤ 140737488355328:=Nat.le_trans (Nat.mul_le_mul_right _ (by omega)) hlb
  have h48i : ¬ (281474976710656 < (N : Int) * (i.bytes : Int)):=by rw [← Int.natCast_mul]; omega
  by_cases hm0 : N = 0
  · subst hm0
    have hw0 : IntKind.i64.wrap 0 = 0:=by decide
    refine ⟨v,K,w,?_,⟨by simpa using hlen,by simpa using h1⟩,Mem.same ha hk⟩
    rcases h1 with ⟨rfl,rfl,rfl⟩ | ⟨g,cap,cur,rfl,rfl,e3,e4,e5,e6,e7⟩
    · simp [Builtin.append_,run_underlying hu,run_underlying hun,sizeOf,typeInfo,hi,asInt,asIntOf,hw0,go_sem]
    · have hst : (storeCells ((⟨g,0,none⟩ : Addr).add (n * i.size)) []).run P w = .ok () w:=rfl
      simp [Builtin.append_,run_underlying hu,run_underlying hun,sizeOf,typeInfo,hi,asInt,asIntOf,hw0,e4,hst,go_sem]
  · have hzc : (Builtin.zeroCells z.cells N).toList = (List.replicate N z.cells.toList).flatten:=by
      have:=madeCells_flat z.cells N (by rw [hzs]; exact hpos)
      rw [← this]; simp [Builtin.zeroCells,madeCells]
    have hns : ¬ (N * i.size = 0):=Nat.mul_ne_zero hm0 (by omega)
    have grows : ∀ (base : Option Addr) (sCap : Nat),(Builtin.firstCells i.size n (.slice base n sCap)).run P w.drew = .ok cells.toArray w.drew → sCap < n + N →
        ∃ v' K' w',(Builtin.append_ #[t,tn] ty #[.slice base n sCap,.int .i64 (N : Int)]).run P w = .ok v' w' ∧ Row B E i.size v' (cells ++ (List.replicate N z.cells.toList).flatten) (n + N) K' ∧ Mem w H [] K' H w':=by
      intro base sCap hold hg
      have hrun:=Lib.run_append_grow_zeros (P:=P) w t tn ty E i z .i64 kn hu hun hi hz base n sCap cells hold N (by omega) hpos hg (by unfold LIM at hl; omega) (by omega) (growslice_fits hg hlb)
      have hge:=grownCap_ge w (n + N) sCap E
      have hcm : grownCap w (n + N) sCap E ≤ maxLen:=grownCap_le_maxLen w (n + N) sCap E (lim_max hl)
      obtain ⟨C,hC⟩ : ∃ C,C = cells.toArray ++ Builtin.zeroCells z.cells N ++ Builtin.zeroCells z.cells (grownCap w (n + N) sCap E - (n + N)):=⟨_,rfl⟩
      rw [← hC] at hrun
      refine ⟨_,[(w.heap.size,.cells C E (0,0))],_,hrun,⟨hlen,.inr ⟨w.heap.size,_,C,rfl,rfl,hB,hge,hcm,?_,?_⟩⟩,?_⟩
      · rw [hC]; simp only [Array.size_append,List.size_toArray,size_zeroCells,hzs,h0,← Nat.add_mul]
        refine Nat.mul_le_mul_right _ ?_; omega
      · rw [hC]; simp only [Array.toList_append,List.append_assoc,List.toList_toArray,hzc]
        rw [← List.append_assoc,← hlen]; exact List.take_left
      · have h:=Mem.alloc (w:=w.drew) (H:=H) (fun b o v e => ha b o v e) (.cells C E (0,0))
        exact ⟨h.agr,h.ok,⟨h.kept.os,h.kept.tape,h.kept.output,h.kept.size,Nat.le_trans (Nat.le_succ _) h.kept.drawn,h.kept.block⟩,h.fresh,h.le,h.grow,h.soft⟩
    rcases h1 with ⟨rfl,rfl,rfl⟩ | ⟨g,cap,cur,rfl,rfl,e3,e4,e5,e6,e7⟩
    · have hc : cells = []:=List.length_eq_zero_iff.1 (by rw [h0]; simp)
      subst hc
      obtain ⟨v',K',w',r1,r2,r3⟩:=grows none 0 (by simp [Builtin.firstCells,go_sem]) (by omega)
      exact ⟨v',K',w',r1,r2,by simpa [ids] using r3⟩
    · have hg:=hk.here (g,.cells cur E (0,0)) (by simp)
      have hgd : ∀ j u,cells[j]? = some u → w.cell? ((⟨g,0,none⟩ : Addr).add j) = some u:=fun j u hj => by
        rw [add_lit,Nat.zero_add,cell_of_row w g j cur E (0,0) hg]
        rw [← e7,List.getElem?_take] at hj
        split at hj
        · simpa using hj
        · cases hj
      by_cases hroom : n + N ≤ cap
      · have hfit : n * i.size + ((List.replicate N z.cells.toList).flatten).length ≤ cur.size:=by
          rw [hnl,← Nat.add_mul]; exact Nat.le_trans (Nat.mul_le_mul_right _ hroom) e6
        have hone' : ∀ u ∈ (List.replicate N z.cells.toList).flatten,u.oneCell' = true:=fun u hu => by
          obtain ⟨s,hs,hu⟩:=List.mem_flatten.1 hu
          rw [(List.mem_replicate.1 hs).2] at hu; exact hone u hu
        have hst:=run_storeCells_at P g (n * i.size) E (List.replicate N z.cells.toList).flatten 0 cur w hg (by simpa using hfit) hone'
        simp only [Nat.add_zero] at hst
        have hst' : (storeCells (⟨g,n * i.size,none⟩ : Addr) (Builtin.zeroCells z.cells N).toList).run P w = .ok () (w.setRow g (cur.toList.take (n * i.size) ++ (List.replicate N z.cells.toList).flatten ++ cur.toList.drop (n * i.size + ((List.replicate N z.cells.toList).flatten).length)).toArray):=by
          rw [hzc]; exact hst
        obtain ⟨W2,hW2⟩ : ∃ W2,W2 = w.setRow g (cur.toList.take (n * i.size) ++ (List.replicate N z.cells.toList).flatten ++ cur.toList.drop (n * i.size + ((List.replicate N z.cells.toList).flatten).length)).toArray:=⟨_,rfl⟩
        rw [← hW2] at hst'
        have hrun : (Builtin.append_ #[t,tn] ty #[.slice (some ⟨g,0,none⟩) n cap,.int .i64 (N : Int)]).run P w = .ok (.slice (some ⟨g,0,none⟩) (n + N) cap) W2:=by
          simp [Builtin.append_,run_underlying hu,run_underlying hun,sizeOf,typeInfo,zeroValue,hi,hz,asInt,asIntOf,hw,hneg,h48i,hroom,hns,go_sem]
          show ((storeCells (⟨g,n * i.size,none⟩ : Addr) (Builtin.zeroCells z.cells N).toList).run P w).andThen _ = _
          rw [hst']
          rfl
        rw [hW2] at hrun
        obtain ⟨C,hC⟩ : ∃ C,C = (cur.toList.take (n * i.size) ++ (List.replicate N z.cells.toList).flatten ++ cur.toList.drop (n * i.size + ((List.replicate N z.cells.toList).flatten).length)).toArray:=⟨_,rfl⟩
        rw [← hC] at hrun
        refine ⟨_,[(g,.cells C E (0,0))],_,hrun,⟨hlen,.inr ⟨g,cap,C,rfl,rfl,e3,hroom,e5,?_,?_⟩⟩,by simpa [ids] using Mem.setRow ha hg (fun o => hk.apart (g,.cells cur E (0,0)) (by simp) o) _⟩
        · rw [hC]; simp only [List.size_toArray,List.length_append,List.length_take,List.length_drop,Array.length_toList]; omega
        · rw [hC,e7,← hlen]; exact List.take_left
      · have hf:=run_firstCells_some (P:=P) w.drew i.size n ⟨g,0,none⟩ n cap cells h0 (by simpa using hgd)
        obtain ⟨v',K',w',r1,r2,r3⟩:=grows (some ⟨g,0,none⟩) cap hf (by omega)
        refine ⟨v',K',w',r1,r2,⟨r3.agr,r3.ok,⟨r3.kept.os,r3.kept.tape,r3.kept.output,r3.kept.size,r3.kept.drawn,fun k hk' _ => r3.kept.block k hk' (by simp)⟩,fun p hp => .inr ((r3.fresh p hp).resolve_left (by simp)),r3.le,r3.grow,r3.soft⟩⟩
theorem JL.appZR {α : Type} {R : Rep α} (i : Nat) {tn E : TypeId} {z : Value} {size bytes B : Nat} {kn : IntKind} {n : Int} {y : α} {ls rs zs : List α} {K : Own} (hu : x.P.underlying t = some (.slice E)) (hun : x.P.underlying tn = some (.int kn)) (he : eInfo x.P E = some (z,size,bytes))
    (h1 : evo l p = some v) (hi : own[i]? = some K) (hr : RowOf HF R B E size v ls K) (h2 : evo l q = some (.int .i64 n)) (hR : ∀ H,R H z.cells.toList y) (hR1 : R.One) (hzs : zs = List.replicate n.toNat y) (hn : 0 ≤ n ∧ n.toNat ≤ LIM)
    (hrs : rs = ls ++ zs) (hl : ls.length + zs.length ≤ LIM) (hb : Nat.ble bytes 128 = true) (hB : B ≤ x.w0.heap.size) (hd : Nat.blt d x.n = true)
    (h : ∀ v' K',RowOf HF R B E size v' rs K' → JL x ops Q rest ((d,v') :: l) (own.set i K') H) :
    JL x ops Q (⟨some d,.call ⟨.builtin .append,#[p,q],#[t,tn]⟩,ty,pos,aft,none⟩ :: rest) l own H:=fun a w hh => by
  subst hrs; subst hzs
  obtain ⟨N,rfl⟩:=Int.eq_ofNat_of_zero_le hn.1
  simp only [Int.toNat_natCast,List.length_replicate] at h hl
  simp only [wpLs,Zl,if_true]
  refine ⟨fun _ _ => trivial,?_⟩
  obtain ⟨cells,hrow,hf,hone⟩:=hr
  obtain ⟨v',K',w',hrun,hrow',hm⟩:=append_zrow (ty:=ty) hu hun he hh.mem.agr (own_here hh.mem hi) hrow (hR1 _ _ _ (hR HF)) hl hb (Nat.le_trans hB hh.mem.kept.size)
  have hrun' : (execOp a.eval ⟨some d,.call ⟨.builtin .append,#[p,q],#[t,tn]⟩,ty,pos,aft,none⟩).run x.P w = .ok (.value v') w':=by
    have e1:=Zi hh h1
    have e2:=Zi hh h2
    have : (execOp a.eval ⟨some d,.call ⟨.builtin .append,#[p,q],#[t,tn]⟩,ty,pos,aft,none⟩).run x.P w = ((Builtin.append_ #[t,tn] ty #[v,.int .i64 (N : Int)]).run x.P w).andThen (fun r w'' => .ok (.value r) w''):=by
      generalize a.eval = ρ at e1 e2
      have e3 : Array.map ρ #[p,q] = #[v,.int .i64 (N : Int)]:=by simp [e1,e2]
      simp only [execOp,resolve,e3,Sem.run_bind,Sem.run_pure,Result.andThen,invoke,builtin]
    rw [this,hrun]; rfl
  rw [Zp rfl,hrun']
  have hzl : z.cells.toList.length = size:=by
    obtain ⟨i,hi,hz,hsz,hby,hzs,hpos⟩:=eInfo_parts he
    simpa using hzs
  have hfl:=flat_replicate (R:=R) (H:=HF) (size:=size) (hR HF) hzl N
  exact h v' K' ⟨cells ++ (List.replicate N z.cells.toList).flatten,by simpa using hrow',Flat.append hfl hf,fun u hu => (List.mem_append.1 hu).elim (hone u) (hfl.one' hR1 u)⟩ _ _
    (Holds.put (x:=x) (l:=l) ⟨hh.size,hh.ds,hh.slots,hh.mem.go1 hi hm⟩ hd v')

/-! ### Building a structure out of parts, some of them structures -/
def putP (l : List Value) (o : Nat) (cs : List Value) : List Value:=l.take o ++ cs ++ l.drop (o + cs.length)
def setP (places : List (Nat × Nat)) : List Value → List (Nat × Value) → List Value
  | l,[] => l
  | l,(i,v) :: r => setP places (match places[i]? with | some p => putP l p.1 v.cells.toList | none => l) r
def fitsP (places : List (Nat × Nat)) (n : Nat) (p : Nat × Value) : Bool:=match places[p.1]? with | some q => Nat.beq q.2 p.2.cells.toList.length && Nat.ble (q.1 + p.2.cells.toList.length) n | none => false
theorem fold_put (off : Nat) : ∀ (cs : List Value) (k : Nat) (a : Array Value),off + k + cs.length ≤ a.size →
    (cs.zipIdx k).foldl (fun a p => a.setIfInBounds (off + p.2) p.1) a = (putP a.toList (off + k) cs).toArray
  | [],k,a,_ => by simp [putP]
  | c :: cs,k,a,h => by
    simp only [List.length_cons] at h
    rw [List.zipIdx_cons,List.foldl_cons,fold_put off cs (k + 1) _ (by simp; omega)]
    apply Array.toList_inj.1
    have hlt : off + k < a.toList.length:=by simp; omega
    simp only [putP,Array.toList_setIfInBounds,List.toList_toArray,List.length_cons]
    rw [List.set_eq_take_append_cons_drop,if_pos hlt]
    have hl : (a.toList.take (off + k)).length = off + k:=by rw [List.length_take]; omega
    rw [show off + (k + 1) = (off + k) + 1 by omega]
    have e1 : (a.toList.take (off + k) ++ c :: a.toList.drop (off + k + 1)).take (off + k + 1) = a.toList.take (off + k) ++ [c]:=by
      rw [List.take_append,hl,List.take_of_length_le (by omega)]; simp
    have e2 : (a.toList.take (off + k) ++ c :: a.toList.drop (off + k + 1)).drop (off + k + 1 + cs.length) = a.toList.drop (off + k + (cs.length + 1)):=by
      rw [List.drop_append,hl,List.drop_eq_nil_of_le (by omega),List.nil_append,show off + k + 1 + cs.length - (off + k) = cs.length + 1 by omega,List.drop_succ_cons,List.drop_drop]; congr 1; omega
    rw [e1,e2]; simp
theorem putP_length {l : List Value} {o : Nat} {cs : List Value} (h : o + cs.length ≤ l.length) : (putP l o cs).length = l.length:=by
  simp only [putP,List.length_append,List.length_take,List.length_drop]; omega
theorem fill_putP (places : List (Nat × Nat)) : ∀ (vs : List (Nat × Value)) (cells : Array Value),vs.all (fitsP places cells.size) = true → Instr.fill (places.toArray[·]?) cells vs = some (setP places cells.toList vs).toArray
  | [],cells,_ => by simp [Instr.fill,setP]
  | (i,v) :: r,cells,h => by
    simp only [List.all_cons,Bool.and_eq_true,fitsP] at h
    obtain ⟨h1,h3⟩:=h
    cases hp : places[i]? with
    | none => rw [hp] at h1; cases h1
    | some q =>
      obtain ⟨off,size⟩:=q
      rw [hp] at h1
      simp only [Bool.and_eq_true] at h1
      have e1 : size = v.cells.toList.length:=Nat.eq_of_beq_eq_true h1.1
      have e2 : off + v.cells.toList.length ≤ cells.size:=Nat.le_of_ble_eq_true h1.2
      have e3 : ¬ (v.cells.size ≠ size ∨ off + v.cells.size > cells.size):=by simp only [Array.length_toList] at e1 e2; omega
      have e4 : v.cells.zipIdx.foldl (fun cs (x : Value × Nat) => cs.setIfInBounds (off + x.2) x.1) cells = (putP cells.toList off v.cells.toList).toArray:=by
        rw [← Array.foldl_toList,Array.toList_zipIdx]
        exact fold_put off v.cells.toList 0 cells (by simpa using e2)
      have hsz : (putP cells.toList off v.cells.toList).toArray.size = cells.size:=by
        rw [List.size_toArray,putP_length (by simpa using e2)]; simp
      have ih:=fill_putP places r (putP cells.toList off v.cells.toList).toArray (by rw [hsz]; exact h3)
      have hp' : places.toArray[i]? = some (off,size):=by simpa using hp
      simp only [Instr.fill,hp',setP,hp]
      simp only [decide_eq_true_eq,Bool.or_eq_true,ne_eq,gt_iff_lt] at e3 ⊢
      rw [if_neg (by simpa using e3)]
      rw [show (v.cells.zipIdx.foldl (fun cs x => match x with | (c,j) => cs.setIfInBounds (off + j) c) cells) = (putP cells.toList off v.cells.toList).toArray from e4]
      exact ih
theorem R.bldP {T : TypeId} {parts : Array (Nat × Operand)} {vs : List (Nat × Value)} {z : Value} {places : List (Nat × Nat)} {cs : List Value} (hz : zeroOf x.P T = some z) (hp : placesOf x.P T = some places)
    (hv : parts.toList.mapM (fun p => (evo l p.2).map (fun u => (p.1,u))) = some vs) (hf : vs.all (fitsP places z.cells.toList.length) = true) (hc : setP places z.cells.toList vs = cs) : Runs x (.build T parts) ty l own H (.agg cs.toArray):=by
  subst hc
  exact R.bld hz hp hv (fill_putP places vs z.cells (by simpa using hf))

/-! ### Slices of which it is known whether they were never touched -/
def OSl {α : Type} (H : Heaplet) (R : Rep α) (size : Nat) (v : Value) : Option (List α) → Prop
  | none => v = .slice none 0 0
  | some m => IsSlice H R size v m
def ROSl {α : Type} (R : Rep α) (size : Nat) : Rep (Option (List α)):=fun H cs y => ∃ v,cs = [v] ∧ OSl H R size v y
theorem OSl.mono {α : Type} {R : Rep α} (hR : R.Mono) {size : Nat} {v : Value} {y : Option (List α)} {H' : Heaplet} (h : OSl H R size v y) (hle : Hle H H') : OSl H' R size v y:=by
  cases y with
  | none => exact h
  | some m => exact IsSlice.mono hR hle h
theorem ROSl.mono {α : Type} {R : Rep α} {size : Nat} (hR : R.Mono) : (ROSl R size).Mono:=fun _ _ _ _ hle ⟨v,e,h⟩ => ⟨v,e,h.mono hR hle⟩
theorem OSl.one1 {α : Type} {R : Rep α} {size : Nat} {v : Value} {y : Option (List α)} (h : OSl H R size v y) : v.oneCell' = true:=by
  cases y with
  | none => rw [show v = _ from h]; rfl
  | some m => exact IsSlice.one1 h
theorem ROSl.one {α : Type} {R : Rep α} {size : Nat} : (ROSl R size).One:=fun _ _ _ ⟨v,e,h⟩ => by subst e; intro u hu; simp at hu; subst hu; exact h.one1
theorem OSl.none {α : Type} {R : Rep α} {size : Nat} {v : Value} {y : Option (List α)} (hn : y = .none) (h : OSl H R size v y) : v = .slice .none 0 0:=by subst hn; exact h
theorem OSl.un {α : Type} {R : Rep α} {size : Nat} {v : Value} {y : Option (List α)} (h : OSl H R size v y) : IsSlice H R size v (y.getD []):=by
  cases y with
  | none => rw [show v = _ from h]; exact IsSlice.nil _ _ _
  | some m => exact h
theorem ROSl.un {α : Type} (R : Rep α) (size : Nat) (H : Heaplet) (cs : List Value) (y : Option (List α)) (h : ROSl R size H cs y) : RSl R size H cs (y.getD []):=by
  obtain ⟨v,e,h⟩:=h; exact ⟨v,e,h.un⟩
def R_WriteO : Rep WriteO:=fun H cs y => ∃ v1 : Value,cs = [.int .i64 y.At,v1] ∧ OSl H RU8 1 v1 y.Data
theorem R_WriteO.mono : R_WriteO.Mono:=fun _ _ _ _ hle ⟨v,e,h⟩ => ⟨v,e,h.mono RU8.mono hle⟩
theorem R_WriteO.one : R_WriteO.One:=fun _ _ _ ⟨v,e,h⟩ => by
  subst e; intro u hu; simp only [List.mem_cons,List.not_mem_nil,or_false] at hu
  rcases hu with rfl | rfl <;> first | rfl | exact h.one1
theorem R_WriteO.un (H : Heaplet) (cs : List Value) (y : WriteO) (h : R_WriteO H cs y) : R_Write H cs (WriteO.w y):=by
  obtain ⟨v,e,h⟩:=h; exact ⟨v,e,h.un⟩
theorem Flat.mapR {α β : Type} {R : Rep α} {R' : Rep β} {H1 : Heaplet} (f : α → β) (hR : ∀ cs y,R H1 cs y → R' H1 cs (f y)) {size : Nat} : ∀ {l : List α} {cells : List Value},Flat H1 R size cells l → Flat H1 R' size cells (l.map f)
  | [],cells,h => h
  | y :: r,cells,h => by
    obtain ⟨cs,more,rfl,h1,h2,h3⟩:=h
    exact ⟨cs,more,rfl,h1,hR _ _ h2,Flat.mapR f hR h3⟩
theorem RowOf.mapR {α β : Type} {R : Rep α} {R' : Rep β} {H1 : Heaplet} (f : α → β) (hR : ∀ cs y,R H1 cs y → R' H1 cs (f y)) {B : Nat} {E : TypeId} {size : Nat} {v : Value} {ls : List α} {K : Own} (h : RowOf H1 R B E size v ls K) : RowOf H1 R' B E size v (ls.map f) K:=by
  obtain ⟨cells,h1,h2,h3⟩:=h
  exact ⟨cells,by simpa using h1,h2.mapR f hR,h3⟩

theorem JL.callL3 {c : Operand} {as : Array Operand} {ts : Array TypeId} {f : FuncId} {vs : List Value} {R : Heaplet → Value → List Own → Heaplet → Prop}
    (he : Enters x.P f) (hc : evo l c = some (.func (.func f) #[] #[])) (ha : as.toList.mapM (evo l) = some vs)
    (C : ∀ H2,Hle H H2 → Lent own H2 → Does x.P f vs.toArray [] H2 (R H2)) (hd : Nat.blt d x.n = true)
    (h : ∀ H2 v K' H',R H2 v K' H' → (∀ p ∈ K'.flatten,x.w0.heap.size ≤ p.1) → JL x ops Q rest ((d,v) :: l) (K' ++ own) H) :
    JL x ops Q (⟨some d,.call ⟨.value c,as,ts⟩,ty,pos,aft,none⟩ :: rest) l own H:=fun a w hh => by
  simp only [wpLs,Zl,if_true]
  refine ⟨fun _ _ => trivial,?_⟩
  have hrun : (execOp a.eval ⟨some d,.call ⟨.value c,as,ts⟩,ty,pos,aft,none⟩).run x.P w = .ok (.enter f vs.toArray) w:=by
    have e1:=Zi hh hc
    have e2:=mapM_eval (fun o u e => Zi hh e) ha
    simp only [execOp,resolve,e1,e2,Deferred.ofValue,Sem.run_bind,Sem.run_pure,Result.andThen,invoke]
    simpa using he _ _
  rw [Zp rfl,hrun]
  have hle:=lend_le hh.mem.ok
  show (_ → _) ∧ CallsIn _ _ _ _ _ _ _
  refine ⟨fun e => by simp [Fw] at e,?_⟩
  refine CallsIn.mono (show CallsIn (Fw x.r) (0 - 1) x.P f _ w _ from C _ hle (lend_lent hh.mem.ok) w (lend_agrees hh.mem.agr hh.mem.ok) ⟨fun p hp => by simp at hp,by simp [ids],fun p hp => by simp at hp⟩) ?_
  rintro e w' ⟨v',K',H',rfl,hR,hm⟩
  have hle2:=hle.trans hm.le
  have hm' : Mem w H (ids []) K'.flatten H w':=⟨hm.agr.le hle2,⟨hm.ok.here,hm.ok.nodup,fun p hp o => by
    cases e : H p.1 o with
    | none => rfl
    | some u => have:=hle2 _ _ _ e; rw [hm.ok.apart p hp o] at this; cases this⟩,hm.kept,hm.fresh,Hle.refl _,fun _ _ _ => rfl,Mem.soft0⟩
  refine h _ _ _ _ hR (fun p hp => Nat.le_trans hh.mem.kept.size ((hm.fresh p hp).resolve_left (by simp [ids]))) _ _ (Holds.put (x:=x) (l:=l) ⟨hh.size,hh.ds,hh.slots,?_⟩ hd _)
  rw [List.flatten_append]
  exact hh.mem.go (K:=[]) (rst:=own.flatten) (by simp) hm'
end Go.Ow

/-
  What is proved here: pieces of one block of bytes, named by the rows of a table (a slice of slices that a function has cut out of one piece of memory); over OwX.
-/
namespace Go.Ow
open Go.RowKit
set_option linter.unusedVariables false
set_option linter.unusedSimpArgs false

variable {x : Cx} {ops : Array Oper} {Q : Exit → Act → World → Prop} {rest : List Oper} {l : Slots} {own : List Own} {H HF : Heaplet}
variable {ty : TypeId} {d : Nat} {pos : String} {aft : Array Edge} {v : Value} {p q : Operand} {t u : TypeId}

def RPc (hb : Nat) : Rep (Nat × Nat):=fun _ cs y => ∃ s,cs = [.slice (some ⟨hb,s,none⟩) y.2 y.2] ∧ (y.2 = 0 ∨ s = y.1)
theorem RPc.const (hb : Nat) : (RPc hb).Const:=fun _ _ _ _ h => h
theorem RPc.mono (hb : Nat) : (RPc hb).Mono:=fun _ _ _ _ _ h => h
theorem RPc.one (hb : Nat) : (RPc hb).One:=fun _ _ _ ⟨s,e,_⟩ => by subst e; intro u hu; simp at hu; subst hu; rfl
def offs : Nat → List Nat → List (Nat × Nat)
  | _,[] => []
  | s,n :: r => (s,n) :: offs (s + n) r
theorem offs_length : ∀ (s : Nat) (ns : List Nat),(offs s ns).length = ns.length
  | _,[] => rfl
  | s,n :: r => by simp [offs,offs_length (s + n) r]
theorem offs_append : ∀ (s : Nat) (a b : List Nat),offs s (a ++ b) = offs s a ++ offs (s + a.sum) b
  | s,[],b => by simp [offs]
  | s,n :: r,b => by simp [offs,offs_append (s + n) r b,Nat.add_assoc]
def lens (bs : List (List UInt8)) : List Nat:=bs.map List.length
theorem offs_at : ∀ (bs : List (List UInt8)) (s i : Nat) (b : List UInt8),bs[i]? = some b → (offs s (lens bs))[i]? = some (s + (bs.take i).flatten.length,b.length)
  | [],s,i,b,h => by simp at h
  | c :: r,s,0,b,h => by simp at h; subst h; simp [lens,offs]
  | c :: r,s,i + 1,b,h => by
    have:=offs_at r (s + c.length) i b (by simpa using h)
    simp only [lens,List.map_cons,offs,List.getElem?_cons_succ,List.take_succ_cons,List.flatten_cons,List.length_append] at this ⊢
    rw [this,Nat.add_assoc]
theorem flat_at : ∀ (bs : List (List UInt8)) (i : Nat) (b : List UInt8),bs[i]? = some b → bs.flatten = (bs.take i).flatten ++ b ++ (bs.drop (i + 1)).flatten
  | [],i,b,h => by simp at h
  | c :: r,0,b,h => by simp at h; subst h; simp
  | c :: r,i + 1,b,h => by
    have:=flat_at r i b (by simpa using h)
    simp [this]
theorem set_split : ∀ (bs : List (List UInt8)) (i : Nat) (b c : List UInt8),bs[i]? = some b → bs.set i c = bs.take i ++ c :: bs.drop (i + 1)
  | [],i,b,c,h => by simp at h
  | a :: r,0,b,c,h => by simp
  | a :: r,i + 1,b,c,h => by simp [set_split r i b c (by simpa using h)]
theorem lens_set {bs : List (List UInt8)} {i : Nat} {b c : List UInt8} (h : bs[i]? = some b) (hl : c.length = b.length) : lens (bs.set i c) = lens bs:=by
  unfold lens
  rw [List.map_set]
  apply List.ext_getElem?
  intro j
  rw [List.getElem?_set]
  split
  · rename_i hj
    subst hj
    split
    · simp [h,hl]
    · rename_i hlt; have:=(List.getElem?_eq_some_iff.1 h).1; simp at hlt; omega
  · rfl

def Pcs (B E8 Eb : Nat) (v : Value) (bs : List (List UInt8)) (K : Own) : Prop :=
  ∃ hb Kt,K = Kt ++ [(hb,.cells (bvs bs.flatten).toArray E8 (0,0))] ∧ B ≤ hb ∧ bs.flatten.length ≤ maxLen ∧ RowOf (fun _ _ => none) (RPc hb) B Eb 1 v (offs 0 (lens bs)) Kt
theorem bvs_length (l : List UInt8) : (bvs l).length = l.length:=by simp [bvs]
theorem Pcs.val {B E8 Eb : Nat} {bs : List (List UInt8)} {K : Own} (h : Pcs B E8 Eb v bs K) : ∃ ao cap,v = .slice ao bs.length cap:=by
  obtain ⟨hb,Kt,_,_,_,hr⟩:=h
  obtain ⟨ao,cap,e,_⟩:=hr.len
  exact ⟨ao,cap,by rw [e,offs_length]; simp [lens]⟩
theorem Pcs.long {B E8 Eb : Nat} {bs : List (List UInt8)} {K : Own} (h : Pcs B E8 Eb v bs K) : Long v bs.length:=by
  obtain ⟨ao,cap,e⟩:=h.val; exact ⟨ao,cap,e⟩
theorem Pcs.lenI {B E8 Eb : Nat} {bs : List (List UInt8)} {K : Own} (h : Pcs B E8 Eb v bs K) : (bs.length : Int) ≤ 9223372036854775807:=by
  obtain ⟨hb,Kt,_,_,_,hr⟩:=h
  have:=hr.lenI; rw [offs_length] at this; simpa [lens] using this
theorem Pcs.weak {B B' E8 Eb : Nat} (hB : B' ≤ B) {bs : List (List UInt8)} {K : Own} (h : Pcs B E8 Eb v bs K) : Pcs B' E8 Eb v bs K:=by
  obtain ⟨hb,Kt,e,h1,h2,hr⟩:=h
  exact ⟨hb,Kt,e,Nat.le_trans hB h1,h2,ZT hB hr⟩
theorem Pcs.base {B B' E8 Eb : Nat} {bs : List (List UInt8)} {K : Own} (h : Pcs B E8 Eb v bs K) (hB : ∀ p ∈ K,B' ≤ p.1) : Pcs B' E8 Eb v bs K:=by
  obtain ⟨hb,Kt,rfl,h1,h2,hr⟩:=h
  exact ⟨hb,Kt,rfl,hB (hb,.cells (bvs bs.flatten).toArray E8 (0,0)) (by simp),h2,hr.base (fun p hp => hB p (by simp [hp]))⟩
theorem Pcs.ge {B E8 Eb : Nat} {bs : List (List UInt8)} {K : Own} (h : Pcs B E8 Eb v bs K) : ∀ p ∈ K,B ≤ p.1:=by
  obtain ⟨hb,Kt,rfl,h1,h2,hr⟩:=h
  intro p hp
  rcases List.mem_append.1 hp with hp | hp
  · exact hr.ge p hp
  · simp at hp; subst hp; exact h1
theorem newP_ids {N E8 Eb : Nat} {bs : List (List UInt8)} {K : Own} {S : List Nat} (h : Pcs N E8 Eb v bs K) (hS : ∀ i ∈ S,i < N) : ∀ p ∈ K,p.1 ∉ S:=fun p hp hm => by
  have h1:=h.ge p hp; have h2:=hS _ hm; omega

/-! ### The segment in two -/
theorem JL.part {K1 K2 : Own} {i : Nat} (hi : own[i]? = some (K1 ++ K2)) (h : JL x ops Q rest l (K2 :: own.set i K1) H) : JL x ops Q rest l own H:=fun a w hh =>
  h a w ⟨hh.size,hh.ds,hh.slots,hh.mem.perm (by
    simp only [List.flatten_cons]
    refine (flatten_perm hi).trans ?_
    refine List.Perm.trans ?_ ((flatten_set_perm (seg':=K1) hi).symm.append_left K2)
    rw [← List.append_assoc]
    exact (List.perm_append_comm).append_right _)⟩
theorem JN.part {K : Act → World → Prop} {K1 K2 : Own} {i : Nat} (hi : own[i]? = some (K1 ++ K2)) (h : JN x K l (K2 :: own.set i K1) H) : JN x K l own H:=fun a w hh =>
  h a w ⟨hh.size,hh.ds,hh.slots,hh.mem.perm (by
    simp only [List.flatten_cons]
    refine (flatten_perm hi).trans ?_
    refine List.Perm.trans ?_ ((flatten_set_perm (seg':=K1) hi).symm.append_left K2)
    rw [← List.append_assoc]
    exact (List.perm_append_comm).append_right _)⟩
/-! ### A row of the table, as a value -/
theorem Pcs.elem {B E8 Eb : Nat} {bs : List (List UInt8)} {K : Own} {b : List UInt8} {n : Int} (h : Pcs B E8 Eb v bs K) (hN : Nth bs n b) :
    ∃ g o cur K',K = [(g,.cells cur Eb (0,0))] ++ K' ∧ ElemAt v 1 n g o ∧ ∃ hb s,cur.toList[o]? = some (.slice (some ⟨hb,s,none⟩) b.length b.length) ∧ (b.length = 0 ∨ s = (bs.take n.toNat).flatten.length) ∧
      K' = [(hb,.cells (bvs bs.flatten).toArray E8 (0,0))]:=by
  obtain ⟨hb,Kt,rfl,h1,h2,hr⟩:=h
  have hat:=offs_at bs 0 n.toNat b hN.2
  obtain ⟨g,o,cs,cur,hK,hE,hR,hl,hc⟩:=hr.elem (i:=n) ⟨hN.1,hat⟩
  obtain ⟨s,rfl,hs⟩:=hR
  subst hK
  refine ⟨g,o,cur,_,rfl,hE,hb,s,?_,by simpa using hs,rfl⟩
  have:=hc 0 _ rfl
  simpa using this

theorem R.ldM (i : Nat) {T n b o : Nat} {cur : Array Value} {tt : TypeId} {fr : Nat × Nat} {K : Own} (hs : shapeOf x.P T = some (false,n)) (h1 : evo l p = some (.pointer (some ⟨b,o,none⟩)))
    (hi : own[i]? = some K) (hm : (b,Obj.cells cur tt fr) ∈ K) (hc : cur.toList[o]? = some v) : Runs x (.load T p) ty l own H v :=
  fun ρ w _ _ _ _ hρ hst => by
    simp only [execOp,hρ _ _ h1]
    refine run_v (run_load1 hs ?_)
    rw [cell_of_row w b o cur tt fr (hst.2 (b,.cells cur tt fr) (List.mem_flatten.2 ⟨_,List.mem_of_getElem? hi,hm⟩))]
    simpa using hc
def PcAt (K : Own) (E8 : Nat) (bs : List (List UInt8)) (n : Int) (b : List UInt8) (pv : Value) : Prop :=
  ∃ hb s,pv = .slice (some ⟨hb,s,none⟩) b.length b.length ∧ (b.length = 0 ∨ s = (bs.take n.toNat).flatten.length) ∧ ∃ Kt,K = Kt ++ [(hb,Obj.cells (bvs bs.flatten).toArray E8 (0,0))]
theorem Pcs.at {B E8 Eb : Nat} {bs : List (List UInt8)} {K : Own} {b : List UInt8} {n : Int} (h : Pcs B E8 Eb v bs K) (hN : Nth bs n b) :
    ∃ g o cur pv,ElemAt v 1 n g o ∧ (g,Obj.cells cur Eb (0,0)) ∈ K ∧ cur.toList[o]? = some pv ∧ PcAt K E8 bs n b pv:=by
  obtain ⟨g,o,cur,K',rfl,hE,hb,s,hc,hs,rfl⟩:=h.elem hN
  exact ⟨g,o,cur,_,hE,by simp,hc,hb,s,rfl,hs,_,rfl⟩
theorem PcAt.val {K : Own} {E8 : Nat} {bs : List (List UInt8)} {n : Int} {b : List UInt8} {pv : Value} (h : PcAt K E8 bs n b pv) : ∃ ao,pv = .slice ao b.length b.length:=by
  obtain ⟨hb,s,e,_⟩:=h; exact ⟨_,e⟩
theorem Mem.goM {w0 : World} {H0 H H' : Heaplet} {S : List Nat} {own : List Own} {Kt K1 K1' : Own} {i : Nat} {w w' : World} (hm : Mem w0 H0 S own.flatten H w) (hi : own[i]? = some (Kt ++ K1))
    (h : Mem w H (ids K1) K1' H' w') : Mem w0 H0 S (own.set i (Kt ++ K1')).flatten H' w':=by
  have p1 : own.flatten.Perm (K1 ++ (Kt ++ (own.eraseIdx i).flatten)):=by
    refine (flatten_perm hi).trans ?_
    rw [← List.append_assoc]; exact List.perm_append_comm.append_right _
  refine (hm.go p1 h).perm ?_
  refine List.Perm.trans ?_ (flatten_set_perm (seg':=Kt ++ K1') hi).symm
  rw [← List.append_assoc]; exact List.perm_append_comm.append_right _
theorem bvs_append (a b : List UInt8) : bvs (a ++ b) = bvs a ++ bvs b:=by simp [bvs]
theorem bvs_one (l : List UInt8) : ∀ u ∈ bvs l,u.oneCell' = true:=fun u hu => by
  obtain ⟨_,_,rfl⟩:=List.mem_map.1 hu; rfl
theorem last_eq {Kt Ka : Own} {a b : Nat × Obj} (h : Kt ++ [a] = Ka ++ [b]) : Kt = Ka ∧ a = b:=by
  have:=List.append_inj' h rfl
  exact ⟨this.1,by simpa using this.2⟩
theorem Pcs.turned {B E8 Eb : Nat} {bs : List (List UInt8)} {K : Own} {b c : List UInt8} {n : Int} {pv : Value} (h : Pcs B E8 Eb v bs K) (hN : Nth bs n b) (hA : PcAt K E8 bs n b pv) (hl : c.length = b.length) :
    ∃ Kt hb,K = Kt ++ [(hb,.cells (bvs bs.flatten).toArray E8 (0,0))] ∧ Pcs B E8 Eb v (bs.set n.toNat c) (Kt ++ [(hb,.cells (bvs (bs.set n.toNat c).flatten).toArray E8 (0,0))]) ∧
      (b.length = 0 ∨ pv = .slice (some ⟨hb,(bs.take n.toNat).flatten.length,none⟩) b.length b.length) ∧ ∃ s,pv = .slice (some ⟨hb,s,none⟩) b.length b.length:=by
  obtain ⟨hb,Kt,rfl,h1,h2,hr⟩:=h
  obtain ⟨hb',s,rfl,hs,Ka,e⟩:=hA
  obtain ⟨rfl,e2⟩:=last_eq e
  simp only [Prod.mk.injEq] at e2
  obtain ⟨rfl,-⟩:=e2
  have hfl : (bs.set n.toNat c).flatten.length = bs.flatten.length:=by
    rw [set_split bs n.toNat b c hN.2,flat_at bs n.toNat b hN.2]; simp; omega
  refine ⟨Kt,hb,rfl,⟨hb,Kt,rfl,h1,by rw [hfl]; exact h2,by rw [lens_set hN.2 hl]; exact hr⟩,?_,s,rfl⟩
  rcases hs with h0 | rfl
  · exact .inl h0
  · exact .inr rfl
theorem flat_set {bs : List (List UInt8)} {i : Nat} {b c : List UInt8} (h : bs[i]? = some b) (hl : c.length = b.length) :
    bvs (bs.set i c).flatten = (bvs bs.flatten).take (bs.take i).flatten.length ++ bvs c ++ (bvs bs.flatten).drop ((bs.take i).flatten.length + c.length):=by
  rw [set_split bs i b c h,flat_at bs i b h]
  simp only [List.flatten_append,List.flatten_cons,bvs_append]
  have e0 : (bvs (bs.take i).flatten).length = (bs.take i).flatten.length:=bvs_length _
  generalize bvs (bs.take i).flatten = A at e0
  generalize (bs.take i).flatten.length = k at e0
  subst e0
  generalize bvs (bs.drop (i + 1)).flatten = C
  rw [List.append_assoc A,List.take_left,List.drop_append,List.drop_eq_nil_of_le (as:=A) (by omega),List.nil_append,show A.length + c.length - A.length = (bvs b).length by rw [bvs_length]; omega,List.drop_left]
  simp
theorem JL.copyP (i : Nat) {tx E8 Eb B : Nat} {g : Bool} {K : Own} {bs : List (List UInt8)} {b m : List UInt8} {n : Int} {vp pv y : Value} {H1 : Heaplet} (hu : x.P.underlying t = some (.slice E8)) (hsz : shapeOf x.P E8 = some (g,1)) (hi : own[i]? = some K) (hP : Pcs B E8 Eb vp bs K) (hN : Nth bs n b) (hA : PcAt K E8 bs n b pv)
    (h1 : evo l p = some pv) (h2 : evo l q = some y) (hle : Hle H1 H) (hs : IsSlice H1 RU8 1 y m) (hl : m.length = b.length) (hd : Nat.blt d x.n = true)
    (h : ∀ K',Pcs B E8 Eb vp (bs.set n.toNat m) K' → JL x ops Q rest ((d,.int .i64 (m.length : Int)) :: l) (own.set i K') H) :
    JL x ops Q (⟨some d,.call ⟨.builtin .copy,#[p,q],#[t,tx]⟩,ty,pos,aft,none⟩ :: rest) l own H:=fun a w hh => by
  have e1:=Zi hh h1
  have e2:=Zi hh h2
  simp only [wpLs,Zl,if_true]
  refine ⟨fun _ _ => trivial,?_⟩
  have base : ∀ v' w',(Builtin.copy_ #[t,tx] ty #[pv,y]).run x.P w = .ok v' w' →
      (execOp a.eval ⟨some d,.call ⟨.builtin .copy,#[p,q],#[t,tx]⟩,ty,pos,aft,none⟩).run x.P w = .ok (.value v') w':=fun v' w' hr => by
    generalize a.eval = ρ at e1 e2
    have e3 : Array.map ρ #[p,q] = #[pv,y]:=by simp [e1,e2]
    simp only [execOp,resolve,e3,Sem.run_bind,Sem.run_pure,Result.andThen,invoke,builtin,hr]
  obtain ⟨Kt,hb,rfl,hP',hcase,s,rfl⟩:=hP.turned hN hA hl
  obtain ⟨cells,hf,ao,cap,rfl,hc⟩:=hs.cells
  have hcb : cells = bvs m:=hf.of_u8
  subst hcb
  have hfc : (Builtin.firstCells 1 m.length (.slice ao m.length cap)).run x.P w = .ok (bvs m).toArray w:=by
    rcases hc with rfl | ⟨b',o,rfl,hc⟩
    · cases ao with
      | none => simp [Builtin.firstCells,go_sem,bvs]
      | some a => exact run_firstCells_some (P:=x.P) w 1 0 a 0 cap [] (by simp) (fun j u h => by simp at h)
    · exact run_firstCells_some (P:=x.P) w 1 m.length ⟨b',o,none⟩ m.length cap (bvs m) (by simp [bvs]) (fun j u h => by rw [add_lit]; exact hh.mem.agr _ _ _ (hle _ _ _ (hc j u h)))
  have hin:=own_here hh.mem hi
  have hbk:=hin.here (hb,.cells (bvs bs.flatten).toArray E8 (0,0)) (by simp)
  have hap : ∀ o,H hb o = none:=fun o => hin.apart (hb,.cells (bvs bs.flatten).toArray E8 (0,0)) (by simp) o
  have hso : (Go.sizeOf E8).run x.P w = .ok 1 w:=run_sizeOf hsz w
  by_cases h0 : m.length = 0
  · have hm0 : m = []:=List.length_eq_zero_iff.1 h0
    subst hm0
    have hb0 : b = []:=List.length_eq_zero_iff.1 (by simpa using hl.symm)
    subst hb0
    have hset : bs.set n.toNat [] = bs:=by
      apply List.ext_getElem?
      intro j
      rw [List.getElem?_set]
      split
      · rename_i hj; subst hj; split
        · exact hN.2.symm
        · rename_i hlt; have:=(List.getElem?_eq_some_iff.1 hN.2).1; omega
      · rfl
    have hr : (Builtin.copy_ #[t,tx] ty #[.slice (some ⟨hb,s,none⟩) 0 0,.slice ao 0 cap]).run x.P w = .ok (.int .i64 0) w:=by
      have hfc' : (Builtin.firstCells 1 0 (.slice ao 0 cap)).run x.P w = .ok #[] w:=hfc
      have hst : (storeCells ⟨hb,s,none⟩ []).run x.P w = .ok () w:=rfl
      have hmn : Nat.min 0 0 = 0:=rfl
      simp [Builtin.copy_,run_underlying hu,Builtin.lenOf,hso,hfc',hst,hmn,goInt,Sem.run_bind,Sem.run_pure,Result.andThen]
    rw [Zp rfl,base _ _ hr]
    have hx:=h _ hP'
    rw [hset] at hx
    have e8 : own.set i (Kt ++ [(hb,.cells (bvs bs.flatten).toArray E8 (0,0))]) = own:=by
      apply List.ext_getElem?
      intro j
      rw [List.getElem?_set]
      split
      · rename_i hj; subst hj; rw [hi]; split
        · rfl
        · rename_i hlt; have:=(List.getElem?_eq_some_iff.1 hi).1; omega
      · rfl
    rw [e8] at hx
    exact hx _ _ (Holds.put (x:=x) (l:=l) ⟨hh.size,hh.ds,hh.slots,hh.mem⟩ hd _)
  · have hpv : (⟨hb,s,none⟩ : Addr) = ⟨hb,(bs.take n.toNat).flatten.length,none⟩:=by
      rcases hcase with h' | h'
      · omega
      · simp only [Value.slice.injEq,Option.some.injEq] at h'; exact h'.1
    have hfit : (bs.take n.toNat).flatten.length + 0 + (bvs m).length ≤ (bvs bs.flatten).toArray.size:=by
      rw [List.size_toArray,bvs_length,bvs_length,flat_at bs n.toNat b hN.2]; simp; omega
    have hst:=run_storeCells_at x.P hb (bs.take n.toNat).flatten.length E8 (bvs m) 0 (bvs bs.flatten).toArray w hbk hfit (bvs_one m)
    simp only [Nat.add_zero] at hst
    have hcur : ((bvs bs.flatten).toArray.toList.take (bs.take n.toNat).flatten.length ++ bvs m ++ (bvs bs.flatten).toArray.toList.drop ((bs.take n.toNat).flatten.length + (bvs m).length)).toArray = (bvs (bs.set n.toNat m).flatten).toArray:=by
      rw [flat_set hN.2 hl,bvs_length,List.toList_toArray]
    rw [hcur] at hst
    obtain ⟨W2,hW2⟩ : ∃ W2,W2 = w.setRow hb (bvs (bs.set n.toNat m).flatten).toArray:=⟨_,rfl⟩
    rw [← hW2] at hst
    have hr : (Builtin.copy_ #[t,tx] ty #[.slice (some ⟨hb,s,none⟩) b.length b.length,.slice ao m.length cap]).run x.P w = .ok (.int .i64 (m.length : Int)) W2:=by
      rw [hpv]
      generalize (bs.take n.toNat).flatten.length = k at hst
      have hmin' : Nat.min m.length b.length = m.length:=by rw [hl]; exact Nat.min_self _
      generalize m.length = N at hfc hmin' ⊢
      generalize b.length = M at hmin' ⊢
      simp [Builtin.copy_,run_underlying hu,Builtin.lenOf,hso,hfc,hst,goInt,hmin',Sem.run_bind,Sem.run_pure,Result.andThen]
    rw [hW2] at hr
    rw [Zp rfl,base _ _ hr]
    refine h _ hP' _ _ (Holds.put (x:=x) (l:=l) ⟨hh.size,hh.ds,hh.slots,?_⟩ hd _)
    exact hh.mem.goM hi (by simpa [ids] using Mem.setRow hh.mem.agr hbk hap (bvs (bs.set n.toNat m).flatten).toArray)

/-! ### Bytes of a piece -/
theorem ElemAt.slc {g hb s o len cap : Nat} {k : Int} (h : ElemAt (.slice (some ⟨hb,s,none⟩) len cap) 1 k g o) : g = hb ∧ o = s + k.toNat ∧ k.toNat < len ∧ 0 ≤ k:=by
  obtain ⟨h0,o0,len',cap',e,rfl,hlt⟩:=h
  simp only [Value.slice.injEq,Option.some.injEq,Addr.mk.injEq] at e
  obtain ⟨⟨rfl,rfl,-⟩,rfl,rfl⟩:=e
  exact ⟨rfl,by omega,hlt,h0⟩
theorem PcAt.elem {K : Own} {E8 : Nat} {bs : List (List UInt8)} {n k : Int} {b : List UInt8} {pv : Value} (h : PcAt K E8 bs n b pv) (hk : 0 ≤ k ∧ k.toNat < b.length) : ∃ g o,ElemAt pv 1 k g o:=by
  obtain ⟨hb,s,rfl,_⟩:=h
  exact ⟨hb,_,hk.1,s,_,_,rfl,rfl,hk.2⟩
theorem PcAt.cell {K : Own} {E8 g o : Nat} {bs : List (List UInt8)} {n k : Int} {b : List UInt8} {y : UInt8} {pv : Value} (h : PcAt K E8 bs n b pv) (hN : Nth bs n b) (hy : Nth b k y) (hE : ElemAt pv 1 k g o) :
    (g,Obj.cells (bvs bs.flatten).toArray E8 (0,0)) ∈ K ∧ (bvs bs.flatten).toArray.toList[o]? = some (.int .u8 (y.toNat : Int)):=by
  obtain ⟨hb,s,rfl,hs,Kt,rfl⟩:=h
  obtain ⟨rfl,rfl,hlt,h0⟩:=hE.slc
  refine ⟨by simp,?_⟩
  have hs' : s = (bs.take n.toNat).flatten.length:=by rcases hs with h | h <;> omega
  rw [List.toList_toArray,flat_at bs n.toNat b hN.2,bvs_append,bvs_append,List.append_assoc,List.getElem?_append_right (by rw [bvs_length]; omega),bvs_length,hs',
    show (bs.take n.toNat).flatten.length + k.toNat - (bs.take n.toNat).flatten.length = k.toNat by omega,List.getElem?_append_left (by rw [bvs_length]; exact hlt)]
  simp [bvs,hy.2]
/-! ### Publishing -/
theorem Flat.mapM {α β : Type} {R : Rep α} {R' : Rep β} {H1 H2 : Heaplet} (f : α → β) {size : Nat} : ∀ {l : List α} {cells : List Value},(∀ y ∈ l,∀ cs,R H1 cs y → R' H2 cs (f y)) → Flat H1 R size cells l → Flat H2 R' size cells (l.map f)
  | [],cells,_,h => h
  | y :: r,cells,hR,h => by
    obtain ⟨cs,more,rfl,h1,h2,h3⟩:=h
    exact ⟨cs,more,rfl,h1,hR y (by simp) _ h2,Flat.mapM f (fun z hz => hR z (by simp [hz])) h3⟩
theorem offs_mem : ∀ (bs : List (List UInt8)) (s : Nat) (y : Nat × Nat),y ∈ offs s (lens bs) → s ≤ y.1 ∧ y.1 + y.2 ≤ s + bs.flatten.length
  | [],s,y,h => by simp [lens,offs] at h
  | b :: r,s,y,h => by
    simp only [lens,List.map_cons,offs,List.mem_cons] at h
    simp only [List.flatten_cons,List.length_append]
    rcases h with rfl | h
    · exact ⟨Nat.le_refl _,by simp only; omega⟩
    · have:=offs_mem r (s + b.length) y h; omega
theorem offs_map : ∀ (bs : List (List UInt8)) (pre : List UInt8),(offs pre.length (lens bs)).map (fun y => ((pre ++ bs.flatten).drop y.1).take y.2) = bs
  | [],pre => rfl
  | b :: r,pre => by
    have ih:=offs_map r (pre ++ b)
    simp only [lens,List.map_cons,offs,List.flatten_cons]
    rw [List.length_append] at ih
    rw [show pre ++ (b ++ r.flatten) = pre ++ b ++ r.flatten by simp]
    simp only [lens] at ih
    rw [ih]
    congr 1
    rw [List.append_assoc,List.drop_left,List.take_left]
theorem Holds.pubPcs {i E8 Eb B : Nat} {K : Own} {bs : List (List UInt8)} (hi : own[i]? = some K) (hP : Pcs B E8 Eb v bs K) (hB : x.w0.heap.size ≤ B) {a : Act} {w : World} (hh : Holds x l own H a w) :
    ∃ H',Hle H H' ∧ IsSlice (New x.H0 H') (RSl RU8 1) 1 v bs ∧ Holds x l (own.set i []) H' a w:=by
  obtain ⟨hb,Kt,rfl,h1,h2,hr⟩:=hP
  -- in two
  have hh1 : Holds x l ([(hb,.cells (bvs bs.flatten).toArray E8 (0,0))] :: own.set i Kt) H a w:=⟨hh.size,hh.ds,hh.slots,hh.mem.perm (by
    simp only [List.flatten_cons]
    refine (flatten_perm hi).trans ?_
    refine List.Perm.trans ?_ ((flatten_set_perm (seg':=Kt) hi).symm.append_left _)
    rw [← List.append_assoc]
    exact (List.perm_append_comm).append_right _)⟩
  have hm:=Mem.pub (i:=0) hh1.mem rfl (Nat.le_trans hB h1)
  obtain ⟨H1,hH1⟩ : ∃ H1 : Heaplet,H1 = (fun b o => if b = hb then (bvs bs.flatten).toArray[o]? else H b o):=⟨_,rfl⟩
  rw [← hH1] at hm
  have hgn : ∀ o,H hb o = none:=fun o => (own_here hh1.mem (i:=0) rfl).apart (hb,.cells (bvs bs.flatten).toArray E8 (0,0)) (by simp) o
  have hg0 : ∀ o,x.H0 hb o = none:=fun o => by
    cases h : x.H0 hb o with
    | none => rfl
    | some v => have:=hh.mem.le _ _ _ h; rw [hgn] at this; cases this
  have hle1 : Hle H H1:=fun b o v e => by
    rw [hH1]
    by_cases hb' : b = hb
    · subst hb'; rw [hgn] at e; cases e
    · simp [hb',e]
  have hilt:=(List.getElem?_eq_some_iff.1 hi).1
  have hh2 : Holds x l (own.set i Kt) H1 a w:=⟨hh.size,hh.ds,hh.slots,by simpa using hm⟩
  have hi2 : (own.set i Kt)[i]? = some Kt:=by simp [hilt]
  have hr2 : RowOf (New x.H0 H1) (RSl RU8 1) B Eb 1 v bs Kt:=by
    obtain ⟨cells,g1,g2,g3⟩:=hr
    have hmap:=offs_map bs []
    simp only [List.length_nil,List.nil_append] at hmap
    refine ⟨cells,by rw [offs_length] at g1; simpa [lens] using g1,?_,g3⟩
    have:=Flat.mapM (R':=RSl RU8 1) (H2:=New x.H0 H1) (fun y : Nat × Nat => (bs.flatten.drop y.1).take y.2) (fun y hy cs hR => by
      obtain ⟨s,rfl,hs⟩:=hR
      have hy2:=offs_mem bs 0 y hy
      have hl : ((bs.flatten.drop y.1).take y.2).length = y.2:=by rw [List.length_take,List.length_drop]; omega
      refine ⟨_,rfl,?_⟩
      have hsl:=IsSlice.of_cells (H:=New x.H0 H1) (R:=RU8) (size:=1) (b:=hb) (o:=s) (cap:=y.2) (Flat.bytes ((bs.flatten.drop y.1).take y.2)) (by rw [hl]; exact Nat.le_refl _) (by omega) (fun j u hj => by
        have hj2 : j < y.2:=by have:=(List.getElem?_eq_some_iff.1 hj).1; rw [bvs_length,hl] at this; exact this
        have hs' : s = y.1:=by rcases hs with h | h <;> omega
        subst hs'
        unfold New
        rw [hg0,hH1]
        simp only [if_true]
        unfold bvs at hj ⊢
        rw [List.getElem?_map,List.getElem?_take,if_pos hj2,List.getElem?_drop] at hj
        rw [List.getElem?_toArray,List.getElem?_map]
        exact hj)
      rw [hl] at hsl
      exact hsl) g2
    rw [hmap] at this
    exact this
  obtain ⟨H',h3,h4,h5⟩:=hh2.pubN (RSl.mono RU8.mono) hi2 hr2 hB
  refine ⟨H',hle1.trans h3,h4,?_⟩
  have e : (own.set i Kt).set i [] = own.set i []:=by simp
  rw [e] at h5; exact h5
theorem JN.pubPcs {C : Act → World → Prop} (i : Nat) {E8 Eb B : Nat} {K : Own} {bs : List (List UInt8)} (hi : own[i]? = some K) (hP : Pcs B E8 Eb v bs K) (hB : x.w0.heap.size ≤ B)
    (h : ∀ H',Hle H H' → IsSlice (New x.H0 H') (RSl RU8 1) 1 v bs → JN x C l (own.set i []) H') : JN x C l own H:=fun a w hh => by
  obtain ⟨H',h1,h2,h3⟩:=hh.pubPcs hi hP hB; exact h H' h1 h2 a w h3
theorem JL.pubPcs (i : Nat) {E8 Eb B : Nat} {K : Own} {bs : List (List UInt8)} (hi : own[i]? = some K) (hP : Pcs B E8 Eb v bs K) (hB : x.w0.heap.size ≤ B)
    (h : ∀ H',Hle H H' → IsSlice (New x.H0 H') (RSl RU8 1) 1 v bs → JL x ops Q rest l (own.set i []) H') : JL x ops Q rest l own H:=JN.pubPcs (C:=fun a w => wpLs x.P x.r ops Q rest a w) i hi hP hB h
theorem JC.pubPcs {c : Code} (i : Nat) {E8 Eb B : Nat} {K : Own} {bs : List (List UInt8)} (hi : own[i]? = some K) (hP : Pcs B E8 Eb v bs K) (hB : x.w0.heap.size ≤ B)
    (h : ∀ H',Hle H H' → IsSlice (New x.H0 H') (RSl RU8 1) 1 v bs → JC x c Q l (own.set i []) H') : JC x c Q l own H:=JN.pubPcs (C:=fun a w => c.wpIn (Fw x.r) 0 x.P Q a w) i hi hP hB h

/-! ### Memory that is made, to be cut -/
theorem flat_ones : ∀ (N : Nat),(List.replicate N (Value.int .u8 0).cells.toList).flatten = List.replicate N (Value.int .u8 ((0 : UInt8).toNat : Int))
  | 0 => rfl
  | k + 1 => by rw [List.replicate_succ,List.replicate_succ,List.flatten_cons,flat_ones k]; rfl
theorem JL.mkB {E : TypeId} {bytes N : Nat} {kl kc : IntKind} (hu : x.P.underlying t = some (.slice E)) (he : eInfo x.P E = some (.int .u8 0,1,bytes)) (h1 : evo l p = some (.int kl (N : Int))) (h2 : evo l q = some (.int kc (N : Int))) (hN : N ≤ LIM) (hb : Nat.ble bytes 128 = true) (hd : Nat.blt d x.n = true)
    (h : ∀ g,x.w0.heap.size ≤ g → JL x ops Q rest ((d,.slice (some ⟨g,0,none⟩) N N) :: l) ([(g,.cells (bvs (List.replicate N 0)).toArray E (0,0))] :: own) H) : JL x ops Q (⟨some d,.makeSlice t p q,ty,pos,aft,none⟩ :: rest) l own H:=fun a w hh => by
  simp only [wpLs,Zl,if_true]
  refine ⟨fun _ _ => trivial,?_⟩
  obtain ⟨i,hi,hz,hsz,hby,hzs,hpos⟩:=eInfo_parts he
  subst hby
  have hlb:=lim_bytes hN hb
  have hb' : (i.bytes : Int) * (N : Int) ≤ 281474976710656:=by
    have h : ((i.bytes * N : Nat) : Int) ≤ 281474976710656:=by rw [Nat.mul_comm]; omega
    rwa [Int.natCast_mul] at h
  have hrun:=run_make (P:=x.P) w t E i (.int .u8 0) hu hi hz kl kc N N (by omega) (Int.le_refl _) hb' (by have:=lim_max hN; simp only [maxLen] at this; omega)
  simp only [Int.toNat_natCast,hsz,Nat.mul_one] at hrun
  have e1:=Zi hh h1
  have e2:=Zi hh h2
  generalize a.eval = ρ at e1 e2
  have hmc : madeCells (Value.int .u8 0).cells N = (bvs (List.replicate N 0)).toArray:=by
    apply Array.toList_inj.1
    have:=madeCells_flat (Value.int .u8 0).cells N (by decide)
    have e : (Value.int .u8 0).cells.size = 1:=rfl
    rw [e,Nat.mul_one] at this
    rw [this]
    simp only [bvs,List.map_replicate,List.toList_toArray]
    exact flat_ones N
  have hrun' : (execOp ρ ⟨some d,.makeSlice t p q,ty,pos,aft,none⟩).run x.P w = .ok (.value (.slice (some ⟨w.heap.size,0,none⟩) N N)) (w.alloc (.cells (bvs (List.replicate N 0)).toArray E)):=by
    simp only [execOp,e1,e2]; rw [← hmc]; exact run_v hrun
  rw [Zp rfl,hrun']
  refine h w.heap.size hh.mem.kept.size _ _ (Holds.put (x:=x) (l:=l) ?_ hd _)
  exact ⟨hh.size,hh.ds,hh.slots,by simpa using hh.mem.go0 (K':=[[(w.heap.size,.cells (bvs (List.replicate N 0)).toArray E (0,0))]]) (by simpa using Mem.alloc hh.mem.agr (.cells (bvs (List.replicate N 0)).toArray E (0,0)))⟩

/-! ### copy into an own row -/
theorem Flat.td {α : Type} {R : Rep α} {HF : Heaplet} {size : Nat} : ∀ (k : Nat) {m : List α} {cells : List Value},Flat HF R size cells m → Flat HF R size (cells.take (k * size)) (m.take k) ∧ Flat HF R size (cells.drop (k * size)) (m.drop k)
  | 0,m,cells,h => by simp only [Nat.zero_mul,List.take_zero,List.drop_zero]; exact ⟨rfl,h⟩
  | k + 1,[],cells,h => by
    simp only [Flat] at h; subst h; simp only [List.take_nil,List.drop_nil]; exact ⟨rfl,rfl⟩
  | k + 1,y :: r,cells,h => by
    obtain ⟨cs,more,rfl,h1,h2,h3⟩:=h
    have ih:=Flat.td k h3
    have e1 : (cs ++ more).take ((k + 1) * size) = cs ++ more.take (k * size):=by
      rw [List.take_append,List.take_of_length_le (by rw [h1,Nat.add_mul]; omega),h1]; congr 2; rw [Nat.add_mul]; omega
    have e2 : (cs ++ more).drop ((k + 1) * size) = more.drop (k * size):=by
      rw [List.drop_append,List.drop_eq_nil_of_le (by rw [h1,Nat.add_mul]; omega),List.nil_append,h1]; congr 1; rw [Nat.add_mul]; omega
    rw [e1,e2]
    exact ⟨⟨cs,_,rfl,h1,h2,ih.1⟩,ih.2⟩
theorem RowOf.whole {α : Type} {R : Rep α} {B size : Nat} {E : TypeId} {v : Value} {ls : List α} {K : Own} (h : RowOf HF R B E size v ls K) : SubV size v v (0 : Int).toNat ((ls.length : Int).toNat - (0 : Int).toNat):=by
  obtain ⟨cells,⟨h0,h1⟩,hf,ho⟩:=h
  rcases h1 with ⟨rfl,h3,rfl⟩ | ⟨g,cap,cur,rfl,rfl,e3,e4,e5,e6,e7⟩
  · refine ⟨⟨none,0,?_⟩,.inl ?_⟩ <;> simp [h3]
  · exact ⟨⟨some ⟨g,0,none⟩,cap,by simp⟩,.inr ⟨g,0,_,cap,cap,rfl,by simp,by simp⟩⟩
def CSrc {α : Type} (x : Cx) (H HF : Heaplet) (own : List Own) (R : Rep α) (size : Nat) (y : Value) (ns : List α) : Prop :=
  ∃ ao cap,y = .slice ao ns.length cap ∧ ∃ cells,Flat HF R size cells ns ∧ oneCells cells ∧ ∀ w,Mem x.w0 x.H0 x.S own.flatten H w → ∀ n,n ≤ ns.length → (Builtin.firstCells size n y).run x.P w = .ok (cells.take (n * size)).toArray w
theorem run_first {P : Program} {w : World} {size n len cap : Nat} {ao : Option Addr} {cells : List Value} (hl : cells.length = len * size) (hn : n ≤ len) (hc : len = 0 ∨ ∃ a : Addr,ao = some a ∧ ∀ j u,cells[j]? = some u → w.cell? (a.add j) = some u) :
    (Builtin.firstCells size n (.slice ao len cap)).run P w = .ok (cells.take (n * size)).toArray w:=by
  rcases hc with h0 | ⟨a,rfl,hc⟩
  · have hn0 : n = 0:=by omega
    subst hn0
    cases ao with
    | none => simp [Builtin.firstCells,go_sem]
    | some a =>
      have:=run_firstCells_some (P:=P) w size 0 a len cap [] (by simp) (fun j u h => by simp at h)
      simpa using this
  · exact run_firstCells_some (P:=P) w size n a len cap (cells.take (n * size)) (by rw [List.length_take,hl]; exact Nat.min_eq_left (Nat.mul_le_mul_right _ hn)) (fun j u h => by
      rw [List.getElem?_take] at h
      split at h
      · exact hc j u h
      · cases h)
theorem CSrc.slice {α : Type} {R : Rep α} (hR : R.One) {size : Nat} {y : Value} {ns : List α} {H1 : Heaplet} (hle : Hle H1 H) (hs : IsSlice H1 R size y ns) (hF : ∀ cs z,R H1 cs z → R HF cs z) : CSrc x H HF own R size y ns:=by
  obtain ⟨cells,hf,ao,cap,rfl,hc⟩:=hs.cells
  refine ⟨ao,cap,rfl,cells,hf.conv hF,hf.one' hR,fun w hm n hn => run_first hf.length hn ?_⟩
  rcases hc with rfl | ⟨b,o,rfl,hc⟩
  · exact .inl rfl
  · exact .inr ⟨_,rfl,fun j u h => by rw [add_lit]; exact hm.agr _ _ _ (hle _ _ _ (hc j u h))⟩
theorem CSrc.part {α : Type} {R : Rep α} {size B : Nat} {E : TypeId} {v y : Value} {ls ns : List α} {K : Own} {lo hi : Int} (i : Nat) (hi' : own[i]? = some K) (hr : RowOf HF R B E size v ls K) (hs : SubV size v y lo.toNat (hi.toNat - lo.toNat)) (hb : 0 ≤ lo ∧ lo ≤ hi ∧ hi ≤ ls.length) (hn : ns = cut ls lo hi) : CSrc x H HF own R size y ns:=by
  subst hn
  have hcl : (cut ls lo hi).length = hi.toNat - lo.toNat:=by have:=cut_length (l:=ls) hb.1 hb.2.1 hb.2.2; omega
  obtain ⟨⟨ao,cap,rfl⟩,hs⟩:=hs
  obtain ⟨cells,⟨h0,h1⟩,hf,ho⟩:=hr
  have hfc:=(Flat.td (hi.toNat - lo.toNat) (Flat.td lo.toNat hf).2).1
  refine ⟨ao,cap,by rw [hcl],(cells.drop (lo.toNat * size)).take ((hi.toNat - lo.toNat) * size),hfc,fun u hu => ho u (List.mem_of_mem_drop (List.mem_of_mem_take hu)),fun w hm n hn' => ?_⟩
  have hlen:=hfc.length
  rw [show ((ls.drop lo.toNat).take (hi.toNat - lo.toNat)).length = hi.toNat - lo.toNat from hcl] at hlen
  rw [hcl] at hn'
  refine run_first hlen hn' ?_
  rcases hs with h | ⟨b,o,n',cap2,cap',e1,e2,hle⟩
  · exact .inl h
  · right
    simp only [Value.slice.injEq] at e2
    obtain ⟨rfl,-,rfl⟩:=e2
    refine ⟨_,rfl,fun j u hj => ?_⟩
    rcases h1 with ⟨e,h3,rfl⟩ | ⟨g,capg,cur,e,rfl,e3,e4,e5,e6,e7⟩
    · rw [e] at e1; simp at e1
    · rw [e] at e1
      simp only [Value.slice.injEq,Option.some.injEq,Addr.mk.injEq] at e1
      obtain ⟨⟨rfl,rfl,-⟩,rfl,rfl⟩:=e1
      have hg:=(own_here hm hi').here (g,.cells cur E (0,0)) (by simp)
      rw [add_lit,cell_of_row w g _ cur E (0,0) hg,Nat.zero_add]
      rw [List.getElem?_take] at hj
      split at hj
      · rw [List.getElem?_drop,← e7,List.getElem?_take] at hj
        split at hj
        · simpa using hj
        · cases hj
      · cases hj
theorem take_mid {β : Type} {cur D : List β} {a d T : Nat} (hD : D.length = d) (h1 : a + d ≤ T) (h2 : T ≤ cur.length) : (cur.take a ++ D ++ cur.drop (a + d)).take T = (cur.take T).take a ++ D ++ (cur.take T).drop (a + d):=by
  have k1 : (cur.take a).length = a:=by rw [List.length_take]; omega
  rw [List.take_append,List.take_append,List.take_take,List.take_take,Nat.min_eq_right (by omega),Nat.min_eq_left (by omega),List.take_of_length_le (l:=D) (by rw [k1,hD]; omega),List.drop_take]
  congr 2
  rw [List.length_append,k1,hD]
theorem JL.copyR {α : Type} {R : Rep α} (i : Nat) {tx E B e : Nat} {g : Bool} {size : Nat} {K : Own} {ls ns ms : List α} {lo hi : Int} {v v' y : Value} (hu : x.P.underlying t = some (.slice e)) (hsz : shapeOf x.P e = some (g,size)) (hi' : own[i]? = some K) (hr : RowOf HF R B E size v ls K)
    (h1 : evo l p = some v') (hs : SubV size v v' lo.toNat (hi.toNat - lo.toNat)) (h2 : evo l q = some y) (hc : CSrc x H HF own R size y ns) (hb : 0 ≤ lo ∧ lo ≤ hi ∧ hi ≤ ls.length) (hm : ms = cpy ls lo.toNat (ns.take (hi.toNat - lo.toNat))) (hd : Nat.blt d x.n = true)
    (h : ∀ K',RowOf HF R B E size v ms K' → JL x ops Q rest ((d,.int .i64 (min (ns.length : Int) (hi - lo))) :: l) (own.set i K') H) :
    JL x ops Q (⟨some d,.call ⟨.builtin .copy,#[p,q],#[t,tx]⟩,ty,pos,aft,none⟩ :: rest) l own H:=fun a w hh => by
  have e1:=Zi hh h1
  have e2:=Zi hh h2
  simp only [wpLs,Zl,if_true]
  refine ⟨fun _ _ => trivial,?_⟩
  obtain ⟨⟨ao1,cap1,rfl⟩,hs⟩:=hs
  obtain ⟨ao,cap,rfl,cells,hf,hone,hrun⟩:=hc
  have base : ∀ u w',(Builtin.copy_ #[t,tx] ty #[.slice ao1 (hi.toNat - lo.toNat) cap1,.slice ao ns.length cap]).run x.P w = .ok u w' →
      (execOp a.eval ⟨some d,.call ⟨.builtin .copy,#[p,q],#[t,tx]⟩,ty,pos,aft,none⟩).run x.P w = .ok (.value u) w':=fun u w' hr => by
    generalize a.eval = ρ at e1 e2
    have e3 : Array.map ρ #[p,q] = #[.slice ao1 (hi.toNat - lo.toNat) cap1,.slice ao ns.length cap]:=by simp [e1,e2]
    simp only [execOp,resolve,e3,Sem.run_bind,Sem.run_pure,Result.andThen,invoke,builtin,hr]
  obtain ⟨N,hN⟩ : ∃ N,N = Nat.min ns.length (hi.toNat - lo.toNat):=⟨_,rfl⟩
  have hN1 : N ≤ ns.length:=by rw [hN]; exact Nat.min_le_left _ _
  have hN2 : N ≤ hi.toNat - lo.toNat:=by rw [hN]; exact Nat.min_le_right _ _
  have hN3 : (N : Int) = min (ns.length : Int) (hi - lo):=by rw [hN]; show ((min ns.length (hi.toNat - lo.toNat) : Nat) : Int) = _; omega
  have hNt : ns.take (hi.toNat - lo.toNat) = ns.take N:=by
    by_cases h' : ns.length ≤ hi.toNat - lo.toNat
    · have : N = ns.length:=by rw [hN]; exact Nat.min_eq_left h'
      rw [this,List.take_length,List.take_of_length_le h']
    · have : N = hi.toNat - lo.toNat:=by rw [hN]; exact Nat.min_eq_right (by omega)
      rw [this]
  have hfc:=hrun w hh.mem N hN1
  have hso : (Go.sizeOf e).run x.P w = .ok size w:=run_sizeOf hsz w
  have hfn:=(Flat.td N hf).1
  have hln2 : (ns.take N).length = N:=by rw [List.length_take,Nat.min_eq_left hN1]
  have hln : (cells.take (N * size)).length = N * size:=by have:=hfn.length; rw [hln2] at this; exact this
  subst hm
  rw [hNt] at h
  have hin:=own_here hh.mem hi'
  rw [← hN3] at h
  -- nothing to copy
  by_cases h0 : N = 0
  · have hst : ∀ ad : Addr,(storeCells ad []).run x.P w = .ok () w:=fun _ => rfl
    have hr' : (Builtin.copy_ #[t,tx] ty #[.slice ao1 (hi.toNat - lo.toNat) cap1,.slice ao ns.length cap]).run x.P w = .ok (.int .i64 (N : Int)) w:=by
      rw [h0] at hfc hN ⊢
      have hfc' : (Builtin.firstCells size 0 (.slice ao ns.length cap)).run x.P w = .ok #[] w:=by simpa using hfc
      generalize hi.toNat - lo.toNat = M at hN ⊢
      generalize ns.length = L at hN hfc' ⊢
      cases ao1 with
      | none => simp [Builtin.copy_,run_underlying hu,Builtin.lenOf,hso,← hN,hfc',goInt,Sem.run_bind,Sem.run_pure,Result.andThen]
      | some ad => simp [Builtin.copy_,run_underlying hu,Builtin.lenOf,hso,← hN,hfc',hst,goInt,Sem.run_bind,Sem.run_pure,Result.andThen]
    rw [Zp rfl,base _ _ hr']
    have hx:=h K (by rw [h0]; simpa [cpy] using hr)
    have e8 : own.set i K = own:=by
      apply List.ext_getElem?
      intro j
      rw [List.getElem?_set]
      split
      · rename_i hj; subst hj; rw [hi']; split
        · rfl
        · rename_i hlt; have:=(List.getElem?_eq_some_iff.1 hi').1; omega
      · rfl
    rw [e8] at hx
    exact hx _ _ (Holds.put (x:=x) (l:=l) ⟨hh.size,hh.ds,hh.slots,hh.mem⟩ hd _)
  · rcases hs with h' | ⟨b,o,n',cap2,cap',ev,e2',hle⟩
    · omega
    simp only [Value.slice.injEq] at e2'
    obtain ⟨rfl,-,rfl⟩:=e2'
    obtain ⟨cs,⟨g0,g1⟩,gf,go⟩:=hr
    rcases g1 with ⟨e',h3,rfl⟩ | ⟨gg,capg,cur,e',rfl,e3,e4,e5,e6,e7⟩
    · rw [e'] at ev; simp at ev
    rw [e'] at ev
    simp only [Value.slice.injEq,Option.some.injEq,Addr.mk.injEq] at ev
    obtain ⟨⟨rfl,rfl,-⟩,rfl,rfl⟩:=ev
    have hbk:=hin.here (gg,.cells cur E (0,0)) (by simp)
    have hap : ∀ o,H gg o = none:=fun o => hin.apart (gg,.cells cur E (0,0)) (by simp) o
    have hcl : capg * size ≤ cur.toList.length:=by simpa using e6
    have hrows : (lo.toNat + N) * size ≤ ls.length * size:=Nat.mul_le_mul_right _ (by omega)
    have hrows2 : ls.length * size ≤ capg * size:=Nat.mul_le_mul_right _ e4
    have hfit : lo.toNat * size + 0 + (cells.take (N * size)).length ≤ cur.size:=by rw [hln,Nat.add_zero,← Nat.add_mul]; omega
    have hst:=run_storeCells_at x.P gg (lo.toNat * size) E (cells.take (N * size)) 0 cur w hbk hfit (fun u hu => hone u (List.mem_of_mem_take hu))
    simp only [Nat.add_zero] at hst
    obtain ⟨C,hC⟩ : ∃ C,C = (cur.toList.take (lo.toNat * size) ++ cells.take (N * size) ++ cur.toList.drop (lo.toNat * size + (cells.take (N * size)).length)).toArray:=⟨_,rfl⟩
    rw [← hC] at hst
    have hr' : (Builtin.copy_ #[t,tx] ty #[.slice (some ⟨gg,0 + lo.toNat * size,none⟩) (hi.toNat - lo.toNat) cap1,.slice ao ns.length cap]).run x.P w = .ok (.int .i64 (N : Int)) (w.setRow gg C):=by
      rw [Nat.zero_add]
      generalize hi.toNat - lo.toNat = M at hN ⊢
      generalize ns.length = L at hN hfc ⊢
      generalize cells.take (N * size) = D at hfc hst
      generalize lo.toNat * size = o at hst ⊢
      simp [Builtin.copy_,run_underlying hu,Builtin.lenOf,hso,← hN,hfc,hst,goInt,Sem.run_bind,Sem.run_pure,Result.andThen]
    rw [Zp rfl,base _ _ hr']
    have hm2:=hh.mem.go1 hi' (by simpa [ids] using Mem.setRow hh.mem.agr hbk hap C)
    refine h [(gg,.cells C E (0,0))] ?_ _ _ (Holds.put (x:=x) (l:=l) ⟨hh.size,hh.ds,hh.slots,hm2⟩ hd _)
    have hfl : Flat HF R size (cs.take (lo.toNat * size) ++ cells.take (N * size) ++ cs.drop ((lo.toNat + N) * size)) (cpy ls lo.toNat (ns.take N)):=by
      unfold cpy
      rw [hln2]
      exact Flat.append (Flat.td (lo.toNat + N) gf).2 (Flat.append hfn (Flat.td lo.toNat gf).1)
    have hcpl : (cpy ls lo.toNat (ns.take N)).length = ls.length:=by
      unfold cpy; rw [List.length_append,List.length_append,hln2,List.length_take,List.length_drop]; omega
    refine ⟨_,⟨hfl.length,.inr ⟨gg,capg,C,by rw [hcpl]; exact e',rfl,e3,by rw [hcpl]; exact e4,e5,?_,?_⟩⟩,hfl,?_⟩
    · have hs1 : lo.toNat * size + N * size ≤ capg * size:=by rw [← Nat.add_mul]; omega
      rw [hC,List.size_toArray,List.length_append,List.length_append,List.length_take,List.length_drop,hln]; omega
    · rw [hC,hcpl,← e7,List.toList_toArray,hln,Nat.add_mul]
      exact take_mid hln (by rw [Nat.add_mul] at hrows; exact hrows) (Nat.le_trans hrows2 hcl)
    · intro u hu
      rcases List.mem_append.1 hu with hu | hu
      · rcases List.mem_append.1 hu with hu | hu
        · exact go u (List.mem_of_mem_take hu)
        · exact hone u (List.mem_of_mem_take hu)
      · exact go u (List.mem_of_mem_drop hu)
end Go.Ow
