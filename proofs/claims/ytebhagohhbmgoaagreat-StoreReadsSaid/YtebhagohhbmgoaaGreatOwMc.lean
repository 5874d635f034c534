import Derived.Test.YtebhagohhbmgoaaGreatOwMb
import Derived.Maps.RangeRun
import Derived.Laws.Externs
import Derived.Lib.BytesEntry
import Derived.Lib.Bytealg
import Derived.Room.MakeNoZero
import Derived.ChangeKeysEq
import Derived.Test.YtebhagohhbmgoaaGreatOwMa
/-
  What is proved here: maps whose keys are ints: made, written, ranged over in whatever order; over OwY.
-/
namespace Go.Ow
open Go.RowKit
set_option linter.unusedVariables false
set_option linter.unusedSimpArgs false

structure MapIs {α : Type} (R : Rep α) (H : Heaplet) (es : Array MapEntry) (M : List (Int × α)) : Prop where
  size : es.size = M.length
  here : ∀ i k y,M[i]? = some (k,y) → ∃ cs : List Value,es[i]? = some (MapEntry.mk (.int .i64 k) (.agg cs.toArray) i) ∧ R H cs y
  nodup : (M.map (·.1)).Nodup

theorem putM_new {α : Type} : ∀ {M : List (Int × α)} {k : Int} {y : α},(∀ p ∈ M,p.1 ≠ k) → putM M k y = M ++ [(k,y)]
  | [],_,_,_ => rfl
  | p :: r,k,y,h => by
    simp only [putM,if_neg (h p (by simp)),List.cons_append]
    rw [putM_new (fun q hq => h q (by simp [hq]))]
theorem putM_old {α : Type} : ∀ {M : List (Int × α)} {k : Int} {y : α} {j : Nat} {z : α},(M.map (·.1)).Nodup → M[j]? = some (k,z) → putM M k y = M.set j (k,y)
  | [],_,_,_,_,_,h => by simp at h
  | p :: r,k,y,0,z,_,h => by simp at h; subst h; simp [putM]
  | p :: r,k,y,j + 1,z,hn,h => by
    simp only [List.map_cons,List.nodup_cons] at hn
    simp only [List.getElem?_cons_succ] at h
    have hne : p.1 ≠ k:=fun e => hn.1 (by rw [e]; exact List.mem_map.2 ⟨(k,z),List.mem_of_getElem? h,rfl⟩)
    simp only [putM,if_neg hne,List.set_cons_succ]
    rw [putM_old hn.2 h]

theorem MapIs.nil {α : Type} (R : Rep α) (H : Heaplet) : MapIs R H #[] []:=⟨rfl,fun i k y h => by simp at h,by simp⟩
theorem MapIs.mono {α : Type} {R : Rep α} (hR : R.Mono) {H H' : Heaplet} (hle : Hle H H') {es : Array MapEntry} {M : List (Int × α)} (h : MapIs R H es M) : MapIs R H' es M :=
  ⟨h.size,fun i k y e => by obtain ⟨cs,h1,h2⟩:=h.here i k y e; exact ⟨cs,h1,hR _ _ _ _ hle h2⟩,h.nodup⟩
theorem MapIs.entry {α : Type} {R : Rep α} {H : Heaplet} {es : Array MapEntry} {M : List (Int × α)} (h : MapIs R H es M) {e : MapEntry} (he : e ∈ es.toList) :
    ∃ i k y,∃ cs : List Value,M[i]? = some (k,y) ∧ es[i]? = some e ∧ e = MapEntry.mk (.int .i64 k) (.agg cs.toArray) i ∧ R H cs y:=by
  obtain ⟨i,hi⟩:=List.mem_iff_getElem?.1 he
  have hi' : es[i]? = some e:=by simpa using hi
  have hlt : i < M.length:=by rw [← h.size]; exact (Array.getElem?_eq_some_iff.1 hi').1
  obtain ⟨cs,h1,h2⟩:=h.here i (M[i]).1 (M[i]).2 (by simp [hlt])
  exact ⟨i,(M[i]).1,(M[i]).2,cs,by simp [hlt],hi',by rw [hi'] at h1; exact Option.some.inj h1,h2⟩
theorem MapIs.keys {α : Type} {R : Rep α} {H : Heaplet} {es : Array MapEntry} {M : List (Int × α)} (h : MapIs R H es M) : ∀ e ∈ es.toList,MapKept.IsKey (.int .i64) e.key:=fun e he => by
  obtain ⟨i,k,y,cs,-,-,rfl,-⟩:=h.entry he
  rfl
theorem MapIs.born {α : Type} {R : Rep α} {H : Heaplet} {es : Array MapEntry} {M : List (Int × α)} (h : MapIs R H es M) : ∀ e ∈ es.toList,e.born < M.length:=fun e he => by
  obtain ⟨i,k,y,cs,h1,-,rfl,-⟩:=h.entry he
  exact (List.getElem?_eq_some_iff.1 h1).1
theorem MapIs.bornAt {α : Type} {R : Rep α} {H : Heaplet} {es : Array MapEntry} {M : List (Int × α)} (h : MapIs R H es M) : es.toList.map (·.born) = List.range M.length:=by
  refine List.ext_getElem? (fun i => ?_)
  rw [List.getElem?_map]
  by_cases hi : i < M.length
  · obtain ⟨cs,h1,-⟩:=h.here i (M[i]).1 (M[i]).2 (by simp [hi])
    rw [Array.getElem?_toList,h1]
    simp [hi]
  · rw [Array.getElem?_toList,Array.getElem?_eq_none (by rw [h.size]; omega)]
    simp [hi]

theorem MapIs.put {α : Type} {R : Rep α} {H : Heaplet} {es : Array MapEntry} {M : List (Int × α)} (h : MapIs R H es M) {k : Int} {cs : List Value} {y : α} (hR : R H cs y) :
    (∀ e ∈ es.toList,e.key ≠ .int .i64 k) → MapIs R H (es.push (MapEntry.mk (.int .i64 k) (.agg cs.toArray) M.length)) (putM M k y):=fun hn => by
  have hM : ∀ p ∈ M,p.1 ≠ k:=fun p hp e => by
    obtain ⟨i,hi⟩:=List.mem_iff_getElem?.1 hp
    obtain ⟨cs',h1,-⟩:=h.here i p.1 p.2 hi
    exact hn _ (Array.mem_toList_iff.2 (Array.mem_of_getElem? h1)) (by simp [e])
  rw [putM_new hM]
  refine ⟨by simp [h.size],fun i k' y' e => ?_,?_⟩
  · rw [List.getElem?_append] at e
    split at e
    · obtain ⟨cs',h1,h2⟩:=h.here i k' y' e
      refine ⟨cs',?_,h2⟩
      have:=(Array.getElem?_eq_some_iff.1 h1).1
      rw [Array.getElem?_push_lt this,← h1,Array.getElem?_eq_getElem this]
    · rename_i hi
      have : i = M.length:=by
        rcases Nat.lt_or_ge 0 (i - M.length) with h' | h'
        · rw [List.getElem?_eq_none (by simp only [List.length_cons,List.length_nil]; omega)] at e; cases e
        · omega
      subst this
      simp at e
      obtain ⟨rfl,rfl⟩:=e
      exact ⟨cs,by rw [← h.size]; simp,hR⟩
  · rw [List.map_append]
    refine List.nodup_append.2 ⟨h.nodup,by simp,fun a ha b hb => ?_⟩
    simp at hb
    subst hb
    obtain ⟨p,hp,rfl⟩:=List.mem_map.1 ha
    exact hM p hp
theorem MapIs.turn {α : Type} {R : Rep α} {H : Heaplet} {es : Array MapEntry} {M : List (Int × α)} (h : MapIs R H es M) {k : Int} {cs : List Value} {y : α} (hR : R H cs y) {j : Nat} {e : MapEntry}
    (hj : es[j]? = some e) (hk : e.key = .int .i64 k) : MapIs R H (es.modify j fun e => { e with key:=.int .i64 k,val:=.agg cs.toArray }) (putM M k y) ∧ (putM M k y).length = M.length:=by
  obtain ⟨i,k',z,cs',h1,h2,h3,-⟩:=h.entry (Array.mem_toList_iff.2 (Array.mem_of_getElem? hj))
  subst h3
  simp only [Value.int.injEq,true_and] at hk
  subst hk
  have hij : i = j:=by
    have hlt : j < M.length:=by rw [← h.size]; exact (Array.getElem?_eq_some_iff.1 hj).1
    obtain ⟨cs2,h4,-⟩:=h.here j (M[j]).1 (M[j]).2 (by simp [hlt])
    rw [hj] at h4
    simp only [Option.some.injEq,MapEntry.mk.injEq] at h4
    exact h4.2.2
  subst hij
  rw [putM_old h.nodup h1]
  have hlt:=(List.getElem?_eq_some_iff.1 h1).1
  refine ⟨⟨by simp [h.size],fun i' k'' y' e => ?_,?_⟩,by simp⟩
  · rw [List.getElem?_set] at e
    split at e
    · rename_i hii
      subst hii
      simp only [hlt,if_true,Option.some.injEq,Prod.mk.injEq] at e
      obtain ⟨rfl,rfl⟩:=e
      exact ⟨cs,by rw [Array.getElem?_modify,if_pos rfl,h2]; rfl,hR⟩
    · rename_i hii
      obtain ⟨cs2,h4,h5⟩:=h.here i' k'' y' e
      exact ⟨cs2,by rw [Array.getElem?_modify,if_neg hii]; exact h4,h5⟩
  · rw [List.map_set]
    rw [show (M.map (·.1)).set i k' = M.map (·.1) from by
      refine List.ext_getElem? (fun n => ?_)
      rw [List.getElem?_set]
      split
      · rename_i hn; subst hn
        simp [hlt]
        have:=(List.getElem?_eq_some_iff.1 h1).2
        rw [this]
      · rfl]
    exact h.nodup

/-! ### A block that is turned -/
open Go.ChangeMaps (setBlock)
theorem Mem.setBlk {w : World} {H : Heaplet} {b : Nat} {o o' : Obj} (ha : Agrees H w) (hb : w.heap[b]? = some o) (hap : ∀ q,H b q = none) :
    Mem w H [b] [(b,o')] H (setBlock w b o'):=by
  have hlt:=(Array.getElem?_eq_some_iff.1 hb).1
  have ho : ∀ k,k ≠ b → (setBlock w b o').heap[k]? = w.heap[k]?:=fun k hk => (MapKept.heap_set (o':=o') hb).2 k hk
  refine ⟨fun b' off v e => ?_,⟨?_,by simp [ids],fun p hp off => ?_⟩,⟨rfl,rfl,rfl,by simp [setBlock],Nat.le_refl _,fun k hk hn => ho k (by simpa using hn)⟩,fun p hp => .inl (by simp at hp; simp [hp]),Hle.refl _,fun _ _ _ => rfl,Mem.soft0⟩
  · have:=ha b' off v e
    rw [World.cell?_of_block (w:=w) (ho b' (fun e' => by subst e'; rw [hap] at e; cases e))]; exact this
  · intro p hp; simp at hp; subst hp
    exact (MapKept.heap_set (o':=o') hb).1
  · simp at hp; subst hp; exact hap off

variable {x : Cx} {ops : Array Oper} {Q : Exit → Act → World → Prop} {rest : List Oper} {l : Slots} {own : List Own} {H : Heaplet}
variable {ty : TypeId} {d : Nat} {pos : String} {aft : Array Edge} {v : Value}

theorem JL.mkMap {t : TypeId} (hd : Nat.blt d x.n = true)
    (h : ∀ b,x.w0.heap.size ≤ b → JL x ops Q rest ((d,.map (some b)) :: l) ([(b,.map #[] 0)] :: own) H) : JL x ops Q (⟨some d,.makeMap t none,ty,pos,aft,none⟩ :: rest) l own H :=
  JL.new (v':=fun b => .map (some b)) hd rfl (fun ρ w _ _ _ _ hρ => by
    simp only [execOp]
    refine run_v ?_
    simp only [Instr.makeMap,Sem.run_bind,Sem.run_pure,Option.map,run_newObj_alloc,Result.andThen]) h

theorem JL.rangeMap (i : Nat) {p : Operand} {t kt et : TypeId} {bm c : Nat} {es : Array MapEntry} (hu : x.P.underlying t = some (.map kt et)) (h1 : evo l p = some (.map (some bm)))
    (hi : own[i]? = some [(bm,.map es c)]) (hd : Nat.blt d x.n = true)
    (h : ∀ b,x.w0.heap.size ≤ b → JL x ops Q rest ((d,.pointer (some ⟨b,0,none⟩)) :: l) ([(b,.mapIter (some bm) c #[] c)] :: own) H) : JL x ops Q (⟨some d,.range t p,ty,pos,aft,none⟩ :: rest) l own H:=fun a w hh => by
  simp only [wpLs,Zl,if_true]
  refine ⟨fun _ _ => trivial,?_⟩
  have hb:=(own_here hh.mem hi).here (bm,.map es c) (by simp)
  have hr : (execOp a.eval ⟨some d,.range t p,ty,pos,aft,none⟩).run x.P w = .ok (.value (.pointer (some ⟨w.heap.size,0,none⟩))) (w.alloc (.mapIter (some bm) c #[] c)):=by
    simp only [execOp,Zi hh h1]
    exact run_v (run_range_map w t kt et bm es c hu hb)
  rw [Zp rfl,hr]
  refine h w.heap.size hh.mem.kept.size _ _ (Holds.put (x:=x) (l:=l) ?_ hd _)
  exact ⟨hh.size,hh.ds,hh.slots,by simpa using hh.mem.go0 (K':=[[(w.heap.size,_)]]) (by simpa using Mem.alloc hh.mem.agr _)⟩

theorem JL.mapUpd {α : Type} {R : Rep α} (i : Nat) {HF : Heaplet} {p q s : Operand} {mt kt et : TypeId} {b : Nat} {es : Array MapEntry} {M : List (Int × α)} {k : Int} {cs : List Value} {y : α}
    (hu : x.P.underlying mt = some (.map kt et)) (hk : x.P.underlying kt = some (.int .i64)) (h1 : evo l p = some (.map (some b))) (h2 : evo l q = some (.int .i64 k)) (h3 : evo l s = some (.agg cs.toArray))
    (hi : own[i]? = some [(b,.map es M.length)]) (hM : MapIs R HF es M) (hR : R HF cs y)
    (h : ∀ es',MapIs R HF es' (putM M k y) → JL x ops Q rest l (own.set i [(b,.map es' (putM M k y).length)]) H) :
    JL x ops Q (⟨none,.mapUpdate mt p q s,ty,pos,aft,none⟩ :: rest) l own H:=fun a w hh => by
  simp only [wpLs,Zl,if_true]
  refine ⟨fun _ _ => trivial,?_⟩
  have hb:=own_here hh.mem hi
  have hbk:=hb.here (b,.map es M.length) (by simp)
  have hap : ∀ o,H b o = none:=fun o => hb.apart (b,.map es M.length) (by simp) o
  have hkey : MapKept.IsKey (.int .i64) (.int .i64 k):=rfl
  have key : ∃ es',MapIs R HF es' (putM M k y) ∧ (execOp a.eval ⟨none,.mapUpdate mt p q s,ty,pos,aft,none⟩).run x.P w = .ok .skip (setBlock w b (.map es' (putM M k y).length)):=by
    simp only [execOp,Zi hh h1,Zi hh h2,Zi hh h3]
    rcases MapKept.findNow_spec hkey es.toList 0 hM.keys with ⟨g1,g2⟩ | ⟨j,e,g1,g2,g3⟩
    · have hput:=hM.put hR g2
      refine ⟨_,hput,run_u ?_⟩
      simp only [Instr.mapUpdate,Sem.run_bind,run_underlying hu,MapKept.run_getObj_map hbk,MapKept.run_checkKey hk hkey,MapKept.run_findKey hk g1,MapKept.run_setObj_map _ hbk,Result.andThen,setBlock]
      rw [← hput.size]; simp [hM.size]
    · have hj : es[j]? = some e:=by simpa using g2
      obtain ⟨ht,hl⟩:=hM.turn hR hj g3
      refine ⟨_,ht,run_u ?_⟩
      simp [Instr.mapUpdate,run_underlying hu,MapKept.run_getObj_map hbk,MapKept.run_checkKey hk hkey,MapKept.run_findKey hk g1,hj,g3,MapKept.run_keyThatStays hkey,MapKept.run_setObj_map _ hbk,Result.andThen,setBlock,hl]
  obtain ⟨es',hes,hr⟩:=key
  rw [Zp rfl,hr]
  exact h es' hes _ _ ⟨hh.size,hh.ds,hh.slots,hh.mem.go1 hi (by simpa [ids] using Mem.setBlk hh.mem.agr hbk hap)⟩

theorem JL.nextMap {α : Type} {R : Rep α} (i j : Nat) {HF : Heaplet} {p : Operand} {bi bm c0 : Nat} {es : Array MapEntry} {M : List (Int × α)} {seen : Array Nat}
    (h1 : evo l p = some (.pointer (some ⟨bi,0,none⟩))) (hi : own[i]? = some [(bi,.mapIter (some bm) M.length seen c0)]) (hj : own[j]? = some [(bm,.map es M.length)]) (hM : MapIs R HF es M)
    (hc : M.length ≤ c0) (hd : Nat.blt d x.n = true)
    (hend : (∀ k,k < M.length → k ∈ seen.toList) → JL x ops Q rest ((d,.tuple #[.bool false]) :: l) own H)
    (hgo : ∀ n k y cs,M[n]? = some (k,y) → es[n]? = some (MapEntry.mk (.int .i64 k) (.agg cs.toArray) n) → n ∉ seen.toList → R HF cs y →
      JL x ops Q rest ((d,.tuple #[.bool true,.int .i64 k,.agg cs.toArray]) :: l) (own.set i [(bi,.mapIter (some bm) M.length (seen.push n) M.length)]) H) :
    JL x ops Q (⟨some d,.next p false,ty,pos,aft,none⟩ :: rest) l own H:=fun a w hh => by
  simp only [wpLs,Zl,if_true]
  refine ⟨fun _ _ => trivial,?_⟩
  have hb:=own_here hh.mem hi
  have hbi:=hb.here (bi,.mapIter (some bm) M.length seen c0) (by simp)
  have hbm:=(own_here hh.mem hj).here (bm,.map es M.length) (by simp)
  have hap : ∀ o,H bi o = none:=fun o => hb.apart (bi,.mapIter (some bm) M.length seen c0) (by simp) o
  rcases run_next_at (P:=x.P) w ty bi bm M.length c0 seen es M.length hbi hbm hM.born hc with ⟨g1,g2⟩ | ⟨e,g1,w1,g2,g3⟩
  · have hr : (execOp a.eval ⟨some d,.next p false,ty,pos,aft,none⟩).run x.P w = .ok (.value (.tuple #[.bool false])) w:=by
      simp only [execOp,Zi hh h1]
      exact run_v g2
    rw [Zp rfl,hr]
    refine hend (fun k hk => ?_) _ _ (hh.put hd _)
    obtain ⟨cs,q1,-⟩:=hM.here k (M[k]).1 (M[k]).2 (by simp [hk])
    have hz : leftOf es seen = #[]:=Array.eq_empty_of_size_eq_zero g1
    have:=Array.filter_eq_empty_iff.1 hz _ (Array.mem_of_getElem? q1)
    simpa using this
  · have hr : (execOp a.eval ⟨some d,.next p false,ty,pos,aft,none⟩).run x.P w = .ok (.value (.tuple #[.bool true,e.key,e.val])) (setBlock w1 bi (.mapIter (some bm) M.length (seen.push e.born) M.length)):=by
      simp only [execOp,Zi hh h1]
      exact run_v g3
    rw [Zp rfl,hr]
    have he : e ∈ es.toList ∧ e.born ∉ seen.toList:=by
      have:=g1
      simp [leftOf] at this
      exact ⟨by simpa using this.1,by simpa using this.2⟩
    obtain ⟨n,k,y,cs,q1,q2,rfl,q4⟩:=hM.entry he.1
    have hm1 : Mem x.w0 x.H0 x.S own.flatten H w1:=by
      rcases g2 with rfl | rfl
      · exact hh.mem
      · exact hh.mem.drew
    have hbi1 : w1.heap[bi]? = some (.mapIter (some bm) M.length seen c0):=by
      rcases g2 with rfl | rfl
      · exact hbi
      · exact hbi
    refine hgo n k y cs q1 q2 he.2 q4 _ _ (Holds.put (x:=x) (l:=l) ?_ hd _)
    exact ⟨hh.size,hh.ds,hh.slots,hm1.go1 hi (by simpa [ids] using Mem.setBlk hm1.agr hbi1 hap)⟩

theorem JL.entryMap {α : Type} {R : Rep α} (i j : Nat) {HF : Heaplet} {p : Operand} {bi bm n : Nat} {es : Array MapEntry} {M : List (Int × α)} {seen : Array Nat} {k : Int} {cs : List Value}
    (h1 : evo l p = some (.pointer (some ⟨bi,0,none⟩))) (hi : own[i]? = some [(bi,.mapIter (some bm) M.length (seen.push n) M.length)]) (hj : own[j]? = some [(bm,.map es M.length)]) (hM : MapIs R HF es M)
    (he : es[n]? = some (MapEntry.mk (.int .i64 k) (.agg cs.toArray) n)) (hd : Nat.blt d x.n = true)
    (h : JL x ops Q rest ((d,.tuple #[.int .i64 k,.agg cs.toArray]) :: l) own H) : JL x ops Q (⟨some d,.entry p,ty,pos,aft,none⟩ :: rest) l own H :=
  ZA hd rfl (fun ρ w _ _ _ _ hρ hm => by
    simp only [execOp,hρ _ _ h1]
    have hbi:=hm.2 (bi,.mapIter (some bm) M.length (seen.push n) M.length) (List.mem_flatten.2 ⟨_,List.mem_of_getElem? hi,by simp⟩)
    have hbm:=hm.2 (bm,.map es M.length) (List.mem_flatten.2 ⟨_,List.mem_of_getElem? hj,by simp⟩)
    exact run_v (run_entry_at w bi bm M.length seen es M.length (MapEntry.mk (.int .i64 k) (.agg cs.toArray) n) hbi hbm (Array.mem_toList_iff.2 (Array.mem_of_getElem? he)) (by rw [hM.bornAt]; exact List.nodup_range))) h

/-! ### A map that is owned -/
def MapOf {α : Type} (HF : Heaplet) (R : Rep α) (B n : Nat) (M : List (Int × α)) (K : Own) : Prop:=B ≤ n ∧ ∃ es,K = [(n,.map es M.length)] ∧ MapIs R HF es M
section mapOf
variable {α : Type} {R : Rep α} {HF : Heaplet} {B n : Nat} {M : List (Int × α)} {K : Own}
theorem MapOf.weak {B' : Nat} (hB : B' ≤ B) (h : MapOf HF R B n M K) : MapOf HF R B' n M K:=⟨Nat.le_trans hB h.1,h.2⟩
theorem MapOf.ge (h : MapOf HF R B n M K) : ∀ p ∈ K,B ≤ p.1:=by
  obtain ⟨h1,es,rfl,-⟩:=h
  intro p hp; simp at hp; subst hp; exact h1
theorem MapOf.base {B' : Nat} (h : MapOf HF R B n M K) (hB : ∀ p ∈ K,B' ≤ p.1) : MapOf HF R B' n M K:=by
  obtain ⟨h1,es,rfl,h2⟩:=h
  exact ⟨hB (n,.map es M.length) (by simp),es,rfl,h2⟩
theorem newM_ids {N : Nat} {S : List Nat} (h : MapOf HF R N n M K) (hS : ∀ i ∈ S,i < N) : ∀ p ∈ K,p.1 ∉ S:=fun p hp hm => by
  have:=h.ge p hp; have:=hS _ hm; omega
theorem MapOf.mono {H2 : Heaplet} (h : MapOf HF R B n M K) (hR : R.Mono) (hle : Hle HF H2) : MapOf H2 R B n M K:=by
  obtain ⟨h1,es,rfl,h2⟩:=h
  exact ⟨h1,es,rfl,h2.mono hR hle⟩
end mapOf
theorem MapOf.old {α : Type} {R : Rep α} {H H' : Heaplet} {B n : Nat} {M : List (Int × α)} {K : Own} (h : MapOf (New H H') R B n M K) (hR : R.Mono) : MapOf H' R B n M K:=h.mono hR (New.le H H')

theorem JL.mkMapF {α : Type} (HF : Heaplet) (R : Rep α) {t : TypeId} (hd : Nat.blt d x.n = true)
    (h : ∀ b K,MapOf HF R x.w0.heap.size b [] K → JL x ops Q rest ((d,.map (some b)) :: l) (K :: own) H) : JL x ops Q (⟨some d,.makeMap t none,ty,pos,aft,none⟩ :: rest) l own H :=
  JL.mkMap hd (fun b hb => h b _ ⟨hb,_,rfl,MapIs.nil R HF⟩)
theorem JL.mapUpdF {α : Type} {R : Rep α} (i : Nat) {HF : Heaplet} {p q s : Operand} {mt kt et : TypeId} {B n : Nat} {K : Own} {M : List (Int × α)} {k : Int} {cs : List Value} {y : α}
    (hu : x.P.underlying mt = some (.map kt et)) (hk : x.P.underlying kt = some (.int .i64)) (h1 : evo l p = some (.map (some n))) (h2 : evo l q = some (.int .i64 k)) (h3 : evo l s = some (.agg cs.toArray))
    (hi : own[i]? = some K) (hM : MapOf HF R B n M K) (hR : R HF cs y)
    (h : ∀ K',MapOf HF R B n (putM M k y) K' → JL x ops Q rest l (own.set i K') H) :
    JL x ops Q (⟨none,.mapUpdate mt p q s,ty,pos,aft,none⟩ :: rest) l own H:=by
  obtain ⟨g1,es,rfl,g2⟩:=hM
  exact JL.mapUpd i hu hk h1 h2 h3 hi g2 hR (fun es' he => h _ ⟨g1,es',rfl,he⟩)
theorem JL.rangeMapF {α : Type} {R : Rep α} (i : Nat) {HF : Heaplet} {p : Operand} {t kt et : TypeId} {B n : Nat} {K : Own} {M : List (Int × α)} (hu : x.P.underlying t = some (.map kt et)) (h1 : evo l p = some (.map (some n)))
    (hi : own[i]? = some K) (hM : MapOf HF R B n M K) (hd : Nat.blt d x.n = true)
    (h : ∀ b es,K = [(n,.map es M.length)] → MapIs R HF es M → JL x ops Q rest ((d,.pointer (some ⟨b,0,none⟩)) :: l) ([(b,.mapIter (some n) M.length #[] M.length)] :: own) H) : JL x ops Q (⟨some d,.range t p,ty,pos,aft,none⟩ :: rest) l own H:=by
  obtain ⟨g1,es,rfl,g2⟩:=hM
  exact JL.rangeMap i hu h1 hi hd (fun b hb => h b es rfl g2)

/-! ### What is laid from a map into a row, in whatever order -/
structure Laid {α β : Type} (f : α → β) (L : List β) (M : List (Int × α)) (S : List Nat) (B : List β) : Prop where
  len : B.length = L.length
  laid : ∀ n k y,n ∈ S → M[n]? = some (k,y) → B[k.toNat]? = some (f y)
  same : ∀ j,(∀ n k y,n ∈ S → M[n]? = some (k,y) → k.toNat ≠ j) → B[j]? = L[j]?
theorem Laid.start {α β : Type} (f : α → β) (L : List β) (M : List (Int × α)) : Laid f L M [] L:=⟨rfl,fun n k y h => by simp at h,fun j _ => rfl⟩
theorem key_unique {α : Type} {M : List (Int × α)} (hn : (M.map (·.1)).Nodup) {i j : Nat} {k : Int} {y z : α} (h1 : M[i]? = some (k,y)) (h2 : M[j]? = some (k,z)) : i = j:=by
  have e1 : (M.map (·.1))[i]? = some k:=by simp [h1]
  have e2 : (M.map (·.1))[j]? = some k:=by simp [h2]
  exact (List.getElem?_inj (List.getElem?_eq_some_iff.1 e1).1 hn).1 (e1.trans e2.symm)
theorem Laid.step {α β : Type} {f : α → β} {L : List β} {M : List (Int × α)} {S : List Nat} {B : List β} (h : Laid f L M S B) (hn : (M.map (·.1)).Nodup) (hr : ∀ p ∈ M,0 ≤ p.1 ∧ p.1.toNat < L.length)
    {n : Nat} {k : Int} {y : α} (hM : M[n]? = some (k,y)) (S' : List Nat) (hS : ∀ q,q ∈ S' ↔ q ∈ S ∨ q = n) : Laid f L M S' (B.set k.toNat (f y)):=by
  have hk:=hr _ (List.mem_of_getElem? hM)
  refine ⟨by simp [h.len],fun n' k' y' hn' hM' => ?_,fun j hj => ?_⟩
  · rw [List.getElem?_set]
    split
    · rename_i e
      have hk':=hr _ (List.mem_of_getElem? hM')
      have : k = k':=by have:=hk.1; have:=hk'.1; simp only at *; omega
      subst this
      have:=key_unique hn hM hM'
      subst this
      rw [hM] at hM'
      simp at hM'
      subst hM'
      rw [if_pos (by rw [h.len]; exact hk.2)]
    · rename_i e
      rcases (hS n').1 hn' with h' | h'
      · exact h.laid n' k' y' h' hM'
      · subst h'
        rw [hM] at hM'
        simp at hM'
        exact absurd (by rw [hM'.1]) e
  · rw [List.getElem?_set,if_neg (hj n k y ((hS n).2 (.inr rfl)) hM)]
    exact h.same j (fun n' k' y' h1 h2 => hj n' k' y' ((hS n').2 (.inl h1)) h2)
theorem Laid.unique {α β : Type} {f : α → β} {L : List β} {M : List (Int × α)} {S S' : List Nat} {B B' : List β} (h : Laid f L M S B) (h' : Laid f L M S' B') (hS : ∀ k,k < M.length → k ∈ S) (hS' : ∀ k,k < M.length → k ∈ S') : B = B':=by
  refine List.ext_getElem? (fun j => ?_)
  by_cases c : ∃ (n : Nat) (k : Int) (y : α),M[n]? = some (k,y) ∧ k.toNat = j
  · obtain ⟨n,k,y,h1,rfl⟩:=c
    have hlt:=(List.getElem?_eq_some_iff.1 h1).1
    rw [h.laid n k y (hS n hlt) h1,h'.laid n k y (hS' n hlt) h1]
  · rw [h.same j (fun n k y _ h1 e => c ⟨n,k,y,h1,e⟩),h'.same j (fun n k y _ h1 e => c ⟨n,k,y,h1,e⟩)]
theorem Laid.layM {α β : Type} (f : α → β) (L : List β) (M : List (Int × α)) (hn : (M.map (·.1)).Nodup) (hr : ∀ p ∈ M,0 ≤ p.1 ∧ p.1.toNat < L.length) : Laid f L M (List.range M.length) (layM f L M):=by
  have key : ∀ i,i ≤ M.length → Laid f L M (List.range i) ((M.take i).foldl (fun L p => L.set p.1.toNat (f p.2)) L):=by
    intro i
    induction i with
    | zero => intro _; simpa using Laid.start f L M
    | succ i ih =>
      intro hi
      have hi' : i < M.length:=hi
      have hM : M[i]? = some ((M[i]).1,(M[i]).2):=by rw [List.getElem?_eq_getElem hi']
      have:=(ih (by omega)).step hn hr hM (List.range (i + 1)) (fun q => by rw [List.mem_range,List.mem_range]; omega)
      rw [List.take_add_one,hM,List.foldl_append]
      exact this
  have:=key M.length (Nat.le_refl _)
  rwa [List.take_length] at this
theorem Laid.full {α β : Type} {f : α → β} {L : List β} {M : List (Int × α)} {S : List Nat} {B : List β} (h : Laid f L M S B) (hn : (M.map (·.1)).Nodup) (hr : ∀ p ∈ M,0 ≤ p.1 ∧ p.1.toNat < L.length) (hS : ∀ k,k < M.length → k ∈ S) :
    B = Go.Ow.layM f L M:=h.unique (Laid.layM f L M hn hr) hS (fun k hk => by simpa using hk)
theorem nodup_len : ∀ (k : Nat) (l : List Nat),l.Nodup → (∀ q ∈ l,q < k) → l.length ≤ k
  | 0,l,_,h => by
    cases l with
    | nil => simp
    | cons a l => have:=h a (by simp); omega
  | k + 1,l,hn,h => by
    by_cases c : k ∈ l
    · have h1:=nodup_len k (l.erase k) (hn.erase k) (fun q hq => by
        have:=(hn.mem_erase_iff).1 hq
        have:=h q this.2
        omega)
      rw [List.length_erase_of_mem c] at h1
      omega
    · have:=nodup_len k l hn (fun q hq => by
        have:=h q hq
        have : q ≠ k:=fun e => c (e ▸ hq)
        omega)
      omega
theorem seen_more {k n : Nat} {l : List Nat} (hn : l.Nodup) (h : ∀ q ∈ l,q < k) (hk : n < k) (hl : n ∉ l) : l.length < k:=by
  have:=nodup_len k (n :: l) (List.nodup_cons.2 ⟨hl,hn⟩) (fun q hq => by
    rcases List.mem_cons.1 hq with rfl | hq
    · exact hk
    · exact h q hq)
  rw [List.length_cons] at this
  omega

theorem lay_step {β : Type} {B : List β} {k : Int} {v : β} (h : 0 ≤ k ∧ k.toNat < B.length) : (chk (0 ≤ k ∧ k.toNat < B.length) <| setI B k v fun m => some m) = some (B.set k.toNat v):=by
  unfold chk setI; rw [if_pos h,if_pos h]

theorem R.max2b {p q : Operand} {a b : UInt8} {ts : Array TypeId} (h1 : evo l p = some (.int .u8 (a.toNat : Int))) (h2 : evo l q = some (.int .u8 (b.toNat : Int))) : Runs x (.call ⟨.builtin .max,#[p,q],ts⟩) ty l own H (.int .u8 ((maxB a b).toNat : Int)):=fun ρ w _ _ _ _ hρ hm => by
  have e3 : Array.map ρ #[p,q] = #[.int .u8 (a.toNat : Int),.int .u8 (b.toNat : Int)]:=by simp [hρ _ _ h1,hρ _ _ h2]
  have e : ((maxB a b).toNat : Int) = if (b.toNat : Int) > (a.toNat : Int) then (b.toNat : Int) else (a.toNat : Int):=by
    unfold maxB
    by_cases h : a < b
    · rw [if_pos h,if_pos (by have:=UInt8.lt_iff_toNat_lt.1 h; omega)]
    · rw [if_neg h,if_neg (by have:=mt UInt8.lt_iff_toNat_lt.2 h; omega)]
  rw [e]
  simp only [execOp,resolve,e3,Sem.run_bind,Sem.run_pure,Result.andThen,invoke,builtin,Builtin.max_,List.foldlM_cons,List.foldlM_nil,Builtin.max2]

end Go.Ow

/-
  What is proved here: bytes of a text are counted by the library's own entry; over OwZ.
-/
namespace Go.Ow
open Go.RowKit
set_option linter.unusedVariables false
set_option linter.unusedSimpArgs false
variable {x : Cx} {l : Slots} {own : List Own} {H : Heaplet} {ty : TypeId}

theorem bytesOf_toNat (m : List UInt8) : Lib.bytesOf (m.map fun b => (b.toNat : Int)) = m:=by
  unfold Lib.bytesOf
  rw [List.map_map]
  conv => rhs; rw [← List.map_id m]
  refine List.map_congr_left (fun b _ => ?_)
  simp
theorem run_bytesOf {P : Program} {w : World} {v : Value} {m : List UInt8} (hw : Agrees H w) (hs : IsSlice H RU8 1 v m) : (Extern.Bytes.bytesOf v).run P w = .ok ⟨m.toArray⟩ w:=by
  obtain ⟨ao,cap,rfl,h1,h2,h3,h4,h5⟩:=hs
  cases ao with
  | none =>
    have : m = []:=List.length_eq_zero_iff.1 (by have:=h4 rfl; omega)
    subst this; rfl
  | some a =>
    have hl:=Lib.run_loadBytesX (P:=P) w (m.map fun b => (b.toNat : Int)) a .empty (fun j y hy => by
      rw [List.getElem?_map] at hy
      cases hj : m[j]? with
      | none => rw [hj] at hy; cases hy
      | some b =>
        rw [hj] at hy
        obtain rfl:=Option.some.inj hy
        obtain ⟨bb,o,cs,e1,-,e3,e4⟩:=h5 j b hj
        obtain rfl:=Option.some.inj e1
        obtain rfl : cs = [.int .u8 (b.toNat : Int)]:=e3
        have:=hw _ _ _ (e4 0 _ rfl)
        rw [add_lit]
        simpa using this)
    rw [List.length_map,bytesOf_toNat] at hl
    show (Extern.Bytes.loadBytes a m.length .empty).run P w = _
    rw [hl]
    simp
theorem cmpB_eq : ∀ (a b : List UInt8),cmpB a b = Lib.compareBytes a b
  | [],[] => rfl
  | [],_ :: _ => rfl
  | _ :: _,[] => rfl
  | a :: as,b :: bs => by unfold cmpB Lib.compareBytes; rw [cmpB_eq as bs]
theorem run_compare {P : Program} {w : World} {v v' : Value} {m m' : List UInt8} (hw : Agrees H w) (hs : IsSlice H RU8 1 v m) (hs' : IsSlice H RU8 1 v' m') :
    (Extern.BytealgCompare.compare #[v,v']).run P w = .ok (.int .i64 (cmpB m m')) w:=by
  change Sem.run P (do pure (goInt (Extern.BytealgCompare.cmp (← Extern.Bytes.bytesOf v) (← Extern.Bytes.bytesOf v')))) w = _
  simp only [Sem.run_bind,run_bytesOf hw hs,run_bytesOf hw hs',Sem.run_pure,Result.andThen,Lib.cmp_eq,cmpB_eq]
  rfl
theorem run_count {P : Program} {w : World} {v : Value} {m : List UInt8} {c : UInt8} (hw : Agrees H w) (hs : IsSlice H RU8 1 v m) :
    (Extern.BytealgCount.count #[v,.int .u8 (c.toNat : Int)]).run P w = .ok (.int .i64 ((cntB m c : Nat) : Int)) w:=by
  obtain ⟨ao,cap,rfl,h1,h2,h3,h4,h5⟩:=hs
  have hb : (Extern.Bytes.bytesOf (.slice ao m.length cap)).run P w = .ok ⟨m.toArray⟩ w:=by
    cases ao with
    | none =>
      have : m = []:=List.length_eq_zero_iff.1 (by have:=h4 rfl; omega)
      subst this; rfl
    | some a =>
      have hl:=Lib.run_loadBytesX (P:=P) w (m.map fun b => (b.toNat : Int)) a .empty (fun j y hy => by
        rw [List.getElem?_map] at hy
        cases hj : m[j]? with
        | none => rw [hj] at hy; cases hy
        | some b =>
          rw [hj] at hy
          obtain rfl:=Option.some.inj hy
          obtain ⟨bb,o,cs,e1,-,e3,e4⟩:=h5 j b hj
          obtain rfl:=Option.some.inj e1
          obtain rfl : cs = [.int .u8 (b.toNat : Int)]:=e3
          have:=hw _ _ _ (e4 0 _ rfl)
          rw [add_lit]
          simpa using this)
      rw [List.length_map,bytesOf_toNat] at hl
      show (Extern.Bytes.loadBytes a m.length .empty).run P w = _
      rw [hl]
      simp
  change Sem.run P (do
    let b ← Extern.Bytes.bytesOf (.slice ao m.length cap)
    let c' ← Extern.Bytes.asByte (.int .u8 (c.toNat : Int))
    pure (goInt (b.foldl (fun n x => if x == c' then n + 1 else n) (0 : Nat)))) w = _
  simp only [Sem.run_bind,hb,Extern.Bytes.asByte,Sem.run_pure,Result.andThen]
  have : (c.toNat : Int).toNat.toUInt8 = c:=by simp
  rw [this]
  congr 1
  unfold goInt cntB
  congr 1
  rw [Lib.foldl_data]
  suffices H : ∀ (l : List UInt8) (k : Nat),l.foldl (fun (n : Int) x => if x == c then n + 1 else n) (k : Int) = ((l.foldl (fun n x => if x == c then n + 1 else n) k : Nat) : Int) from H m 0
  intro l
  induction l with
  | nil => intro k; rfl
  | cons b l ih =>
    intro k
    simp only [List.foldl_cons]
    split
    · exact ih (k + 1)
    · exact ih k
theorem R.compareB {p q : Operand} {f : FuncId} {fn : Func} {m m' : List UInt8} {v v' : Value} {ts : Array TypeId} (hf : x.P.funcs[f]? = some fn) (hname : (fn.name == "runtime.NumGoroutine") = false) (hb : fn.body.isNone = true)
    (hn : Extern.findNext fn = none) (he : Extern.find fn = some Extern.BytealgCompare.compare) (h1 : evo l p = some v) (hs : IsSlice H RU8 1 v m) (h2 : evo l q = some v') (hs' : IsSlice H RU8 1 v' m') :
    Runs x (.call ⟨.value (.func f),#[p,q],ts⟩) ty l own H (.int .i64 (cmpB m m')):=fun ρ w _ _ _ _ hρ hm => by
  have e3 : Array.map ρ #[p,q] = #[v,v']:=by simp [hρ _ _ h1,hρ _ _ h2]
  have e1 : ρ (.func f) = .func (.func f) #[] #[]:=hρ _ _ rfl
  simp only [execOp,resolve,e1,e3,Deferred.ofValue,Sem.run_bind,Sem.run_pure,Result.andThen,invoke]
  have:=run_callFunc_extern hf hname hb hn he #[v,v'] w
  rw [run_compare hm.1 hs hs'] at this
  simpa [Result.andThen] using this
theorem R.countB {p q : Operand} {f : FuncId} {fn : Func} {m : List UInt8} {c : UInt8} {v : Value} {ts : Array TypeId} (hf : x.P.funcs[f]? = some fn) (hname : (fn.name == "runtime.NumGoroutine") = false) (hb : fn.body.isNone = true)
    (hn : Extern.findNext fn = none) (he : Extern.find fn = some Extern.BytealgCount.count) (h1 : evo l p = some v) (hs : IsSlice H RU8 1 v m) (h2 : evo l q = some (.int .u8 (c.toNat : Int))) :
    Runs x (.call ⟨.value (.func f),#[p,q],ts⟩) ty l own H (.int .i64 ((cntB m c : Nat) : Int)):=fun ρ w _ _ _ _ hρ hm => by
  have e3 : Array.map ρ #[p,q] = #[v,.int .u8 (c.toNat : Int)]:=by simp [hρ _ _ h1,hρ _ _ h2]
  have e1 : ρ (.func f) = .func (.func f) #[] #[]:=hρ _ _ rfl
  simp only [execOp,resolve,e1,e3,Deferred.ofValue,Sem.run_bind,Sem.run_pure,Result.andThen,invoke]
  have:=run_callFunc_extern hf hname hb hn he #[v,.int .u8 (c.toNat : Int)] w
  rw [run_count hm.1 hs] at this
  simpa [Result.andThen] using this
end Go.Ow

/-
  What is proved here: new memory whose bytes are not told (bytealg.MakeNoZero); over OwZB.
-/
namespace Go.Ow
open Go.RowKit
set_option linter.unusedVariables false
set_option linter.unusedSimpArgs false
open Go.Lib

theorem digits_bytes : ∀ (n t : Nat) (acc : Array Value) (la : List UInt8),acc.toList = bvs la → ∃ L : List UInt8,(Extern.BytealgMakeNoZero.digits n t acc).toList = bvs L ∧ L.length = la.length + n
  | 0,t,acc,la,h => ⟨la,h,rfl⟩
  | n + 1,t,acc,la,h => by
    obtain ⟨L,h1,h2⟩:=digits_bytes n (t / 256) (acc.push (.int .u8 (Int.ofNat (t % 256)))) (la ++ [UInt8.ofNat t]) (by
      rw [Array.toList_push,h]
      simp [bvs,UInt8.toNat_ofNat'])
    exact ⟨L,h1,by rw [h2]; simp; omega⟩
theorem run_mnz {P : Program} (w : World) (ps : Array TypeId) (t e : TypeId) (ht : P.underlying t = some (.slice e)) (n : Nat) (hn : n ≤ 281474976710656) :
    ∃ (cs : Array Value) (L : List UInt8),(Extern.BytealgMakeNoZero.makeNoZero ps #[t] #[.int .i64 n]).run P w = .ok (.slice (some ⟨w.heap.size,0,none⟩) n cs.size) (w.drew.drew.alloc (.cells cs e)) ∧ n ≤ cs.size ∧ cs.size ≤ maxLen ∧ cs.toList = bvs L ∧ L.length = cs.size:=by
  have h1 : ¬ (n : Int) < 0:=by omega
  have h2 : ¬ (281474976710656 : Int) < (n : Int):=by omega
  obtain ⟨B,hB⟩ : ∃ B : Nat,(Extern.BytealgMakeNoZero.makeNoZero ps #[t] #[.int .i64 n]).run P w = .ok (.slice (some ⟨w.heap.size,0,none⟩) n (grownCap w n 0 e)) (w.drew.drew.alloc (.cells (Extern.BytealgMakeNoZero.digits (grownCap w n 0 e) B #[]) e)):=by
    obtain ⟨q,hf,hdef⟩ : ∃ q : Question,q.forced = false ∧ Extern.BytealgMakeNoZero.makeNoZero ps #[t] #[.int .i64 n] =
      (do
        let .slice elem ← underlying t | stuck "bytealg.MakeNoZero: slice type expected"
        if (n : Int) < 0 || (n : Int) > 2 ^ 48 then runtimePanic (.error "makeslice: len out of range")
        let cap ← choose (.appendCap (n : Int).toNat 0 elem)
        askRoom cap
        let bytes ← choose q
        let a ← newRow elem (Extern.BytealgMakeNoZero.digits cap bytes #[])
        pure (.slice (some a) (n : Int).toNat cap)):=⟨_,rfl,rfl⟩
    refine ⟨q.cut (w.tape (w.drawn + 1) q),?_⟩
    rw [hdef]
    have ha : ∀ a b c,(Question.appendCap a b c).forced = false:=fun _ _ _ => rfl
    simp [run_underlying ht,h1,h2,ha,hf,newRow,size_digits,grownCap]
  obtain ⟨L,g1,g2⟩:=digits_bytes (grownCap w n 0 e) B #[] [] rfl
  have hs : (Extern.BytealgMakeNoZero.digits (grownCap w n 0 e) B #[]).size = grownCap w n 0 e:=by rw [size_digits]; simp
  refine ⟨Extern.BytealgMakeNoZero.digits (grownCap w n 0 e) B #[],L,by rw [hs]; exact hB,?_,?_,g1,?_⟩
  · rw [hs]; exact grownCap_ge w n 0 e
  · rw [hs]; exact grownCap_le_maxLen w n 0 e (by unfold maxLen; omega)
  · rw [g2,hs]; simp

variable {x : Cx} {ops : Array Oper} {Q : Exit → Act → World → Prop} {rest : List Oper} {l : Slots} {own : List Own} {H HF : Heaplet}
variable {ty : TypeId} {d : Nat} {pos : String} {aft : Array Edge}
theorem JL.mkNZ {p : Operand} {f : FuncId} {fn : Func} {t E : TypeId} {N : Nat} {ts : Array TypeId} (hf : x.P.funcs[f]? = some fn) (hname : (fn.name == "runtime.NumGoroutine") = false) (hb : fn.body.isNone = true)
    (hn : Extern.findNext fn = none) (hu : x.P.underlying t = some (.slice E)) (he : Extern.find fn = some (Extern.BytealgMakeNoZero.makeNoZero fn.params #[t])) (h1 : evo l p = some (.int .i64 (N : Int))) (hN : N ≤ LIM) (hd : Nat.blt d x.n = true)
    (h : ∀ ao cap L K',L.length = N → RowOf HF RU8 x.w0.heap.size E 1 (.slice ao N cap) L K' → JL x ops Q rest ((d,.slice ao N cap) :: l) (K' :: own) H) :
    JL x ops Q (⟨some d,.call ⟨.value (.func f),#[p],ts⟩,ty,pos,aft,none⟩ :: rest) l own H:=fun a w hh => by
  simp only [wpLs,Zl,if_true]
  refine ⟨fun _ _ => trivial,?_⟩
  obtain ⟨cs,L,g1,g2,g3,g4,g5⟩:=run_mnz (P:=x.P) w fn.params t E hu N (by simp only [LIM] at hN; omega)
  have hrun : (execOp a.eval ⟨some d,.call ⟨.value (.func f),#[p],ts⟩,ty,pos,aft,none⟩).run x.P w = .ok (.value (.slice (some ⟨w.heap.size,0,none⟩) N cs.size)) (w.drew.drew.alloc (.cells cs E)):=by
    have e3 : Array.map a.eval #[p] = #[.int .i64 (N : Int)]:=by simp [Zi hh h1]
    have e1 : a.eval (.func f) = .func (.func f) #[] #[]:=Zi hh (o:=.func f) rfl
    simp only [execOp,resolve,e1,e3,Deferred.ofValue,Sem.run_bind,Sem.run_pure,Result.andThen,invoke]
    have:=run_callFunc_extern hf hname hb hn he #[.int .i64 (N : Int)] w
    rw [g1] at this
    simpa [Result.andThen] using this
  rw [Zp rfl,hrun]
  have hm2 : Mem x.w0 x.H0 x.S own.flatten H w.drew.drew:=hh.mem.drew.drew
  refine h (some ⟨w.heap.size,0,none⟩) cs.size (L.take N) [(w.heap.size,.cells cs E (0,0))] (by rw [List.length_take]; omega)
    ⟨bvs (L.take N),⟨by simp [bvs],.inr ⟨w.heap.size,cs.size,cs,by rw [List.length_take,Nat.min_eq_left (by omega)],rfl,hh.mem.kept.size,by rw [List.length_take]; omega,g3,by simp,?_⟩⟩,Flat.bytes _,(Flat.bytes (H:=H) _).one' RU8.one⟩ _ _ (Holds.put (x:=x) (l:=l) ?_ hd _)
  · rw [g4]; simp [bvs,List.map_take]
  · exact ⟨hh.size,hh.ds,hh.slots,by simpa using hm2.go0 (K':=[[(w.heap.size,.cells cs E (0,0))]]) (by simpa using Mem.alloc hm2.agr (.cells cs E (0,0)))⟩
/-! ### The first elements of an own row, with no room behind them -/
theorem RowOf.cutc {α : Type} {R : Rep α} {B size : Nat} {E : TypeId} {v : Value} {m m' : List α} {K : Own} {b : Int} (h : RowOf HF R B E size v m K) (hm : m' = cut m 0 b) (hab : (0 : Int) ≤ 0 ∧ 0 ≤ b ∧ b ≤ m.length) :
    ∃ v' cap ao',(∃ ao,v = .slice ao m.length cap ∧ b ≤ cap ∧ v' = sliced ao (0 : Int).toNat b.toNat b.toNat size) ∧ v' = .slice ao' m'.length m'.length ∧ RowOf HF R B E size v' m' K:=by
  have hp:=RowOf.pre h hm hab
  have hl : m'.length = b.toNat:=by subst hm; simp only [cut,List.length_take,List.length_drop]; omega
  obtain ⟨cl,⟨-,q⟩,-,-⟩:=h
  rcases q with ⟨q1,q2,rfl⟩ | ⟨g,c,cur,q1,rfl,q3,q4,q5,q6,q7⟩
  · have hb : b = 0:=by have:=hab.2.2; omega
    have hm0 : m' = []:=List.length_eq_zero_iff.1 (by rw [hl,hb]; rfl)
    subst hb hm0
    exact ⟨_,0,none,⟨none,by rw [q1,q2],Int.le_refl _,rfl⟩,by simp [sliced],by
      have : sliced (none : Option Addr) (0 : Int).toNat (0 : Int).toNat (0 : Int).toNat size = .slice none 0 0:=by simp [sliced]
      rw [this]; exact ZR _ _ _ _ _⟩
  · have e3 : ∀ c : Nat,sliced (some (⟨g,0,none⟩ : Addr)) (0 : Int).toNat b.toNat c size = .slice (some ⟨g,0,none⟩) b.toNat c:=fun c => by simp [sliced]
    obtain ⟨v1,cap,-,-,⟨ao,e1,-,e2⟩,cells,⟨h0,h1⟩,hf,ho⟩:=hp
    rw [q1] at e1; simp only [Value.slice.injEq] at e1
    obtain ⟨rfl,-,rfl⟩:=e1
    refine ⟨_,c,some ⟨g,0,none⟩,⟨_,q1,by have:=hab.2.2; omega,rfl⟩,by rw [e3,hl],cells,⟨h0,.inr ⟨g,b.toNat,cur,by rw [e3,hl],rfl,q3,by omega,by have:=hab.2.2; omega,Nat.le_trans (Nat.mul_le_mul_right _ (by have:=hab.2.2; omega)) q6,?_⟩⟩,hf,ho⟩
    rcases h1 with ⟨h1,-⟩ | ⟨g',c',cur',h1,h2,-,-,-,-,h7⟩
    · rw [e2,e3] at h1; cases h1
    · simp only [List.cons.injEq,Prod.mk.injEq,Obj.cells.injEq] at h2
      obtain ⟨⟨-,rfl,-⟩,-⟩:=h2
      exact h7
end Go.Ow

/-
  What is proved here: iterators that are functions of the program, with cells of their own; over OwZC.
-/
namespace Go.Ow
open Go.RowKit
set_option linter.unusedVariables false
set_option linter.unusedSimpArgs false

variable {x : Cx} {ops : Array Oper} {Q : Exit → Act → World → Prop} {rest : List Oper} {l : Slots} {own : List Own} {H HF : Heaplet}
variable {ty : TypeId} {d : Nat} {pos : String} {aft : Array Edge}

def IX {σ τ : Type} (I : σ → Own → Heaplet → Prop) (X : τ → Own → Heaplet → Prop) (r : σ ⊕ τ) (O : Own) (H : Heaplet) : Prop :=
  ∃ H1,Hle H1 H ∧ (match r with | .inl s => I s O H1 | .inr t => X t O H1)
theorem IX.mono {σ τ : Type} {I : σ → Own → Heaplet → Prop} {X : τ → Own → Heaplet → Prop} {r : σ ⊕ τ} {O : Own} {H H' : Heaplet} (h : IX I X r O H) (hle : Hle H H') : IX I X r O H':=by
  obtain ⟨H1,h1,h2⟩:=h; exact ⟨H1,h1.trans hle,h2⟩
def YSpecG {α σ τ : Type} (P : Program) (lr : Nat) (RA : Heaplet → Array Value → α → Prop) (Y : α → σ → Option (σ ⊕ τ)) (I : σ → Own → Heaplet → Prop) (X : τ → Own → Heaplet → Prop) : Prop :=
  ∀ y s args O H w out,IX I X (.inl s) O H → RA H args y → Y y s = some out → Agrees H w → OwnOk H O w →
    Yields P lr args w fun e w' => ∃ O' H',e = .returned (.bool out.isLeft) ∧ Mem w H (ids O) O' H' w' ∧ IX I X out O' H'

theorem JL.yieldG {α σ τ : Type} {RA : Heaplet → Array Value → α → Prop} {Y : α → σ → Option (σ ⊕ τ)} {I : σ → Own → Heaplet → Prop} {X : τ → Own → Heaplet → Prop} {lr : Nat} {c : Operand} {as : Array Operand} {ts : Array TypeId} {vs : List Value} {O : Own} {s : σ} (i : Nat) (y : α)
    {out : σ ⊕ τ} (hb : Y y s = some out) (hY : YSpecG x.P lr RA Y I X) (hc : evo l c = some (.func (.yield lr) #[] #[])) (ha : as.toList.mapM (evo l) = some vs) (hi : own[i]? = some O) (hI : IX I X (.inl s) O H) (hy : RA H vs.toArray y) (hd : Nat.blt d x.n = true)
    (hT : ∀ s' O' H',Hle H H' → IX I X (.inl s') O' H' → out = .inl s' → JL x ops Q rest ((d,.bool true) :: l) (own.set i O') H')
    (hF : ∀ t O' H',Hle H H' → IX I X (.inr t) O' H' → out = .inr t → JL x ops Q rest ((d,.bool false) :: l) (own.set i O') H') :
    JL x ops Q (⟨some d,.call ⟨.value c,as,ts⟩,ty,pos,aft,none⟩ :: rest) l own H:=fun a w hh => by
  simp only [wpLs,Zl,if_true]
  refine ⟨fun _ _ => trivial,?_⟩
  have hm:=hh.mem
  have hok : OwnOk H O w:=own_here hm hi
  obtain ⟨fn,tmps,assign,body,hrun0,hround⟩:=hY y s vs.toArray O H w out hI hy hb hm.agr hok
  have hrun : (execOp a.eval ⟨some d,.call ⟨.value c,as,ts⟩,ty,pos,aft,none⟩).run x.P w = .ok (.round lr fn tmps assign body) w:=by
    have e1:=Zi hh hc
    have e2:=mapM_eval (fun o u e => Zi hh e) ha
    simp only [execOp,resolve,e1,e2,Deferred.ofValue,Sem.run_bind,Sem.run_pure,Result.andThen,invoke]
    simpa using hrun0
  rw [Zp rfl,hrun]
  show (_ → _) ∧ RoundIn _ _ _ _ _ _ _ _ _ _
  refine ⟨fun e => by simp [Fw] at e,?_⟩
  refine RoundIn.mono (show RoundIn (Fw x.r) (0 - 1) x.P lr fn tmps assign body w _ from hround) ?_
  rintro e w' ⟨O',H',rfl,hm',hb'⟩
  have hm2 : Mem x.w0 x.H0 x.S (own.set i O').flatten H' w':=hm.go1 hi hm'
  cases out with
  | inl s' => exact hT s' O' H' hm'.le hb' rfl _ _ (Holds.put (x:=x) (l:=l) ⟨hh.size,hh.ds,hh.slots,hm2⟩ hd _)
  | inr t => exact hF t O' H' hm'.le hb' rfl _ _ (Holds.put (x:=x) (l:=l) ⟨hh.size,hh.ds,hh.slots,hm2⟩ hd _)
theorem JC.rangeG {α σ τ : Type} (hr : x.r = none) {g : Operand} {ps : Array Tmp} {assign body : Code} {gf : FuncId} {cap : Array Value} {RA : Heaplet → Array Value → α → Prop}
    (bd : α → σ → Option (σ ⊕ τ)) (s0 : σ) (tt : σ ⊕ τ) (I : σ → List Own → Heaplet → Prop) (X : τ → Code → List Own → Heaplet → Prop) (M : List Own → Heaplet → Prop) (mine own2 : List Own)
    (hg : evo l g = some (.func (.func gf) #[] cap)) (he : Enters x.P gf) (hown : own = mine ++ own2)
    (hit : ∀ (lr : Nat) (I' : σ → Own → Heaplet → Prop) (X' : τ → Own → Heaplet → Prop) (O : Own),YSpecG x.P lr RA bd I' X' → IX I' X' (.inl s0) O H →
      Does x.P gf (#[.func (.yield lr) #[] #[]] ++ cap) (mine ++ [O]) H (fun u K' H' => ∃ m' O',K' = m' ++ [O'] ∧ M m' H' ∧ IX I' X' tt O' H'))
    (hps : ∀ H args y,RA H args y → args.size = ps.size) (hlt : ps.toList.all (fun p => Nat.blt p x.n) = true)
    (h0 : I s0 own2 H)
    (hround : ∀ (lr : Nat) (y : α) (s : σ) (args : Array Value) (o : List Own) (H1 H' : Heaplet) (out : σ ⊕ τ),Hle H1 H' → I s o H1 → RA H' args y → bd y s = some out → ∃ L1 : Slots,
      (∀ wb,x.w0.heap.size ≤ wb.heap.size → JC { x with r:=some lr,w0:=wb,H0:=H',S:=ids o.flatten,ds:=[] } assign
        (Exit.then (fun a w => Holds { x with r:=some lr,w0:=wb,H0:=H',S:=ids o.flatten,ds:=[] } L1 o H' a w) (fun _ _ _ => False)) ((ps.toList.zip args.toList).reverse ++ l) o H') ∧
      (∀ wb,x.w0.heap.size ≤ wb.heap.size → JC { x with r:=some lr,w0:=wb,H0:=H',S:=ids o.flatten,ds:=[] } body (RoundS I X out wb H' (ids o.flatten)) L1 o H'))
    (hdone : ∀ (D : Nat) (s : σ) (m' o : List Own) (H1 H' : Heaplet),x.w0.heap.size ≤ D → tt = .inl s → M m' H' → Hle H1 H' → I s o H1 → Hle H H' → JN { x with ds:=mark D :: x.ds } (Q .normal) l ([(D,.deferred (some []))] :: (m' ++ o)) H')
    (hstop : ∀ (D : Nat) (c : Code) (e : τ) (m' o : List Own) (H1 H' : Heaplet),x.w0.heap.size ≤ D → tt = .inr e → M m' H' → Hle H1 H' → X e c o H1 → Hle H H' → JC { x with ds:=mark D :: x.ds } c Q l ([(D,.deferred (some []))] :: (m' ++ o)) H') :
    JC x (.rangeFunc g ps assign body) Q l own H:=fun a w hh => by
  have hFw : Fw x.r = Fence.wide:=by rw [hr]; rfl
  rw [hFw]
  refine wpIn_rangeFunc ?_
  intro fn hfn
  -- the two blocks
  obtain ⟨rec,hrec⟩ : ∃ rec : LoopState → Option Code → Loop,rec = fun st pe => { state:=st,pending:=pe,fn,tmps:=a.tmps,params:=ps,assign,body,defers:=w.heap.size }:=⟨_,rfl⟩
  have hm1:=hh.mem.go0 (K':=[[(w.heap.size,.deferred (some []))]]) (by simpa using Mem.alloc hh.mem.agr (.deferred (some [])))
  have hm2:=hm1.go0 (K':=[[((w.alloc (.deferred (some []))).heap.size,.loop (rec .ready none))]]) (by simpa using Mem.alloc hm1.agr (.loop (rec .ready none)))
  have hsz : (w.alloc (.deferred (some []))).heap.size = w.heap.size + 1:=by simp
  rw [hsz] at hm2
  obtain ⟨W,hW⟩ : ∃ W,W = (w.alloc (.deferred (some []))).alloc (.loop (rec .ready none)):=⟨_,rfl⟩
  rw [← hW] at hm2
  let D:=w.heap.size
  let lr:=w.heap.size + 1
  have hD : D ≠ lr:=by simp [D,lr]
  -- the invariant with its two blocks of book-keeping
  let tail : LoopState → Option Code → Own:=fun st pe => [(lr,Obj.loop (rec st pe)),(D,Obj.deferred (some []))]
  let I' : σ → Own → Heaplet → Prop:=fun s O H' => ∃ o : List Own,O = tail .ready none ++ o.flatten ∧ I s o H'
  let X' : τ → Own → Heaplet → Prop:=fun e O H' => ∃ (o : List Own) (c : Code),O = tail .done (some c) ++ o.flatten ∧ X e c o H'
  refine ⟨lr,[mark D],W,{ target:=.fn (.func gf) cap,args:=#[.func (.yield lr) #[] #[]] },W,gf,#[.func (.yield lr) #[] #[]] ++ cap,W,?_,?_,fun _ _ => trivial,?_,fun e => by simp [Fence.wide] at e,?_⟩
  · rw [hW,hrec]; exact run_enterLoop_outer _ _ _ _ _
  · have e1:=Zi hh hg
    simp only [resolve,e1]
    simp [go_sem,Act.eval,Deferred.ofValue,lr]
  · simp only [invoke]; exact he _ _
  · have hY : YSpecG x.P lr RA bd I' X':=by
      rintro y s args O H' w1 out ⟨H1',hle1,o,rfl,hI⟩ hy hbd hag hok
      have hsize:=hps _ _ _ hy
      have hrecs : w1.heap[lr]? = some (.loop (rec .ready none)):=hok.here (lr,Obj.loop (rec .ready none)) (by simp [tail])
      have hapr : ∀ k,H' lr k = none:=fun k => hok.apart (lr,Obj.loop (rec .ready none)) (by simp [tail]) k
      have hyld:=run_yield (P:=x.P) (args:=args) hrecs (by rw [hrec]; exact hsize)
      rw [hrec] at hyld
      refine ⟨fn,_,assign,body,hyld,?_⟩
      obtain ⟨L1,hA,hB⟩:=hround lr y s args o H1' H' out hle1 hI hy hbd
      refine roundIn_of_wpIn (F:=Fence.wide) trivial ?_
      have hput:=puts_holds (x:=x) (own:=own) (H:=H) (w:=w) x.n ps.toList args.toList a.tmps l hh.size hlt hh.slots
      have hfold : ((ps.zip args).foldl (fun t (p,v) => t.setIfInBounds p v) a.tmps) = ((ps.toList.zip args.toList).foldl (fun t (p,v) => t.setIfInBounds p v) a.tmps):=by
        rw [← Array.foldl_toList]; simp
      have hok2 : OwnOk H' o.flatten w1:=by
        exact OwnOk.right hok
      have hmo : Mem w1 H' (ids o.flatten) o.flatten H' w1:=Mem.same hag hok2
      refine wpIn_mono (Q:=Exit.then (fun a w => Holds { x with r:=some lr,w0:=w1,H0:=H',S:=ids o.flatten,ds:=[] } L1 o H' a w) (fun _ _ _ => False)) ?_ ?_
      · rw [hfold]
        have hDs : D < w1.heap.size:=(Array.getElem?_eq_some_iff.1 (hok.here (D,Obj.deferred (some [])) (by simp [tail]))).1
        exact hA w1 (Nat.le_trans hh.mem.kept.size (Nat.le_of_lt hDs)) { tmps:=_,defers:=[] } w1 ⟨hput.1,rfl,hput.2,hmo⟩
      · rintro e a1 w2 hh1
        cases e with
        | normal =>
          have hh1 : Holds { x with r:=some lr,w0:=w1,H0:=H',S:=ids o.flatten,ds:=[] } L1 o H' a1 w2:=hh1
          -- the assignments have turned nothing of the book-keeping
          have hlt1 : lr < w1.heap.size:=(Array.getElem?_eq_some_iff.1 hrecs).1
          have hnd:=hok.nodup
          have hlro : lr ∉ ids o.flatten:=fun hmem => by
            simp only [tail,ids,List.map_append,List.nodup_append] at hnd
            exact hnd.2.2 lr (by simp) lr hmem rfl
          have hDo : D ∉ ids o.flatten:=fun hmem => by
            simp only [tail,ids,List.map_append,List.nodup_append] at hnd
            exact hnd.2.2 D (by simp) D hmem rfl
          have hr2 : w2.heap[lr]? = some (.loop (rec .ready none)):=by rw [hh1.mem.kept.block lr hlt1 hlro]; exact hrecs
          -- the whole memory at the round's begin,seen from w1
          have hmw1 : Mem w1 H' (ids (tail .ready none ++ o.flatten)) (tail .ready none ++ o.flatten) H' w1:=Mem.same hag hok
          have hmw2 : Mem w1 H' (ids (tail .ready none ++ o.flatten)) (o.flatten ++ (tail .ready none)) H' w2 :=
            hmw1.go (K:=o.flatten) (rst:=(tail .ready none)) List.perm_append_comm hh1.mem
          have hbr:=run_beginRound (P:=x.P) hr2 (by rw [hrec])
          refine ⟨_,hbr,?_⟩
          have hmw3 : Mem w1 H' (ids (tail .ready none ++ o.flatten)) ([(lr,Obj.loop { rec .ready none with state:=.busy })] ++ (([(D,Obj.deferred (some []))] : Own) ++ o.flatten)) H' (w2.putObj lr (.loop { rec .ready none with state:=.busy })):=by
            refine hmw2.go (K:=[(lr,Obj.loop (rec .ready none))]) (rst:=[(D,Obj.deferred (some []))] ++ o.flatten) ?_ ?_
            · simp only [tail]
              refine List.perm_append_comm.trans ?_
              simp
            · exact Mem.putObj hh1.mem.agr hr2 hapr _
          have hDs : D < w1.heap.size:=(Array.getElem?_eq_some_iff.1 (hok.here (D,Obj.deferred (some [])) (by simp [tail]))).1
          have hsz2 : x.w0.heap.size ≤ (w2.putObj lr (.loop { rec .ready none with state:=.busy })).heap.size:=by
            have h1:=hh.mem.kept.size
            have h2 : w1.heap.size ≤ w2.heap.size:=hh1.mem.kept.size
            have h5 : w.heap.size < w1.heap.size:=hDs
            exact Nat.le_trans (Nat.le_trans h1 (Nat.le_trans (Nat.le_of_lt h5) h2)) (by simp)
          refine wpIn_mono (hB (w2.putObj lr (.loop { rec .ready none with state:=.busy })) hsz2 a1 _ ⟨hh1.size,hh1.ds,hh1.slots,Mem.same hmw3.agr ?_⟩) ?_
          · exact OwnOk.right (OwnOk.right hmw3.ok)
          · -- the round's end
            have fin : ∀ (jump : Option Code) (o1 : List Own) (H1 : Heaplet) (w3 : World),Mem (w2.putObj lr (.loop { rec .ready none with state:=.busy })) H' (ids o.flatten) o1.flatten H1 w3 →
                (Instr.endRound lr jump).run x.P w3 = .ok (.bool jump.isNone) (w3.putObj lr (.loop (rec (if jump.isNone then .ready else .done) jump))) ∧
                Mem w1 H' (ids (tail .ready none ++ o.flatten)) (tail (if jump.isNone then .ready else .done) jump ++ o1.flatten) H1 (w3.putObj lr (.loop (rec (if jump.isNone then .ready else .done) jump))):=by
              intro jump o1 H1 w3 hm3
              have hm4 : Mem w1 H' (ids (tail .ready none ++ o.flatten)) (o1.flatten ++ ([(lr,Obj.loop { rec .ready none with state:=.busy })] ++ [(D,Obj.deferred (some []))])) H1 w3:=by
                refine hmw3.go (K:=o.flatten) (rst:=[(lr,Obj.loop { rec .ready none with state:=.busy })] ++ [(D,Obj.deferred (some []))]) ?_ hm3
                rw [← List.append_assoc]; exact List.perm_append_comm
              have hl3 : w3.heap[lr]? = some (.loop { rec .ready none with state:=.busy }):=hm4.ok.here (lr,Obj.loop { rec .ready none with state:=.busy }) (by simp)
              have hap3 : ∀ k,H1 lr k = none:=fun k => hm4.ok.apart (lr,Obj.loop { rec .ready none with state:=.busy }) (by simp) k
              have hend:=run_endRound (P:=x.P) jump hl3
              rw [hrec] at hend ⊢
              refine ⟨hend,?_⟩
              have:=hm4.go (K:=[(lr,Obj.loop { rec .ready none with state:=.busy })]) (rst:=o1.flatten ++ [(D,Obj.deferred (some []))]) (by
                refine (List.perm_append_comm (l₁:=o1.flatten)).trans ?_
                rw [List.append_assoc]
                exact List.Perm.append_left _ List.perm_append_comm) (Mem.putObj hm4.agr hl3 hap3 (.loop { rec .ready none with state:=if jump.isNone then .ready else .done,pending:=jump }))
              rw [hrec] at this
              refine Mem.perm this ?_
              simp only [tail,hrec]
              exact List.Perm.append_left [_] (List.perm_append_comm (l₁:=o1.flatten) (l₂:=[(D,Obj.deferred (some []))]))
            rintro e2 a3 w3 hp
            cases e2 with
            | normal =>
              obtain ⟨s',o1,H1,rfl,hm3,hI1⟩:=hp
              obtain ⟨hend,hm5⟩:=fin none o1 H1 w3 hm3
              exact ⟨_,_,hend,_,H1,rfl,hm5,H1,Hle.refl _,o1,rfl,hI1⟩
            | ret =>
              obtain ⟨t,o1,H1,rfl,hm3,hX1⟩:=hp
              obtain ⟨hend,hm5⟩:=fin (some .ret) o1 H1 w3 hm3
              exact ⟨_,_,hend,_,H1,rfl,hm5,H1,Hle.refl _,o1,.ret,rfl,hX1⟩
            | exit id =>
              obtain ⟨t,o1,H1,rfl,hm3,hX1⟩:=hp
              obtain ⟨hend,hm5⟩:=fin (some (.exit id)) o1 H1 w3 hm3
              exact ⟨_,_,hend,_,H1,rfl,hm5,H1,Hle.refl _,o1,.exit id,rfl,hX1⟩
            | goto t => exact hp.elim
            | panic ch => exact hp.elim
            | outgrown => exact hp.elim
        | exit id => exact hh1.elim
        | goto t => exact hh1.elim
        | ret => exact hh1.elim
        | panic ch => exact hh1.elim
        | outgrown => exact hh1.elim
    -- the iterator
    have hD0:=hit lr I' X' (tail .ready none ++ own2.flatten) hY ⟨H,Hle.refl _,own2,rfl,h0⟩
    have hmW : Mem x.w0 x.H0 x.S (mine ++ [tail .ready none ++ own2.flatten]).flatten H W:=by
      refine (show Mem x.w0 x.H0 x.S (tail .ready none ++ own.flatten) H W by simpa [tail,D,lr] using hm2).perm ?_
      rw [hown]
      simp only [List.flatten_append,List.flatten_cons,List.flatten_nil,List.append_nil]
      exact (List.append_assoc (tail .ready none) mine.flatten own2.flatten) ▸ (List.Perm.append_right own2.flatten (List.perm_append_comm (l₁:=tail .ready none) (l₂:=mine.flatten))).trans (by rw [List.append_assoc])
    refine CallsIn.mono (hD0 W hmW.agr hmW.ok) ?_
    rintro e w3 ⟨v,K',H',rfl,⟨m',O',rfl,hM,hcase⟩,hm3⟩
    have hle : Hle H H':=hm3.le
    have hm4' : Mem x.w0 x.H0 x.S (m' ++ [O']).flatten H' w3:=by
      have:=hmW.go (K:=(mine ++ [tail .ready none ++ own2.flatten]).flatten) (rst:=[]) (by simp) hm3
      simpa using this
    obtain ⟨H1,hle1,hcase⟩:=hcase
    have hmk : ∀ (T o : Own),O' = T ++ o → Mem x.w0 x.H0 x.S (T ++ (m'.flatten ++ o)) H' w3:=fun T o e => by
      refine hm4'.perm ?_
      rw [e]
      simp only [List.flatten_append,List.flatten_cons,List.flatten_nil,List.append_nil]
      rw [← List.append_assoc,← List.append_assoc]
      exact List.Perm.append_right o List.perm_append_comm
    cases tt with
    | inl s =>
      obtain ⟨o,hO,hI⟩:=hcase
      have hm4:=hmk _ _ hO
      have hl3 : w3.heap[lr]? = some (.loop (rec .ready none)):=hm4.ok.here (lr,Obj.loop (rec .ready none)) (by simp [tail])
      have hap3 : ∀ k,H' lr k = none:=fun k => hm4.ok.apart (lr,Obj.loop (rec .ready none)) (by simp [tail]) k
      refine ⟨none,_,by have:=run_endLoop (P:=x.P) hl3 (by rw [hrec]; simp); rw [hrec] at this; exact this,?_⟩
      have hm5:=hm4.go (K:=[(lr,Obj.loop (rec .ready none))]) (rst:=[(D,Obj.deferred (some []))] ++ (m'.flatten ++ o.flatten)) (by simp [tail]) (Mem.putObj hm4.agr hl3 hap3 (.loop { rec .ready none with state:=.exhausted }))
      rw [hrec] at hm5
      have hDn : x.w0.heap.size ≤ D:=hh.mem.kept.size
      refine hdone D s m' o H1 H' hDn rfl hM hle1 hI hle _ _ ⟨hh.size,by simp [hh.ds],hh.slots,?_⟩
      have hs : ([(D,Obj.deferred (some []))] ++ (m'.flatten ++ o.flatten)).Sublist ([(lr,Obj.loop { rec .ready none with state:=.exhausted })] ++ ([(D,Obj.deferred (some []))] ++ (m'.flatten ++ o.flatten))):=List.sublist_append_right _ _
      rw [hrec] at hs
      rw [List.flatten_cons,List.flatten_append]
      exact hm5.sub hs
    | inr e =>
      obtain ⟨o,c,hO,hX⟩:=hcase
      have hm4:=hmk _ _ hO
      have hl3 : w3.heap[lr]? = some (.loop (rec .done (some c))):=hm4.ok.here (lr,Obj.loop (rec .done (some c))) (by simp [tail])
      have hap3 : ∀ k,H' lr k = none:=fun k => hm4.ok.apart (lr,Obj.loop (rec .done (some c))) (by simp [tail]) k
      refine ⟨some c,_,by have:=run_endLoop (P:=x.P) hl3 (by rw [hrec]; simp); rw [hrec] at this; exact this,?_⟩
      have hm5:=hm4.go (K:=[(lr,Obj.loop (rec .done (some c)))]) (rst:=[(D,Obj.deferred (some []))] ++ (m'.flatten ++ o.flatten)) (by simp [tail]) (Mem.putObj hm4.agr hl3 hap3 (.loop { rec .done (some c) with state:=.exhausted }))
      rw [hrec] at hm5
      have hDn : x.w0.heap.size ≤ D:=hh.mem.kept.size
      have hJ:=hstop D c e m' o H1 H' hDn rfl hM hle1 hX hle
      have hJ' : c.wpIn (Fw x.r) 0 x.P Q { tmps:=a.tmps,defers:=mark D :: a.defers } (w3.putObj lr (.loop { rec .done (some c) with state:=.exhausted })):=by
        refine hJ _ _ ⟨hh.size,by simp [hh.ds],hh.slots,?_⟩
        have hs : ([(D,Obj.deferred (some []))] ++ (m'.flatten ++ o.flatten)).Sublist ([(lr,Obj.loop { rec .done (some c) with state:=.exhausted })] ++ ([(D,Obj.deferred (some []))] ++ (m'.flatten ++ o.flatten))):=List.sublist_append_right _ _
        rw [hrec] at hs ⊢
        rw [List.flatten_cons,List.flatten_append]
        exact hm5.sub hs
      rw [hFw,hrec] at hJ'
      exact hJ'
end Go.Ow

/-
  What is proved here: memory that callees have made is taken back, to be written in: the law's memory of the beginning is set anew; cells of whole numbers may turn, headers stay; over OwZD.
-/
namespace Go.Ow
open Go.RowKit
set_option linter.unusedVariables false
set_option linter.unusedSimpArgs false

variable {x : Cx} {ops : Array Oper} {Q : Exit → Act → World → Prop} {rest : List Oper} {l : Slots} {own : List Own} {H HF : Heaplet}
variable {ty : TypeId} {d : Nat} {pos : String} {aft : Array Edge} {p q : Operand}

def Low (H : Heaplet) (n : Nat) : Prop:=∀ b o v,H b o = some v → b < n
theorem Low.of {w : World} (h : Agrees H w) : Low H w.heap.size:=fun b o v e => by
  have:=h b o v e
  by_cases c : b < w.heap.size
  · exact c
  · exfalso
    have hn : w.heap[b]? = none:=Array.getElem?_eq_none (by omega)
    simp [World.cell?,hn] at this
abbrev Cx.at' (x : Cx) (w1 : World) (H : Heaplet) (own : List Own) : Cx:={ P:=x.P,r:=x.r,n:=x.n,w0:=w1,H0:=H,S:=ids own.flatten,ds:=x.ds }
theorem JC.root {c : Code} {fn : Func} {R : Value → List Own → Heaplet → Prop}
    (h : ∀ w1 : World,x.w0.heap.size ≤ w1.heap.size → Low H w1.heap.size → (∀ i ∈ ids own.flatten,i < w1.heap.size) → JC (x.at' w1 H own) c (Ret (x.at' w1 H own) fn R) l own H) :
    JC x c (Ret x fn R) l own H:=fun a w hh => by
  have hlt : ∀ i ∈ ids own.flatten,i < w.heap.size:=fun i hi => by
    obtain ⟨p,hp,rfl⟩:=List.mem_map.1 hi; exact hh.mem.ok.lt p hp
  have h1:=h w hh.mem.kept.size (Low.of hh.mem.agr) hlt a w ⟨hh.size,hh.ds,hh.slots,⟨hh.mem.agr,hh.mem.ok,Kept.refl _ _,fun p hp => .inl (List.mem_map_of_mem hp),Hle.refl _,fun _ _ _ => rfl,Mem.soft0⟩⟩
  refine wpIn_mono h1 ?_
  have key : ∀ (e : Ending) (w' : World),(∃ v K' H',e = .returned v ∧ R v K' H' ∧ Mem w H (ids own.flatten) K'.flatten H' w') → (∃ v K' H',e = .returned v ∧ R v K' H' ∧ Mem x.w0 x.H0 x.S K'.flatten H' w'):=by
    rintro e w' ⟨v,K',H',he,hR,hm⟩
    refine ⟨v,K',H',he,hR,?_⟩
    have:=hh.mem.go (K:=own.flatten) (rst:=[]) (by simp) hm
    simpa using this
  intro e a' w' hq
  cases e with
  | normal => exact ⟨hq.1,by obtain ⟨v,h2,h3⟩:=hq.2; exact ⟨v,h2,key _ _ h3⟩⟩
  | ret => exact ⟨hq.1,by obtain ⟨v,h2,h3⟩:=hq.2; exact ⟨v,h2,key _ _ h3⟩⟩
  | panic ch => exact ⟨hq.1,key _ _ hq.2⟩
  | outgrown => exact key _ _ hq
  | exit id => exact hq.elim
  | goto t => exact hq.elim

/-! ### Memory that is taken back -/
def Kin (v v' : Value) : Prop:=v' = v ∨ match v with
  | .int .u8 _ => ∃ a : UInt8,v' = .int .u8 (a.toNat : Int)
  | .int .i64 _ => ∃ a : Int,v' = .int .i64 a
  | _ => False
def TH (N : Heaplet) (D : Own) : Prop:=∀ b o v,N b o = some v → ∃ cur t,(b,Obj.cells cur t (0,0)) ∈ D ∧ ∃ v',cur.toList[o]? = some v' ∧ Kin v v'
theorem TH.exact {N : Heaplet} {D : Own} {b o : Nat} {v : Value} (h : TH N D) (hN : N b o = some v) (hv : ∀ k n,v ≠ .int k n) : ∃ cur t,(b,Obj.cells cur t (0,0)) ∈ D ∧ cur.toList[o]? = some v:=by
  obtain ⟨cur,t,h1,v',h2,h3⟩:=h b o v hN
  rcases h3 with rfl | h3
  · exact ⟨cur,t,h1,h2⟩
  · exfalso; revert h3; cases v <;> simp_all
theorem TH.u8 {N : Heaplet} {D : Own} {b o : Nat} {y : UInt8} (h : TH N D) (hN : N b o = some (.int .u8 (y.toNat : Int))) : ∃ (a : UInt8) (cur : Array Value) (t : TypeId),(b,Obj.cells cur t (0,0)) ∈ D ∧ cur.toList[o]? = some (.int .u8 (a.toNat : Int)):=by
  obtain ⟨cur,t,h1,v',h2,h3⟩:=h b o _ hN
  rcases h3 with rfl | ⟨a,rfl⟩
  · exact ⟨y,cur,t,h1,h2⟩
  · exact ⟨a,cur,t,h1,h2⟩
theorem TH.i64 {N : Heaplet} {D : Own} {b o : Nat} {y : Int} (h : TH N D) (hN : N b o = some (.int .i64 y)) : ∃ (a : Int) (cur : Array Value) (t : TypeId),(b,Obj.cells cur t (0,0)) ∈ D ∧ cur.toList[o]? = some (.int .i64 a):=by
  obtain ⟨cur,t,h1,v',h2,h3⟩:=h b o _ hN
  rcases h3 with rfl | ⟨a,rfl⟩
  · exact ⟨y,cur,t,h1,h2⟩
  · exact ⟨a,cur,t,h1,h2⟩
def newBlocks (n : Nat) (own : Own) (w : World) : Own:=(List.range' n (w.heap.size - n)).filterMap fun b => if b ∈ ids own then none else (w.heap[b]?).map fun o => (b,o)
theorem mem_newBlocks {n : Nat} {own : Own} {w : World} {q : Nat × Obj} : q ∈ newBlocks n own w ↔ n ≤ q.1 ∧ q.1 ∉ ids own ∧ w.heap[q.1]? = some q.2:=by
  unfold newBlocks
  rw [List.mem_filterMap]
  constructor
  · rintro ⟨b,hb,h⟩
    rw [List.mem_range'_1] at hb
    by_cases c : b ∈ ids own
    · rw [if_pos c] at h; cases h
    · rw [if_neg c] at h
      cases ho : w.heap[b]? with
      | none => rw [ho] at h; cases h
      | some o => rw [ho] at h; obtain rfl:=Option.some.inj h; exact ⟨hb.1,c,ho⟩
  · rintro ⟨h1,h2,h3⟩
    have hlt : q.1 < w.heap.size:=(Array.getElem?_eq_some_iff.1 h3).1
    exact ⟨q.1,by rw [List.mem_range'_1]; omega,by rw [if_neg h2,h3]; rfl⟩
theorem newBlocks_nodup (n : Nat) (own : Own) (w : World) : (ids (newBlocks n own w)).Nodup:=by
  unfold newBlocks ids
  have : ∀ l : List Nat,l.Nodup → ((l.filterMap fun b => if b ∈ ids own then none else (w.heap[b]?).map fun o => (b,o)).map (·.1)).Nodup:=by
    intro l
    induction l with
    | nil => intro _; simp
    | cons b l ih =>
      intro h
      rw [List.nodup_cons] at h
      have ih:=ih h.2
      rw [List.filterMap_cons]
      split
      · exact ih
      · rename_i q hq
        rw [List.map_cons,List.nodup_cons]
        refine ⟨fun hm => ?_,ih⟩
        obtain ⟨r,hr,e⟩:=List.mem_map.1 hm
        obtain ⟨b',hb',hr'⟩:=List.mem_filterMap.1 hr
        have e1 : q.1 = b:=by
          by_cases c : b ∈ ids own
          · rw [if_pos c] at hq; cases hq
          · rw [if_neg c] at hq
            cases ho : w.heap[b]? with
            | none => rw [ho] at hq; cases hq
            | some o => rw [ho] at hq; obtain rfl:=Option.some.inj hq; rfl
        have e2 : r.1 = b':=by
          by_cases c : b' ∈ ids own
          · rw [if_pos c] at hr'; cases hr'
          · rw [if_neg c] at hr'
            cases ho : w.heap[b']? with
            | none => rw [ho] at hr'; cases hr'
            | some o => rw [ho] at hr'; obtain rfl:=Option.some.inj hr'; rfl
        exact h.1 (by rw [← e1,← e,e2]; exact hb')
  exact this _ (List.nodup_range')
theorem JC.thaw {c : Code} (hl : Low x.H0 x.w0.heap.size) (h : ∀ D,TH (New x.H0 H) D → JC x c Q l (D :: own) x.H0) : JC x c Q l own H:=fun a w hh => by
  have hnew : ∀ b o v,New x.H0 H b o = some v → x.w0.heap.size ≤ b ∧ b ∉ ids own.flatten ∧ ∃ cur t,w.heap[b]? = some (.cells cur t (0,0)) ∧ cur.toList[o]? = some v:=by
    intro b o v e
    have e0 : x.H0 b o = none:=by
      unfold New at e; split at e
      · assumption
      · cases e
    have e1:=New.le _ _ b o v e
    refine ⟨?_,?_,?_⟩
    · apply Nat.le_of_not_lt
      intro hc
      rw [hh.mem.grow b o hc,e0] at e1; cases e1
    · intro hc
      obtain ⟨p,hp,rfl⟩:=List.mem_map.1 hc
      rw [hh.mem.ok.apart p hp o] at e1; cases e1
    · obtain ⟨cur,t,hb⟩:=hh.mem.soft b o v e0 e1
      refine ⟨cur,t,hb,?_⟩
      have:=hh.mem.agr b o v e1
      rw [cell_of_row w b o cur t (0,0) hb] at this
      simpa using this
  refine h (newBlocks x.w0.heap.size own.flatten w) ?_ a w ?_
  · intro b o v e
    obtain ⟨h1,h2,cur,t,h3,h4⟩:=hnew b o v e
    exact ⟨cur,t,mem_newBlocks.2 ⟨h1,h2,h3⟩,v,h4,.inl rfl⟩
  · have hh0:=hh.low0
    refine ⟨hh0.size,hh0.ds,hh0.slots,hh0.mem.agr,⟨?_,?_,?_⟩,hh0.mem.kept,?_,hh0.mem.le,hh0.mem.grow,hh0.mem.soft⟩
    · intro p hp
      rw [List.flatten_cons,List.mem_append] at hp
      rcases hp with hp | hp
      · exact (mem_newBlocks.1 hp).2.2
      · exact hh0.mem.ok.here p hp
    · rw [List.flatten_cons]
      simp only [ids,List.map_append]
      refine List.nodup_append.2 ⟨newBlocks_nodup _ _ _,hh0.mem.ok.nodup,fun i hi j hj e => ?_⟩
      subst e
      obtain ⟨p,hp,rfl⟩:=List.mem_map.1 hi
      exact (mem_newBlocks.1 hp).2.1 hj
    · intro p hp o
      rw [List.flatten_cons,List.mem_append] at hp
      rcases hp with hp | hp
      · cases e : x.H0 p.1 o with
        | none => rfl
        | some v => have:=hl _ _ _ e; have:=(mem_newBlocks.1 hp).1; omega
      · exact hh0.mem.ok.apart p hp o
    · intro p hp
      rw [List.flatten_cons,List.mem_append] at hp
      rcases hp with hp | hp
      · exact .inr (mem_newBlocks.1 hp).1
      · exact hh0.mem.fresh p hp
theorem JL.stT (i : Nat) {T b o : Nat} {D : Own} {N : Heaplet} {v u : Value} (hs : shapeOf x.P T = some (false,1)) (hi : own[i]? = some D) (hT : TH N D) (hN : N b o = some v) (h1 : evo l p = some (.pointer (some ⟨b,o,none⟩))) (h2 : evo l q = some u)
    (hu : ∃ k n,u = .int k n) (hk : Kin v u) (h : ∀ D',TH N D' → JL x ops Q rest l (own.set i D') H) : JL x ops Q (⟨none,.store T p q,ty,pos,aft,none⟩ :: rest) l own H:=fun a w hh => by
  have e1:=Zi hh h1
  have e2:=Zi hh h2
  simp only [wpLs,Zl,if_true]
  refine ⟨fun _ _ => trivial,?_⟩
  obtain ⟨cur,t,hm,v',hv',-⟩:=hT b o v hN
  have hin:=own_here hh.mem hi
  have hbk:=hin.here _ hm
  have hap : ∀ o,H b o = none:=fun o => hin.apart _ hm o
  have ho : o < cur.size:=by have:=(List.getElem?_eq_some_iff.1 hv').1; simpa using this
  obtain ⟨k,n,rfl⟩:=hu
  have hst:=run_storeAt (P:=x.P) (T:=T) (w:=w) (b:=b) (o:=o) (v:=.int k n) hs rfl rfl hbk (by omega)
  obtain ⟨C,hC⟩ : ∃ C,C = (cur.toList.take o ++ (Value.int k n).cells.toList ++ cur.toList.drop (o + 1)).toArray:=⟨_,rfl⟩
  rw [← hC] at hst
  have hr : (execOp a.eval ⟨none,.store T p q,ty,pos,aft,none⟩).run x.P w = .ok .skip (w.setRow b C):=by
    generalize a.eval = ρ at e1 e2
    simp only [execOp,e1,e2]
    exact run_u hst
  rw [Zp rfl,hr]
  obtain ⟨A,B,hD⟩:=List.append_of_mem hm
  have hset : C.toList = cur.toList.set o (.int k n):=by
    rw [hC,List.set_eq_take_append_cons_drop,if_pos (by simpa using ho)]
    simp [Value.cells]
  have hnd:=hin.nodup
  refine h (A ++ (b,.cells C t (0,0)) :: B) ?_ _ _ ⟨hh.size,hh.ds,hh.slots,?_⟩
  · intro b' o' w' hw'
    obtain ⟨cur',t',g1,v2,g2,g3⟩:=hT b' o' w' hw'
    by_cases c : b' = b
    · subst c
      have : (b',Obj.cells cur' t' (0,0)) = (b',Obj.cells cur t (0,0)):=by
        rw [hD] at g1 hnd
        simp only [ids,List.map_append,List.map_cons,List.nodup_append,List.nodup_cons] at hnd
        rcases List.mem_append.1 g1 with g | g
        · exact absurd rfl (hnd.2.2 b' (List.mem_map.2 ⟨_,g,rfl⟩) b' (by simp))
        · rcases List.mem_cons.1 g with g | g
          · exact g
          · exact absurd (List.mem_map.2 ⟨_,g,rfl⟩) hnd.2.1.1
      simp only [Prod.mk.injEq,Obj.cells.injEq,true_and] at this
      obtain ⟨rfl,rfl,-⟩:=this
      refine ⟨C,t',by simp,?_⟩
      rw [hset,List.getElem?_set]
      by_cases c2 : o = o'
      · subst c2
        rw [hN] at hw'
        obtain rfl:=Option.some.inj hw'
        exact ⟨_,by rw [if_pos rfl,if_pos (by simpa using ho)],hk⟩
      · exact ⟨v2,by rw [if_neg c2]; exact g2,g3⟩
    · refine ⟨cur',t',?_,v2,g2,g3⟩
      rw [hD] at g1
      rcases List.mem_append.1 g1 with g | g
      · exact List.mem_append.2 (.inl g)
      · rcases List.mem_cons.1 g with g | g
        · cases g; exact absurd rfl c
        · exact List.mem_append.2 (.inr (List.mem_cons_of_mem _ g))
  · have:=hh.mem.go1 (K':=A ++ (b,.cells C t (0,0)) :: B) hi (by
      have hm1 : Mem w H (ids D) D H w:=Mem.same hh.mem.agr hin
      have:=hm1.go (K:=[(b,.cells cur t (0,0))]) (rst:=A ++ B) (by rw [hD]; exact List.perm_middle) (by simpa [ids] using Mem.setRow hh.mem.agr hbk hap C)
      exact this.perm (by simpa using (List.perm_middle (a:=(b,Obj.cells C t (0,0))) (l₁:=A) (l₂:=B)).symm))
    exact this
theorem Kin.u8 {y a : UInt8} : Kin (.int .u8 (y.toNat : Int)) (.int .u8 (a.toNat : Int)):=.inr ⟨a,rfl⟩
theorem Kin.i64 {y a : Int} : Kin (.int .i64 y) (.int .i64 a):=.inr ⟨a,rfl⟩
theorem JC.tidy {c : Code} {l' : Slots} {own' : List Own} (hl : Sub l' l) (ho : own' = own) (h : JC x c Q l' own' H) : JC x c Q l own H:=by
  subst ho; exact JC.sub hl h
theorem JC.tidyP {c : Code} {l' : Slots} {own' rst : List Own} (hl : Sub l' l) (hp : own.flatten.Perm (own'.flatten ++ rst.flatten)) (h : JC x c Q l' own' H) : JC x c Q l own H:=fun a w hh => by
  have hh':=hh.sub hl
  exact h a w ⟨hh'.size,hh'.ds,hh'.slots,(hh'.mem.perm hp).sub (List.sublist_append_left _ _)⟩
end Go.Ow

/-
  What is proved here: rows with a room of noughts behind them: 'make' with a length and a greater room, appends within it, the row with its noughts; over OwZE.
-/
namespace Go.Ow
open Go.RowKit
set_option linter.unusedVariables false
set_option linter.unusedSimpArgs false

variable {x : Cx} {ops : Array Oper} {Q : Exit → Act → World → Prop} {rest : List Oper} {l : Slots} {own : List Own} {H HF : Heaplet}
variable {ty : TypeId} {d : Nat} {pos : String} {aft : Array Edge} {p q : Operand} {t : TypeId}

def Spare (v : Value) (K : Own) (N : Nat) : Prop:=∃ g n cur E,v = .slice (some ⟨g,0,none⟩) n N ∧ K = [(g,Obj.cells cur E (0,0))] ∧ n ≤ N ∧ N ≤ cur.size ∧ (cur.toList.drop n).take (N - n) = List.replicate (N - n) (.int .u8 0)
theorem Flat.bytes_eq {H : Heaplet} : ∀ {l : List UInt8} {cells : List Value},Flat H RU8 1 cells l → cells = bvs l
  | [],cells,h => h
  | b :: l,cells,h => by
    obtain ⟨cs,more,rfl,h1,h2,h3⟩:=h
    rw [Flat.bytes_eq h3,show cs = [.int .u8 (b.toNat : Int)] from h2]; rfl
theorem RowOf.spare {B : Nat} {E : TypeId} {v : Value} {m m' : List UInt8} {K : Own} {N : Nat} {b : Int} (h : RowOf HF RU8 B E 1 v m K) (hs : Spare v K N) (hm : m' = m ++ List.replicate (b.toNat - m.length) 0) (hb : (m.length : Int) ≤ b ∧ b ≤ N) :
    ∃ g0,v = .slice (some ⟨g0,0,none⟩) m.length N ∧ RowOf HF RU8 B E 1 (.slice (some ⟨g0,0,none⟩) b.toNat N) m' K:=by
  obtain ⟨g,n,cur,E',rfl,rfl,h1,h2,h3⟩:=hs
  obtain ⟨cells,⟨h0,hr⟩,hf,ho⟩:=h
  rcases hr with ⟨e,-⟩ | ⟨g',cap,cur',e1,e2,e3,e4,e5,e6,e7⟩
  · cases e
  simp only [Value.slice.injEq,Option.some.injEq,Addr.mk.injEq] at e1
  obtain ⟨⟨rfl,-,-⟩,rfl,rfl⟩:=e1
  simp only [List.cons.injEq,Prod.mk.injEq,Obj.cells.injEq,and_true,true_and] at e2
  obtain ⟨rfl,rfl⟩:=e2
  have hml : m'.length = b.toNat:=by rw [hm,List.length_append,List.length_replicate]; omega
  refine ⟨_,rfl,bvs m',⟨by rw [hml]; simp [bvs,hml],.inr ⟨g,N,cur,by rw [hml],rfl,e3,by rw [hml]; omega,e5,by omega,?_⟩⟩,Flat.bytes m',(Flat.bytes (H:=HF) m').one' RU8.one⟩
  rw [hml,Nat.mul_one]
  have hc : cells = bvs m:=Flat.bytes_eq hf
  have e : cur.toList.take b.toNat = cur.toList.take m.length ++ ((cur.toList.drop m.length).take (b.toNat - m.length)):=by
    conv => lhs; rw [show b.toNat = m.length + (b.toNat - m.length) by omega,List.take_add]
  have e8 : (cur.toList.drop m.length).take (b.toNat - m.length) = List.replicate (b.toNat - m.length) (.int .u8 0):=by
    have:=congrArg (List.take (b.toNat - m.length)) h3
    rw [List.take_take,Nat.min_eq_left (by omega),List.take_replicate,Nat.min_eq_left (by omega)] at this
    exact this
  rw [Nat.mul_one] at e7
  rw [e,e8,e7,hc,hm]
  simp [bvs]
end Go.Ow

/-
  What is proved here: plain vocabulary of rows with a room of noughts.
-/
namespace Go.Ow
variable {α β : Type}
end Go.Ow

/-
  What is proved here: arrays of bytes: slices of them, slices as arrays, equality; appends of noughts to a slice that is full; over OwZF.
-/
namespace Go.Ow
open Go.RowKit
set_option linter.unusedVariables false
set_option linter.unusedSimpArgs false

variable {x : Cx} {ops : Array Oper} {Q : Exit → Act → World → Prop} {rest : List Oper} {l : Slots} {own : List Own} {H HF : Heaplet}
variable {ty : TypeId} {d : Nat} {pos : String} {aft : Array Edge} {p q : Operand} {t u : TypeId}

theorem IsSlice.first {ao : Option Addr} {n c N : Nat} {ls m : List UInt8} (h : IsSlice HF RU8 1 (.slice ao n c) ls) (hm : m = ls.take N) (hN : N ≤ ls.length) (h0 : 0 < N) :
    ∃ b o,ao = some ⟨b,o,none⟩ ∧ N ≤ n ∧ ∀ j u,(bvs m)[j]? = some u → HF b (o + j) = some u:=by
  subst hm
  obtain ⟨cells,hf,ao',cap',e,hc⟩:=h.cells
  obtain rfl:=Flat.bytes_eq hf
  simp only [Value.slice.injEq] at e
  obtain ⟨rfl,rfl,rfl⟩:=e
  rcases hc with rfl | ⟨b,o,rfl,hc⟩
  · simp only [List.length_nil] at hN; omega
  · refine ⟨b,o,rfl,hN,fun j u hj => hc j u ?_⟩
    have : bvs (ls.take N) = (bvs ls).take N:=by unfold bvs; rw [List.map_take]
    rw [this,List.getElem?_take] at hj
    split at hj
    · exact hj
    · cases hj

/-! ### Equality -/
/-! ### An own array as a row -/
/-! ### Append of noughts to a slice that is full -/
end Go.Ow

/-
  What is proved here: cells that are made, at any time, in a region whose order Go leaves open: told apart from its other operations; over OwZG.
-/
namespace Go.Ow
open Go.RowKit
set_option linter.unusedVariables false
set_option linter.unusedSimpArgs false

variable {x : Cx} {ops : Array Oper} {Q : Exit → Act → World → Prop} {l : Slots} {own : List Own} {H : Heaplet} {so : List Own} {sH : Heaplet}

structure ASpec where
  i : Nat
  d : Nat
  T : TypeId
  z : Value
abbrev AM:=List (ASpec × Option Nat)
def AM.sl : AM → Slots
  | [] => []
  | (s,some b) :: r => (s.d,.pointer (some ⟨b,0,none⟩)) :: AM.sl r
  | (s,none) :: r => AM.sl r
def AM.ow : AM → List Own
  | [] => []
  | (s,some b) :: r => [(b,.cells s.z.cells s.T (0,0))] :: AM.ow r
  | (s,none) :: r => AM.ow r
def AM.lst : AM → Array Bool → Array Bool
  | [],a => a
  | (s,some _) :: r,a => AM.lst r (a.setIfInBounds s.i true)
  | (s,none) :: r,a => AM.lst r a
def AM.left : AM → Nat
  | [] => 0
  | (_,some _) :: r => AM.left r
  | (_,none) :: r => AM.left r + 1
def AM.bs (m : AM) : List Bool:=m.map (·.2.isSome)
def lstB : List ASpec → List Bool → Array Bool → Array Bool
  | s :: r,true :: bs,a => lstB r bs (a.setIfInBounds s.i true)
  | _ :: r,false :: bs,a => lstB r bs a
  | _,_,a => a
def undone : List ASpec → List Bool → List Nat
  | _ :: r,true :: bs => undone r bs
  | s :: r,false :: bs => s.i :: undone r bs
  | _,_ => []
def allB : Nat → List (List Bool)
  | 0 => [[]]
  | n + 1 => (allB n).flatMap fun bs => [true :: bs,false :: bs]
theorem allB_mem : ∀ (bs : List Bool),bs ∈ allB bs.length
  | [] => by simp [allB]
  | b :: bs => by
    simp only [List.length_cons,allB,List.mem_flatMap]
    exact ⟨bs,allB_mem bs,by cases b <;> simp⟩
theorem AM.lst_eq : ∀ (m : AM) (a : Array Bool),m.lst a = lstB (m.map (·.1)) m.bs a
  | [],_ => rfl
  | (s,some b) :: r,a => AM.lst_eq r _
  | (s,none) :: r,a => AM.lst_eq r _
theorem set_true_comm (a : Array Bool) (i j : Nat) : (a.setIfInBounds i true).setIfInBounds j true = (a.setIfInBounds j true).setIfInBounds i true:=by
  by_cases h : i = j
  · subst h; rfl
  · exact Array.setIfInBounds_comm _ _ h
theorem AM.lst_set : ∀ (m : AM) (a : Array Bool) (k : Nat),(m.lst a).setIfInBounds k true = m.lst (a.setIfInBounds k true)
  | [],_,_ => rfl
  | (s,some b) :: r,a,k => by show (AM.lst r _).setIfInBounds k true = AM.lst r _; rw [AM.lst_set r,set_true_comm]
  | (s,none) :: r,a,k => AM.lst_set r a k
theorem AM.lst_none : ∀ (A : List ASpec) (a : Array Bool),AM.lst (A.map fun s => (s,none)) a = a
  | [],_ => rfl
  | s :: r,a => AM.lst_none r a
theorem AM.sl_none : ∀ (A : List ASpec),AM.sl (A.map fun s => (s,none)) = []
  | [] => rfl
  | s :: r => AM.sl_none r
theorem AM.ow_none : ∀ (A : List ASpec),AM.ow (A.map fun s => (s,none)) = []
  | [] => rfl
  | s :: r => AM.ow_none r
theorem AM.left_none : ∀ (A : List ASpec),AM.left (A.map fun s => (s,none)) = A.length
  | [] => rfl
  | s :: r => by show AM.left (r.map fun s => (s,none)) + 1 = _; rw [AM.left_none r]; rfl
theorem AM.split : ∀ (m : AM) (k : Nat),k ∈ undone (m.map (·.1)) m.bs → ∃ m1 m2 s,m = m1 ++ (s,none) :: m2 ∧ s.i = k
  | (s,some b) :: r,k,h => by
    obtain ⟨m1,m2,s',rfl,e⟩:=AM.split r k h
    exact ⟨(s,some b) :: m1,m2,s',rfl,e⟩
  | (s,none) :: r,k,h => by
    have h' : k ∈ s.i :: undone (r.map (·.1)) (AM.bs r):=h
    rcases List.mem_cons.1 h' with e | e
    · exact ⟨[],r,s,rfl,e.symm⟩
    · obtain ⟨m1,m2,s',rfl,e2⟩:=AM.split r k e
      exact ⟨(s,none) :: m1,m2,s',rfl,e2⟩
theorem AM.made_left : ∀ (m1 m2 : AM) (s : ASpec) (b : Nat),(m1 ++ (s,none) :: m2).left = (m1 ++ (s,some b) :: m2).left + 1
  | [],_,_,_ => rfl
  | (_,some _) :: r,m2,s,b => AM.made_left r m2 s b
  | (_,none) :: r,m2,s,b => by show AM.left (r ++ _) + 1 = AM.left (r ++ _) + 1 + 1; rw [AM.made_left r m2 s b]
theorem AM.made_lst : ∀ (m1 m2 : AM) (s : ASpec) (b : Nat) (a : Array Bool),(m1 ++ (s,some b) :: m2).lst a = (m1 ++ (s,none) :: m2).lst (a.setIfInBounds s.i true)
  | [],_,_,_,_ => rfl
  | (t,some _) :: r,m2,s,b,a => by show AM.lst (r ++ _) _ = AM.lst (r ++ _) _; rw [AM.made_lst r m2 s b,set_true_comm]
  | (t,none) :: r,m2,s,b,a => AM.made_lst r m2 s b a
theorem AM.made_map : ∀ (m1 m2 : AM) (s : ASpec) (b : Nat),(m1 ++ (s,some b) :: m2).map (·.1) = (m1 ++ (s,none) :: m2).map (·.1):=fun m1 m2 s b => by simp
theorem AM.made_ow : ∀ (m1 m2 : AM) (s : ASpec) (b : Nat),(AM.ow (m1 ++ (s,some b) :: m2)).Perm ([(b,.cells s.z.cells s.T (0,0))] :: AM.ow (m1 ++ (s,none) :: m2))
  | [],_,_,_ => List.Perm.refl _
  | (t,some c) :: r,m2,s,b => ((AM.made_ow r m2 s b).cons _).trans (List.Perm.swap _ _ _)
  | (t,none) :: r,m2,s,b => AM.made_ow r m2 s b
theorem lk_app : ∀ (l t : Slots) (i : Nat),lk (l ++ t) i = match lk l i with | some v => some v | none => lk t i
  | [],_,_ => rfl
  | (k,v) :: r,t,i => by
    simp only [List.cons_append,lk]
    cases h : Nat.beq k i with
    | true => rfl
    | false => exact lk_app r t i
theorem lk_appL {l t : Slots} {i : Nat} {v : Value} (h : lk l i = some v) : lk (l ++ t) i = some v:=by rw [lk_app,h]
theorem evo_app {l t : Slots} {o : Operand} {v : Value} (h : evo l o = some v) : evo (l ++ t) o = some v:=by
  cases o with
  | tmp k => exact lk_appL h
  | const u => exact h
  | global g => exact h
  | func f => exact h
theorem AM.made_lk : ∀ (m1 m2 : AM) (s : ASpec) (b : Nat) (i : Nat) (v : Value),((m1 ++ (s,none) :: m2).map (fun p => p.1.d)).Nodup → lk (AM.sl (m1 ++ (s,some b) :: m2)) i = some v →
    (i = s.d ∧ v = .pointer (some ⟨b,0,none⟩)) ∨ (i ≠ s.d ∧ lk (AM.sl (m1 ++ (s,none) :: m2)) i = some v)
  | [],m2,s,b,i,v,hn,h => by
    have h' : lk ((s.d,.pointer (some ⟨b,0,none⟩)) :: AM.sl m2) i = some v:=h
    simp only [lk] at h'
    cases hb : Nat.beq s.d i with
    | true => rw [hb] at h'; simp at h'; exact .inl ⟨(Nat.eq_of_beq_eq_true hb).symm,h'.symm⟩
    | false =>
      rw [hb] at h'
      exact .inr ⟨fun e => by subst e; simp at hb,h'⟩
  | (t,some c) :: r,m2,s,b,i,v,hn,h => by
    have h' : lk ((t.d,.pointer (some ⟨c,0,none⟩)) :: AM.sl (r ++ (s,some b) :: m2)) i = some v:=h
    have hn' : t.d ∉ (r ++ (s,none) :: m2).map (fun p => p.1.d) ∧ ((r ++ (s,none) :: m2).map (fun p => p.1.d)).Nodup:=by
      rw [List.cons_append,List.map_cons,List.nodup_cons] at hn; exact hn
    have hts : t.d ≠ s.d:=fun e => hn'.1 (by rw [e]; simp)
    show _ ∨ (_ ∧ lk ((t.d,.pointer (some ⟨c,0,none⟩)) :: AM.sl (r ++ (s,none) :: m2)) i = some v)
    simp only [lk] at h' ⊢
    cases hb : Nat.beq t.d i with
    | true =>
      rw [hb] at h'
      have e : t.d = i:=Nat.eq_of_beq_eq_true hb
      exact .inr ⟨by rw [← e]; exact hts,h'⟩
    | false => rw [hb] at h'; exact AM.made_lk r m2 s b i v hn'.2 h'
  | (t,none) :: r,m2,s,b,i,v,hn,h => by
    have hn' : ((r ++ (s,none) :: m2).map (fun p => p.1.d)).Nodup:=by
      rw [List.cons_append,List.map_cons,List.nodup_cons] at hn; exact hn.2
    exact AM.made_lk r m2 s b i v hn' h

def AOk (x : Cx) (ops : Array Oper) : List ASpec → Prop
  | [] => True
  | s :: r => (∃ ty pos aft,ops[s.i]? = some ⟨some s.d,.alloc s.T,ty,pos,aft,none⟩ ∧ zeroOf x.P s.T = some s.z ∧ Nat.blt s.d x.n = true) ∧ AOk x ops r
theorem AOk.at {A : List ASpec} (h : AOk x ops A) {s : ASpec} (hs : s ∈ A) : ∃ ty pos aft,ops[s.i]? = some ⟨some s.d,.alloc s.T,ty,pos,aft,none⟩ ∧ zeroOf x.P s.T = some s.z ∧ Nat.blt s.d x.n = true:=by
  induction A with
  | nil => cases hs
  | cons t r ih =>
    rcases List.mem_cons.1 hs with rfl | h'
    · exact h.1
    · exact ih h.2 h'
def freeIn (l : Slots) : List ASpec → Bool
  | [] => true
  | s :: r => (lk l s.d).isNone && r.all (fun t => !Nat.beq t.d s.d) && freeIn l r
theorem freeIn.lk {A : List ASpec} (h : freeIn l A = true) {s : ASpec} (hs : s ∈ A) : lk l s.d = none:=by
  induction A with
  | nil => cases hs
  | cons t r ih =>
    simp only [freeIn,Bool.and_eq_true] at h
    rcases List.mem_cons.1 hs with rfl | h'
    · simpa using h.1.1
    · exact ih h.2 h'
theorem freeIn.nodup {A : List ASpec} (h : freeIn l A = true) : (A.map (·.d)).Nodup:=by
  induction A with
  | nil => exact List.nodup_nil
  | cons t r ih =>
    simp only [freeIn,Bool.and_eq_true] at h
    rw [List.map_cons,List.nodup_cons]
    refine ⟨fun hm => ?_,ih h.2⟩
    obtain ⟨s,hs,e⟩:=List.mem_map.1 hm
    have:=List.all_eq_true.1 h.1.2 s hs
    simp [e] at this

def JAA (x : Cx) (ops : Array Oper) (Q : Exit → Act → World → Prop) (so : List Own) (sH : Heaplet) (A : List ASpec) (fuel : Nat) (listed : Array Bool) (l : Slots) (own : List Own) (H : Heaplet) : Prop :=
  ∀ m : AM,m.map (·.1) = A → (∀ p ∈ m,∀ b,p.2 = some b → x.w0.heap.size ≤ b) → JA x ops Q so sH (fuel + m.left) (m.lst listed) (l ++ m.sl) (own ++ m.ow) H
def JOA (x : Cx) (ops : Array Oper) (Q : Exit → Act → World → Prop) (so : List Own) (sH : Heaplet) (A : List ASpec) (fuel : Nat) (listed : Array Bool) (i : Nat) (l : Slots) (own : List Own) (H : Heaplet) : Prop :=
  ∀ m : AM,m.map (·.1) = A → (∀ p ∈ m,∀ b,p.2 = some b → x.w0.heap.size ≤ b) → JO x ops Q so sH (fuel + m.left) (m.lst listed) i (l ++ m.sl) (own ++ m.ow) H

theorem JAA.start (A : List ASpec) {fuel N : Nat} {listed : Array Bool} (hN : fuel + A.length = N) (h : JAA x ops Q so sH A fuel listed l own H) : JA x ops Q so sH N listed l own H:=by
  have:=h (A.map fun s => (s,none)) (by simp [Function.comp_def]) (fun p hp b e => by obtain ⟨s,-,rfl⟩:=List.mem_map.1 hp; cases e)
  rw [AM.lst_none,AM.sl_none,AM.ow_none,AM.left_none,hN] at this
  simpa using this
theorem SubO.app : ∀ {so own : List Own} (t : List Own),SubO so own → SubO so (own ++ t)
  | [],_,_,_ => trivial
  | s :: r,own,t,h => by
    obtain ⟨⟨i,hi⟩,h2⟩:=h
    refine ⟨⟨i,?_⟩,SubO.app t h2⟩
    rw [List.getElem?_append_left (List.getElem?_eq_some_iff.1 hi).1]; exact hi
theorem JN.slots {K : Act → World → Prop} {l' : Slots} (h : ∀ i v,lk l' i = some v → lk l i = some v) (hk : JN x K l' own H) : JN x K l own H:=fun a w hh =>
  hk a w ⟨hh.size,hh.ds,fun i v e => hh.slots i v (h i v e),hh.mem⟩
theorem JOA.make {A : List ASpec} {F : Nat} {listed : Array Bool} (hA : AOk x ops A) (hle : Hle sH H) (hso : SubO so own) (hf : freeIn l A = true) {m : AM} (hm : m.map (·.1) = A) (hb : ∀ p ∈ m,∀ b,p.2 = some b → x.w0.heap.size ≤ b)
    {k : Nat} (hk : k ∈ undone A m.bs) (ih : ∀ m' : AM,m'.left < m.left → m'.map (·.1) = A → (∀ p ∈ m',∀ b,p.2 = some b → x.w0.heap.size ≤ b) → JA x ops Q so sH (F + m'.left) (m'.lst listed) (l ++ m'.sl) (own ++ m'.ow) H) :
    ∃ f,F + m.left = f + 1 ∧ JO x ops Q so sH f (m.lst listed) k (l ++ m.sl) (own ++ m.ow) H:=by
  rw [← hm] at hk
  obtain ⟨m1,m2,s,rfl,rfl⟩:=AM.split m k hk
  have hsA : s ∈ A:=by rw [← hm]; simp
  obtain ⟨ty,pos,aft,ho,hz,hd⟩:=hA.at hsA
  have hl:=AM.made_left m1 m2 s 0
  refine ⟨F + AM.left (m1 ++ (s,some 0) :: m2),by omega,?_⟩
  refine JO.step ho trivial rfl (fun K hK => ?_)
  refine JL.alloc hz hd (fun b hbb => ?_)
  refine ZW ?_
  have hleft : AM.left (m1 ++ (s,some b) :: m2) = AM.left (m1 ++ (s,some 0) :: m2):=by
    have:=AM.made_left m1 m2 s b; omega
  have hmm : (m1 ++ (s,some b) :: m2).map (·.1) = A:=by rw [AM.made_map]; exact hm
  have hJ:=ih (m1 ++ (s,some b) :: m2) (by omega) hmm (fun p hp b' e => by
    rcases List.mem_append.1 hp with h | h
    · exact hb p (by simp [h]) b' e
    · rcases List.mem_cons.1 h with rfl | h
      · simp at e; subst e; exact hbb
      · exact hb p (by simp [h]) b' e)
  rw [hleft,AM.made_lst,← AM.lst_set] at hJ
  have hnd : ((m1 ++ (s,none) :: m2).map (fun p => p.1.d)).Nodup:=by
    have:=freeIn.nodup hf; rw [← hm,List.map_map] at this; exact this
  have hln:=freeIn.lk hf hsA
  have hsub : ∀ i v,lk (l ++ AM.sl (m1 ++ (s,some b) :: m2)) i = some v → lk ((s.d,.pointer (some ⟨b,0,none⟩)) :: (l ++ AM.sl (m1 ++ (s,none) :: m2))) i = some v:=fun i v e => by
    rw [lk_app] at e
    simp only [lk]
    cases hli : lk l i with
    | some u =>
      rw [hli] at e; simp at e; subst e
      have : Nat.beq s.d i = false:=by
        cases hbq : Nat.beq s.d i with
        | false => rfl
        | true => have:=Nat.eq_of_beq_eq_true hbq; rw [← this,hln] at hli; cases hli
      rw [this]; exact lk_appL hli
    | none =>
      rw [hli] at e
      rcases AM.made_lk m1 m2 s b i v hnd e with ⟨rfl,rfl⟩ | ⟨hne,h⟩
      · simp
      · have : Nat.beq s.d i = false:=by
          cases hbq : Nat.beq s.d i with
          | false => rfl
          | true => exact absurd (Nat.eq_of_beq_eq_true hbq).symm hne
        rw [this,lk_app,hli]; exact h
  have hperm : ([(b,Obj.cells s.z.cells s.T (0,0))] :: (own ++ AM.ow (m1 ++ (s,none) :: m2))).flatten.Perm (own ++ AM.ow (m1 ++ (s,some b) :: m2)).flatten:=by
    refine List.Perm.flatten ?_
    refine List.Perm.trans ?_ ((AM.made_ow m1 m2 s b).symm.append_left own)
    exact List.perm_middle.symm
  refine JN.slots hsub (JN.perm hperm (hK _ _ _ ?_ hJ))
  exact ZB hle (hso.app _)

theorem JAA.many {A : List ASpec} (R : List Nat) {fuel : Nat} {listed : Array Bool} (hA : AOk x ops A) (hle : Hle sH H) (hso : SubO so own) (hf : freeIn l A = true)
    (hr : (allB A.length).all (fun bs => !(Region.ready .any ops (lstB A bs listed)).isEmpty && (Region.ready .any ops (lstB A bs listed)).all (fun k => R.contains k || (undone A bs).contains k)) = true)
    (h : ∀ i ∈ R,JOA x ops Q so sH A fuel listed i l own H) : JAA x ops Q so sH A (fuel + 1) listed l own H:=by
  intro m
  obtain ⟨n,hn⟩ : ∃ n,n = m.left:=⟨_,rfl⟩
  induction n using Nat.strongRecOn generalizing m with
  | _ n ih =>
    intro hm hb a w hh
    have hmem : m.bs ∈ allB A.length:=by have:=allB_mem m.bs; rwa [show m.bs.length = A.length by rw [← hm]; simp [AM.bs]] at this
    have h1:=List.all_eq_true.1 hr _ hmem
    simp only [Bool.and_eq_true] at h1
    have hlst : m.lst listed = lstB A m.bs listed:=by rw [AM.lst_eq,hm]
    rw [← hlst] at h1
    rw [show fuel + 1 + m.left = (fuel + m.left) + 1 by omega]
    refine ⟨fun h0 => ?_,fun k hk => ?_⟩
    · rw [h0] at h1; simp at h1
    · have hk2:=List.all_eq_true.1 h1.2 k hk
      simp only [Bool.or_eq_true,List.contains_iff_mem] at hk2
      rcases hk2 with hk2 | hk2
      · exact h k hk2 m hm hb a w hh
      · obtain ⟨f,hf1,hJ⟩:=JOA.make (F:=fuel + 1) (listed:=listed) (Q:=Q) hA hle hso hf hm hb hk2 (fun m' hlt hm' hb' => ih m'.left (by omega) m' rfl hm' hb')
        rw [show fuel + m.left = f by omega]
        exact hJ a w hh
def AllA : List ASpec → Nat → (AM → Prop) → Prop
  | [],_,P => P []
  | s :: r,N,P => ∀ b,N ≤ b → AllA r N (fun m => P ((s,some b) :: m))
theorem AllA.at : ∀ {A : List ASpec} {N : Nat} {P : AM → Prop},AllA A N P → ∀ m : AM,m.map (·.1) = A → m.left = 0 → (∀ p ∈ m,∀ b,p.2 = some b → N ≤ b) → P m
  | [],_,_,h,[],_,_,_ => h
  | s :: r,N,P,h,(t,some b) :: m,hm,h0,hb => by
    simp only [List.map_cons,List.cons.injEq] at hm
    obtain ⟨rfl,hm⟩:=hm
    exact AllA.at (h b (hb (t,some b) (by simp) b rfl)) m hm h0 (fun p hp => hb p (by simp [hp]))
  | s :: r,N,P,h,(t,none) :: m,hm,h0,hb => by cases h0
theorem left_undone : ∀ (m : AM),m.left ≠ 0 → m.bs.all id = false
  | [],h => absurd rfl h
  | (_,some _) :: r,h => by have:=left_undone r h; simpa [AM.bs] using this
  | (_,none) :: r,h => rfl
theorem JAA.all {A : List ASpec} {fuel : Nat} {listed : Array Bool} (hA : AOk x ops A) (hle : Hle sH H) (hso : SubO so own) (hf : freeIn l A = true)
    (hr : (allB A.length).all (fun bs => bs.all id || (!(Region.ready .any ops (lstB A bs listed)).isEmpty && (Region.ready .any ops (lstB A bs listed)).all (fun k => (undone A bs).contains k))) = true)
    (h : AllA A x.w0.heap.size (fun m => JA x ops Q so sH fuel (m.lst listed) (l ++ m.sl) (own ++ m.ow) H)) : JAA x ops Q so sH A fuel listed l own H:=by
  intro m
  obtain ⟨n,hn⟩ : ∃ n,n = m.left:=⟨_,rfl⟩
  induction n using Nat.strongRecOn generalizing m with
  | _ n ih =>
    intro hm hb
    by_cases h0 : m.left = 0
    · rw [h0]; exact h.at m hm h0 hb
    intro a w hh
    have hmem : m.bs ∈ allB A.length:=by have:=allB_mem m.bs; rwa [show m.bs.length = A.length by rw [← hm]; simp [AM.bs]] at this
    have h1:=List.all_eq_true.1 hr _ hmem
    rw [left_undone m h0] at h1
    simp only [Bool.false_or,Bool.and_eq_true] at h1
    have hlst : m.lst listed = lstB A m.bs listed:=by rw [AM.lst_eq,hm]
    rw [← hlst] at h1
    obtain ⟨f,hf0⟩ : ∃ f,fuel + m.left = f + 1:=⟨fuel + m.left - 1,by omega⟩
    rw [hf0]
    refine ⟨fun h0 => ?_,fun k hk => ?_⟩
    · rw [h0] at h1; simp at h1
    · have hk2:=List.all_eq_true.1 h1.2 k hk
      simp only [List.contains_iff_mem] at hk2
      obtain ⟨f',hf1,hJ⟩:=JOA.make (F:=fuel) (listed:=listed) (Q:=Q) hA hle hso hf hm hb hk2 (fun m' hlt hm' hb' => ih m'.left (by omega) m' rfl hm' hb')
      rw [show f = f' by omega]
      exact hJ a w hh

inductive AppL {α : Type} (t : List α) : List α → List α → Prop
  | nil : AppL t [] t
  | cons {a : α} {l1 l2 : List α} (h : AppL t l1 l2) : AppL t (a :: l1) (a :: l2)
theorem AppL.eq {α : Type} {t l1 l2 : List α} (h : AppL t l1 l2) : l2 = l1 ++ t:=by
  induction h with
  | nil => rfl
  | cons _ ih => rw [ih]; rfl
theorem guard_app {t : Slots} {g : Option (Nat × Bool)} (h : guardYes ops l g) : guardYes ops (l ++ t) g:=by
  cases g with
  | none => trivial
  | some jb => obtain ⟨j,b⟩:=jb; obtain ⟨k,oj,h1,h2,h3⟩:=h; exact ⟨k,oj,h1,h2,lk_appL h3⟩
theorem JOA.step {A : List ASpec} {fuel i : Nat} {listed listed' : Array Bool} {dst : Option Tmp} {op : Op} {ty : TypeId} {pos : String} {aft : Array Edge} {g : Option (Nat × Bool)}
    (ho : ops[i]? = some ⟨dst,op,ty,pos,aft,g⟩) (hg : guardYes ops l g) (hl : listed.setIfInBounds i true = listed')
    (h : ∀ (tl : Slots) (to : List Own) (K : Act → World → Prop),(∀ {l' own' H' l2 own2},AppL tl l' l2 → AppL to own' own2 → (∀ a w,Holds x l2 own2 H' a w → Stab so sH w) → JAA x ops Q so sH A fuel listed' l' own' H' → JN x K l2 own2 H') →
      JL x ops (fun e a w => match e with | .normal => K a w | e => Q e a w) [⟨dst,op,ty,pos,aft,none⟩] (l ++ tl) (own ++ to) H) :
    JOA x ops Q so sH A fuel listed i l own H:=fun m hm hb => by
  refine JO.step ho (guard_app hg) rfl (fun K hK => h m.sl m.ow K (fun {l' own' H' l2 own2} e1 e2 hst hJ => ?_))
  have e1:=e1.eq
  have e2:=e2.eq
  subst e1; subst e2
  refine hK _ _ _ hst ?_
  have:=hJ m hm hb
  rw [← hl,← AM.lst_set] at this
  exact this
theorem Runs.app {op : Op} {ty : TypeId} {v : Value} {t : Slots} (h : Runs x op ty l own H v) : Runs x op ty (l ++ t) own H v:=fun ρ w d pos aft g hρ hs => h ρ w d pos aft g (fun o u e => hρ o u (evo_app e)) hs
def TakeA (ops : Array Oper) (A : List ASpec) (listed : Array Bool) (i : Nat) : Bool:=(allB A.length).all fun bs => (Region.ready .any ops (lstB A bs listed)).contains i && Region.free .any ops (lstB A bs listed) i
theorem TakeA.take {A : List ASpec} {listed : Array Bool} {i : Nat} (h : TakeA ops A listed i = true) {m : AM} (hm : m.map (·.1) = A) : Take ops (m.lst listed) i (m.lst (listed.setIfInBounds i true)):=by
  have hmem : m.bs ∈ allB A.length:=by have:=allB_mem m.bs; rwa [show m.bs.length = A.length by rw [← hm]; simp [AM.bs]] at this
  have h1:=List.all_eq_true.1 h _ hmem
  have hlst : m.lst listed = lstB A m.bs listed:=by rw [AM.lst_eq,hm]
  rw [← hlst] at h1
  simp only [Bool.and_eq_true] at h1
  exact ⟨h1.1,h1.2,AM.lst_set _ _ _⟩
theorem JAA.val {A : List ASpec} {fuel i d : Nat} {listed listed' : Array Bool} {op : Op} {ty : TypeId} {pos : String} {aft : Array Edge} {g : Option (Nat × Bool)} {v : Value} (hreg : Reg ops) (hc : Calm Q)
    (ho : ops[i]? = some ⟨some d,op,ty,pos,aft,g⟩) (ht : TakeA ops A listed i = true) (hl : listed.setIfInBounds i true = listed') (hg : guardYes ops l g) (hle : Hle sH H) (hso : SubO so own) (hr : Runs x op ty l so sH v) (hd : Nat.blt d x.n = true)
    (h : JAA x ops Q so sH A fuel listed' ((d,v) :: l) own H) : JAA x ops Q so sH A (fuel + 1) listed l own H:=fun m hm hb => by
  rw [show fuel + 1 + m.left = (fuel + m.left) + 1 by omega]
  subst hl
  exact JA.val hreg hc ho (TakeA.take ht hm) (guard_app hg) (ZB hle (hso.app _)) hr.app hd (h m hm hb)
theorem JAA.no {A : List ASpec} {fuel i d j t : Nat} {b b' : Bool} {listed listed' : Array Bool} {op : Op} {ty : TypeId} {pos : String} {aft : Array Edge} {oj : Oper} (hreg : Reg ops) (hc : Calm Q)
    (ho : ops[i]? = some ⟨some d,op,ty,pos,aft,some (j,b)⟩) (ht : TakeA ops A listed i = true) (hl : listed.setIfInBounds i true = listed') (hj : ops[j]? = some oj) (htj : oj.dst = some t) (hb : lk l t = some (.bool b')) (hne : (b' == b) = false)
    (hle : Hle sH H) (hso : SubO so own) (hd : Nat.blt d x.n = true)
    (h : JAA x ops Q so sH A fuel listed' ((d,undef) :: l) own H) : JAA x ops Q so sH A (fuel + 1) listed l own H:=fun m hm hb' => by
  rw [show fuel + 1 + m.left = (fuel + m.left) + 1 by omega]
  subst hl
  exact JA.no hreg hc ho (TakeA.take ht hm) hj htj (lk_appL hb) hne (ZB hle (hso.app _)) hd (h m hm hb')
theorem JAA.gSplit {A : List ASpec} {fuel : Nat} {listed : Array Bool} {t : Nat} {b : Bool} (hb : lk l t = some (.bool b)) (ht : b = true → JAA x ops Q so sH A fuel listed ((t,.bool true) :: l) own H)
    (hf : b = false → JAA x ops Q so sH A fuel listed ((t,.bool false) :: l) own H) : JAA x ops Q so sH A fuel listed l own H:=fun m hm hb' =>
  JA.gSplit (lk_appL hb) (fun e => ht e m hm hb') (fun e => hf e m hm hb')
theorem JAA.one {A : List ASpec} {fuel i : Nat} {listed : Array Bool} (hA : AOk x ops A) (hle : Hle sH H) (hso : SubO so own) (hf : freeIn l A = true)
    (hr : (allB A.length).all (fun bs => !(Region.ready .any ops (lstB A bs listed)).isEmpty && (Region.ready .any ops (lstB A bs listed)).all (fun k => [i].contains k || (undone A bs).contains k)) = true)
    (h : JOA x ops Q so sH A fuel listed i l own H) : JAA x ops Q so sH A (fuel + 1) listed l own H:=JAA.many [i] hA hle hso hf hr (fun k hk => by simp at hk; subst hk; exact h)
theorem JAA.two {A : List ASpec} {fuel i j : Nat} {listed : Array Bool} (hA : AOk x ops A) (hle : Hle sH H) (hso : SubO so own) (hf : freeIn l A = true)
    (hr : (allB A.length).all (fun bs => !(Region.ready .any ops (lstB A bs listed)).isEmpty && (Region.ready .any ops (lstB A bs listed)).all (fun k => [i,j].contains k || (undone A bs).contains k)) = true)
    (h : JOA x ops Q so sH A fuel listed i l own H) (h' : JOA x ops Q so sH A fuel listed j l own H) : JAA x ops Q so sH A (fuel + 1) listed l own H:=JAA.many [i,j] hA hle hso hf hr (fun k hk => by
  simp only [List.mem_cons,List.not_mem_nil,or_false] at hk
  rcases hk with rfl | rfl
  · exact h
  · exact h')
end Go.Ow

/-
  What is proved here: a range over a function whose assignments make cells; over OwZH.
-/
namespace Go.Ow
open Go.RowKit
set_option linter.unusedVariables false
set_option linter.unusedSimpArgs false
variable {x : Cx} {ops : Array Oper} {Q : Exit → Act → World → Prop} {rest : List Oper} {l : Slots} {own : List Own} {H HF : Heaplet}
variable {ty : TypeId} {d : Nat} {pos : String} {aft : Array Edge}

end Go.Ow

/-
  What is proved here: a region whose order Go leaves open, again: what is known of it is said once; a segment that is turned later may be read by what comes ahead of that.
-/
namespace Go.Ow
open Go.RowKit
set_option linter.unusedVariables false
set_option linter.unusedSimpArgs false

section orders
variable {F : Fence} {n : Nat} {P : Program} {md : Region.Mode} {ops : Array Oper} {Q : Exit → Act → World → Prop} {S : Array Bool → World → Prop}
def wpAT (F : Fence) (n : Nat) (P : Program) (md : Region.Mode) (ops : Array Oper) (Q : Exit → Act → World → Prop) (S : Array Bool → World → Prop) : Nat → Array Bool → Act → World → Prop
  | 0,listed,a,w => Region.ready md ops listed = [] ∧ Q .normal a w
  | fuel + 1,listed,a,w => (Region.ready md ops listed = [] → Q .normal a w) ∧
    ∀ i ∈ Region.ready md ops listed,wpOpIn F n P ops Q i (fun a' w' => S (listed.setIfInBounds i true) w' ∧ wpAT F n P md ops Q S fuel (listed.setIfInBounds i true) a' w') a w
theorem wpAT_sound : ∀ (fuel : Nat) (listed : Array Bool) (a : Act) (w : World),wpAT F n P md ops Q S fuel listed a w → wpAnyIn F n P md ops Q fuel listed a w
  | 0,_,_,_,h => h
  | fuel + 1,listed,a,w,h => ⟨h.1,fun i hi => wpOpIn_mono (fun a' w' h' => wpAT_sound fuel _ a' w' h'.2) (h.2 i hi)⟩
def hangs (md : Region.Mode) (ops : Array Oper) (i : Nat) (D : List Nat) (listed : Array Bool) : Bool :=
  D.all fun d => !listed.getD d true && (match ops[d]? with | none => false | some o => o.after.any fun e => Region.binds md e && (e.on == i || D.contains e.on))
theorem wpAT_first (hF : ∀ f,F.fn f) {i : Nat} {oi : Oper} {v : Value} (hi : ops[i]? = some oi) (hsel : ∀ (j : Nat) (o : Oper) cs b,ops[j]? = some o → o.op ≠ .select cs b)
    (hdef : ∀ (j : Nat) (o : Oper),ops[j]? = some o → noDefer o.op = true) (hQ : ∀ c a w,Q (.panic c) (a.put oi.dst v) w → Q (.panic c) a w) (hmono : ∀ L j w,S L w → S (L.setIfInBounds j true) w)
    (hskip : ∀ L w,S (L.setIfInBounds i true) w → S L w) {D : List Nat} {T : World → Prop} (hT : ∀ L w,(∀ d ∈ D,L.getD d true = false) → S L w → T w) :
    ∀ (fuel : Nat) (listed : Array Bool) (a : Act) (w : World),
      (∀ j oj,ops[j]? = some oj → j ≠ i → listed.getD j true = false → (∀ e ∈ oj.after,Region.binds md e = true → e.on ≠ i) → oi.apart ops oj = true) →
      hangs md ops i D listed = true →
      i ∈ Region.ready md ops listed → YieldsS P ops T oi v a → S listed w →
      wpAT F n P md ops Q S fuel (listed.setIfInBounds i true) (a.put oi.dst v) w → wpAT F n P md ops Q S (fuel + 1) listed a w:=by
  have hDs : ∀ {listed : Array Bool},hangs md ops i D listed = true → ∀ d ∈ D,listed.getD d true = false:=fun h d hd => by
    have:=List.all_eq_true.1 h d hd
    rw [Bool.and_eq_true] at this
    simpa using this.1
  intro fuel
  induction fuel with
  | zero =>
    intro listed a w _ hD hr hy hS H
    refine ⟨fun h => (by rw [h] at hr; cases hr),fun j hj => ?_⟩
    by_cases hji : j = i
    · subst hji; exact hy.op hF hi (hdef _ _ hi) (hT _ _ (hDs hD) hS) ⟨hmono _ _ _ hS,H⟩
    · have:=ready_mono hj hji
      rw [H.1] at this
      cases this
  | succ fuel ih =>
    intro listed a w hfree hD hr hy hS H
    refine ⟨fun h => (by rw [h] at hr; cases hr),fun j hj => ?_⟩
    by_cases hji : j = i
    · subst hji; exact hy.op hF hi (hdef _ _ hi) (hT _ _ (hDs hD) hS) ⟨hmono _ _ _ hS,H⟩
    · have h1:=H.2 j (ready_mono hj hji)
      obtain ⟨hjun,oj,hoj,hall⟩:=mem_ready.1 hj
      have h0:=(mem_ready.1 hr).1
      have hnot : ∀ e ∈ oj.after,Region.binds md e = true → e.on ≠ i:=fun e he hb heq => by
        have h1:=hall e he hb
        rw [heq] at h1
        rcases Nat.lt_or_ge i listed.size with h' | h'
        · simp [h'] at h0 h1; rw [h0] at h1; cases h1
        · simp [Array.getElem?_eq_none h'] at h1
      have hjD : j ∉ D:=fun hjD => by
        have:=List.all_eq_true.1 hD j hjD
        rw [Bool.and_eq_true,hoj] at this
        obtain ⟨e,he,hb⟩:=Array.any_eq_true'.1 this.2
        rw [Bool.and_eq_true,Bool.or_eq_true] at hb
        rcases hb.2 with h | h
        · exact hnot e he hb.1 (by simpa using h)
        · have h2:=hDs hD e.on (by simpa using h)
          have h3:=hall e he hb.1
          rcases Nat.lt_or_ge e.on listed.size with h' | h'
          · simp [h'] at h2 h3; rw [h2] at h3; cases h3
          · simp [Array.getElem?_eq_none h'] at h3
      have hD' : hangs md ops i D (listed.setIfInBounds j true) = true:=List.all_eq_true.2 fun d hd => by
        have:=List.all_eq_true.1 hD d hd
        rw [getD_set_ne true (fun e => hjD (by rw [e]; exact hd))]; exact this
      have h2:=wpOpIn_putS (S:=T) hF hoj (hfree j oj hoj hji hjun hnot) (fun cs b => hsel i oi cs b hi) (fun cs b => hsel j oj cs b hoj) (hdef j oj hoj) hQ hy h1
      have hfree' : ∀ k ok,ops[k]? = some ok → k ≠ i → (listed.setIfInBounds j true).getD k true = false →
          (∀ e ∈ ok.after,Region.binds md e = true → e.on ≠ i) → oi.apart ops ok = true:=fun k ok hk hki hun hno => by
        refine hfree k ok hk hki ?_ hno
        by_cases hjk : j = k
        · subst hjk; exact hjun
        · rw [getD_set_ne true hjk] at hun; exact hun
      refine wpOpIn_mono (fun a' w' h3 => ?_) h2
      have hS' : S (listed.setIfInBounds j true) w':=hskip _ _ (by rw [Array.setIfInBounds_comm _ _ hji]; exact h3.2.1)
      refine ⟨hS',ih (listed.setIfInBounds j true) a' w' hfree' hD' (ready_mono hr (Ne.symm hji)) h3.1 hS' ?_⟩
      rw [Array.setIfInBounds_comm _ _ hji]
      exact h3.2.2
end orders

/-! ### The same from a state -/
variable {x : Cx} {ops : Array Oper} {K : Act → World → Prop} {l : Slots} {own : List Own} {H : Heaplet}

abbrev Segs:=List (Own × List Nat)
def SB (so : Segs) (sH : Heaplet) (L : Array Bool) (w : World) : Prop:=Agrees sH w ∧ ∀ x ∈ so,(∃ t ∈ x.2,L.getD t true = true) ∨ ∀ p ∈ x.1,w.heap[p.1]? = some p.2
theorem SB.mono {so : Segs} {sH : Heaplet} {L : Array Bool} {w : World} (j : Nat) (h : SB so sH L w) : SB so sH (L.setIfInBounds j true) w:=by
  refine ⟨h.1,fun x hx => (h.2 x hx).imp (fun ⟨t,ht,e⟩ => ⟨t,ht,?_⟩) id⟩
  by_cases c : j = t
  · subst c
    rcases Nat.lt_or_ge j L.size with h' | h'
    · simp [h']
    · simp [Array.getElem?_eq_none h']
  · rw [getD_set_ne true c]; exact e
def noTurn (so : Segs) (i : Nat) : Bool:=so.all fun x => !x.2.contains i
theorem SB.skip {so : Segs} {sH : Heaplet} {i : Nat} (hn : noTurn so i = true) {L : Array Bool} {w : World} (h : SB so sH (L.setIfInBounds i true) w) : SB so sH L w:=by
  refine ⟨h.1,fun x hx => (h.2 x hx).imp (fun ⟨t,ht,e⟩ => ⟨t,ht,?_⟩) id⟩
  have:=List.all_eq_true.1 hn x hx
  have hne : i ≠ t:=fun c => by subst c; simp at this; exact this ht
  rw [getD_set_ne true hne] at e; exact e
def segsOf (D : List Nat) : Segs → List Own
  | [] => []
  | x :: q => cond (x.2.all fun t => D.contains t) (x.1 :: segsOf D q) (segsOf D q)
theorem SB.stab {so : Segs} {sH : Heaplet} {D : List Nat} {L : Array Bool} {w : World} (hD : ∀ d ∈ D,L.getD d true = false) (h : SB so sH L w) : Stab (segsOf D so) sH w:=by
  refine ⟨h.1,?_⟩
  have h2:=h.2
  clear h
  induction so with
  | nil => intro p hp; simp [segsOf] at hp
  | cons y q ih =>
    have ihq:=ih (fun x hx => h2 x (List.mem_cons_of_mem _ hx))
    intro p hp
    unfold segsOf at hp
    cases e : (y.2.all fun t => D.contains t) with
    | false => rw [e,cond_false] at hp; exact ihq p hp
    | true =>
      rw [e,cond_true,List.flatten_cons,List.mem_append] at hp
      rcases hp with hp | hp
      · rcases h2 y (List.mem_cons_self ..) with ⟨t,ht,e2⟩ | h3
        · have:=List.all_eq_true.1 e t ht
          rw [hD t (by simpa using this)] at e2; cases e2
        · exact h3 p hp
      · exact ihq p hp
def Kept' : Segs → Array Bool → List Own → Prop
  | [],_,_ => True
  | x :: q,L,own => ((x.2.any fun t => L.getD t true) = true ∨ ∃ i : Nat,own[i]? = some x.1) ∧ Kept' q L own
theorem Kept'.sb {so : Segs} {sH : Heaplet} {L : Array Bool} (hle : Hle sH H) (hk : Kept' so L own) {a : Act} {w : World} (hh : Holds x l own H a w) : SB so sH L w:=by
  refine ⟨hh.mem.agr.le hle,?_⟩
  induction so with
  | nil => intro y hy; cases hy
  | cons z q ih =>
    intro y hy
    rcases List.mem_cons.1 hy with rfl | hy
    · rcases hk.1 with h | ⟨i,hi⟩
      · obtain ⟨t,ht,e⟩:=List.any_eq_true.1 h; exact .inl ⟨t,ht,e⟩
      · exact .inr fun p hp => hh.mem.ok.here p (List.mem_flatten.2 ⟨_,List.mem_of_getElem? hi,hp⟩)
    · exact ih hk.2 y hy
theorem Kept'.mono {so : Segs} {L : Array Bool} (j : Nat) (hk : Kept' so L own) : Kept' so (L.setIfInBounds j true) own:=by
  induction so with
  | nil => trivial
  | cons z q ih =>
    refine ⟨hk.1.imp (fun h => ?_) id,ih hk.2⟩
    obtain ⟨t,ht,e⟩:=List.any_eq_true.1 h
    refine List.any_eq_true.2 ⟨t,ht,?_⟩
    by_cases c : j = t
    · subst c
      rcases Nat.lt_or_ge j L.size with h' | h'
      · simp [h']
      · simp [Array.getElem?_eq_none h']
    · rw [getD_set_ne true c]; exact e

theorem kept0 {so : Segs} {L : Array Bool} (ps : List Nat) (h : ps.map (fun i => own[i]?) = so.map fun x => some x.1) : Kept' so L own:=by
  induction so generalizing ps with
  | nil => trivial
  | cons z q ih =>
    cases ps with
    | nil => cases h
    | cons p ps =>
      simp only [List.map_cons,List.cons.injEq] at h
      exact ⟨.inr ⟨p,h.1⟩,ih ps h.2⟩
def picked (own : List Own) : List Bool → List Nat → List (Option Own)
  | b :: bs,p :: ps => cond b none own[p]? :: picked own bs ps
  | _,_ => []
def wanted' : List Bool → Segs → List (Option Own)
  | b :: bs,x :: q => cond b none (some x.1) :: wanted' bs q
  | _,_ => []
theorem kept1 {so : Segs} {L : Array Bool} (bs : List Bool) (ps : List Nat) (h1 : so.map (fun x => x.2.any fun t => L.getD t true) = bs) (h : picked own bs ps = wanted' bs so) : Kept' so L own:=by
  induction so generalizing ps bs with
  | nil => trivial
  | cons z q ih =>
    subst h1
    cases ps with
    | nil => cases h
    | cons p ps =>
      simp only [List.map_cons,picked,wanted',List.cons.injEq] at h
      refine ⟨?_,ih _ ps rfl h.2⟩
      cases e : (z.2.any fun t => L.getD t true) with
      | true => exact .inl rfl
      | false =>
        have h2:=h.1
        rw [e] at h2
        exact .inr ⟨p,h2⟩
def JB (x : Cx) (ops : Array Oper) (K : Act → World → Prop) (so : Segs) (sH : Heaplet) (fuel : Nat) (listed : Array Bool) (l : Slots) (own : List Own) (H : Heaplet) : Prop :=
  Reg ops → Hle sH H → Kept' so listed own → ∀ a w,Holds x l own H a w → wpAT (Fw x.r) 0 x.P .any ops (onlyN K) (SB so sH) fuel listed a w
def JOB (x : Cx) (ops : Array Oper) (K : Act → World → Prop) (so : Segs) (sH : Heaplet) (fuel : Nat) (listed : Array Bool) (i : Nat) (l : Slots) (own : List Own) (H : Heaplet) : Prop :=
  Reg ops → Hle sH H → Kept' so listed own → ∀ a w,Holds x l own H a w →
    wpOpIn (Fw x.r) 0 x.P ops (onlyN K) i (fun a' w' => SB so sH (listed.setIfInBounds i true) w' ∧ wpAT (Fw x.r) 0 x.P .any ops (onlyN K) (SB so sH) fuel (listed.setIfInBounds i true) a' w') a w
theorem JC.drawB {Q : Exit → Act → World → Prop} {so : Segs} (N : Nat) {id : Nat} (hN : ops.size = N) (hm : x.P.follows .mixedOrders = true) (hreg : Reg ops) (hk : Kept' so (Array.replicate N false) own)
    (h : JB x ops (Q .normal) so H N (Array.replicate N false) l own H) : JC x (.region id ops true) Q l own H:=fun a w hh => by
  subst hN
  refine wpIn_mono (Q:=onlyN (Q .normal)) (wpIn_region_any hm (wpAT_sound _ _ _ _ (h hreg (Hle.refl _) hk a w.drew ⟨hh.size,hh.ds,hh.slots,hh.mem.drew⟩))) ?_
  intro e a w hq
  cases e with
  | normal => exact hq
  | exit id => exact hq.elim
  | goto t => exact hq.elim
  | ret => exact hq.elim
  | panic c => exact hq.elim
  | outgrown => exact hq.elim
section
variable {so : Segs} {sH : Heaplet} {fuel i d : Nat} {listed listed' : Array Bool} {op : Op} {ty : TypeId} {pos : String} {aft : Array Edge} {g : Option (Nat × Bool)} {v : Value}
theorem JB.val (D : List Nat) (ho : ops[i]? = some ⟨some d,op,ty,pos,aft,g⟩) (hr : Runs x op ty l (segsOf D so) sH v)
    (h : JB x ops K so sH fuel listed' ((d,v) :: l) own H)
    (ht : Take ops listed i listed':=by exact ⟨by kernel_rfl,by kernel_rfl,rfl⟩) (hg : guardYes ops l g:=by first | exact trivial | exact ⟨_,_,rfl,rfl,rfl⟩)
    (hD : hangs .any ops i D listed = true:=by kernel_rfl) (hn : noTurn so i = true:=by rfl) (hd : Nat.blt d x.n = true:=by rfl) :
    JB x ops K so sH (fuel + 1) listed l own H:=fun hreg hle hk a w hh => by
  have hl:=ht.nxt
  subst hl
  exact wpAT_first (fun _ => trivial) ho (Region.noSelect_spec hreg.sel) hreg.noDefer (fun c a' w' h' => h') (fun _ j _ h => h.mono j) (fun _ _ h => h.skip hn) (D:=D) (T:=Stab (segsOf D so) sH) (fun _ _ hD h => h.stab hD)
    fuel listed a w (Region.free_spec ho ht.free) hD (by simpa using ht.rdy)
    (.inl ⟨wanted_yes hh hg,fun w' hw' => hr a.eval w' (some d) pos aft g (fun o u e => Zi hh e) hw'⟩) (hk.sb hle hh) (h hreg hle (hk.mono i) _ _ (hh.put hd v))
theorem JB.no {j t : Nat} {b b' : Bool} {oj : Oper} (ho : ops[i]? = some ⟨some d,op,ty,pos,aft,some (j,b)⟩) (hj : ops[j]? = some oj) (htj : oj.dst = some t) (hb : lk l t = some (.bool b')) (hne : (b' == b) = false)
    (h : JB x ops K so sH fuel listed' ((d,undef) :: l) own H)
    (ht : Take ops listed i listed':=by exact ⟨by kernel_rfl,by kernel_rfl,rfl⟩) (hn : noTurn so i = true:=by rfl) (hd : Nat.blt d x.n = true:=by rfl) :
    JB x ops K so sH (fuel + 1) listed l own H:=fun hreg hle hk a w hh => by
  have hl:=ht.nxt
  subst hl
  have hw : Region.wanted ⟨some d,op,ty,pos,aft,some (j,b)⟩ (yielded ops a.tmps) = false:=by
    simp only [Region.wanted,yielded,hj,Option.bind_some,htj]
    have:=hh.slots t _ hb
    cases hs : a.tmps[t]? with
    | none => simp [hs,undef] at this
    | some u => simp [hs] at this; subst this; simpa using hne
  exact wpAT_first (fun _ => trivial) ho (Region.noSelect_spec hreg.sel) hreg.noDefer (fun c a' w' h' => h') (fun _ j _ h => h.mono j) (fun _ _ h => h.skip hn) (D:=[]) (T:=fun _ => True) (fun _ _ _ _ => trivial)
    fuel listed a w (Region.free_spec ho ht.free) rfl (by simpa using ht.rdy) (.inr ⟨hw,rfl⟩) (hk.sb hle hh) (h hreg hle (hk.mono i) _ _ (hh.put hd undef))
theorem JB.doneN (hr : Region.ready .any ops listed = []) (h : JN x K l own H) : JB x ops K so sH fuel listed l own H:=fun _ _ _ a w hh => by
  cases fuel with
  | zero => exact ⟨hr,h a w hh⟩
  | succ fuel => exact ⟨fun _ => h a w hh,by rw [hr]; simp⟩
theorem JB.one (hr : Region.ready .any ops listed = [i]) (h1 : JOB x ops K so sH fuel listed i l own H) : JB x ops K so sH (fuel + 1) listed l own H:=fun hreg hle hk a w hh => by
  refine ⟨fun h0 => (by rw [hr] at h0; cases h0),fun k hk' => ?_⟩
  rw [hr] at hk'; simp at hk'; subst hk'; exact h1 hreg hle hk a w hh
theorem JB.two {j : Nat} (hr : Region.ready .any ops listed = [i,j]) (h1 : JOB x ops K so sH fuel listed i l own H) (h2 : JOB x ops K so sH fuel listed j l own H) :
    JB x ops K so sH (fuel + 1) listed l own H:=fun hreg hle hk a w hh => by
  refine ⟨fun h0 => (by rw [hr] at h0; cases h0),fun k hk' => ?_⟩
  rw [hr] at hk'; simp at hk'; rcases hk' with rfl | rfl
  · exact h1 hreg hle hk a w hh
  · exact h2 hreg hle hk a w hh
theorem JOB.step {dst : Option Tmp} (ho : ops[i]? = some ⟨dst,op,ty,pos,aft,g⟩) (hg : guardYes ops l g) (hl : listed.setIfInBounds i true = listed')
    (h : ∀ K' : Act → World → Prop,(∀ l' own' H',Hle sH H' → Kept' so listed' own' → JB x ops K so sH fuel listed' l' own' H' → JN x K' l' own' H') →
      JL x ops (fun e a w => match e with | .normal => K' a w | e => onlyN K e a w) [⟨dst,op,ty,pos,aft,none⟩] l own H) :
    JOB x ops K so sH fuel listed i l own H:=fun hreg hle hk a w hh => by
  subst hl
  have:=h (fun a' w' => SB so sH (listed.setIfInBounds i true) w' ∧ wpAT (Fw x.r) 0 x.P .any ops (onlyN K) (SB so sH) fuel (listed.setIfInBounds i true) a' w')
    (fun l' own' H' hle' hk' hJ a' w' hh' => ⟨hk'.sb hle' hh',hJ hreg hle' hk' a' w' hh'⟩) a w hh
  simp only [wpLs,Zl,if_true] at this
  unfold wpOpIn
  simp only [ho]
  rw [if_pos (wanted_yes hh hg)]
  refine ⟨fun _ _ => trivial,?_⟩
  have h2:=this.2
  have es : ∀ (ρ : Operand → Value),Oper.semAt (Fw x.r).round ρ ⟨dst,op,ty,pos,aft,g⟩ = Oper.semAt (Fw x.r).round ρ ⟨dst,op,ty,pos,aft,none⟩:=fun ρ => by
    unfold Oper.semAt; cases (Fw x.r).round <;> cases op <;> rfl
  rw [es]
  generalize (Oper.semAt (Fw x.r).round a.eval ⟨dst,op,ty,pos,aft,none⟩).run x.P w = r at *
  cases r with
  | ok y w' =>
    cases y <;> simp only [Oper.uponIn] at h2 ⊢ <;> first | exact h2 | exact ⟨h2.1,CallsIn.mono h2.2 (fun e w'' he => by cases e <;> exact he)⟩ | exact ⟨h2.1,RoundIn.mono h2.2 (fun e w'' he => by cases e <;> exact he)⟩
  | halt y w' => cases y <;> simp only [Oper.uponIn] at h2 ⊢ <;> exact h2
theorem JB.gSplit {t : Nat} {b : Bool} (hb : lk l t = some (.bool b)) (ht : b = true → JB x ops K so sH fuel listed ((t,.bool true) :: l) own H)
    (hf : b = false → JB x ops K so sH fuel listed ((t,.bool false) :: l) own H) : JB x ops K so sH fuel listed l own H:=fun hreg hle hk a w hh => by
  cases b with
  | true => exact ht rfl hreg hle hk a w (hh.set hb rfl)
  | false => exact hf rfl hreg hle hk a w (hh.set hb rfl)
end
end Go.Ow

/-
  What is proved here: memory that callees have made is taken back within a region, once and once more; over OwZE.
-/
namespace Go.Ow
open Go.RowKit
set_option linter.unusedVariables false
set_option linter.unusedSimpArgs false

variable {x : Cx} {ops : Array Oper} {Q : Exit → Act → World → Prop} {rest : List Oper} {l : Slots} {own : List Own} {H HF : Heaplet}

theorem Holds.thaw {a : Act} {w : World} (hl : Low x.H0 x.w0.heap.size) (hh : Holds x l own H a w) : ∃ D,TH (New x.H0 H) D ∧ (∀ b o v,New x.H0 H b o = some v → b ∉ ids own.flatten) ∧ Holds x l (D :: own) x.H0 a w:=by
  have hnew : ∀ b o v,New x.H0 H b o = some v → x.w0.heap.size ≤ b ∧ b ∉ ids own.flatten ∧ ∃ cur t,w.heap[b]? = some (.cells cur t (0,0)) ∧ cur.toList[o]? = some v:=by
    intro b o v e
    have e0 : x.H0 b o = none:=by
      unfold New at e; split at e
      · assumption
      · cases e
    have e1:=New.le _ _ b o v e
    refine ⟨?_,?_,?_⟩
    · apply Nat.le_of_not_lt
      intro hc
      rw [hh.mem.grow b o hc,e0] at e1; cases e1
    · intro hc
      obtain ⟨p,hp,rfl⟩:=List.mem_map.1 hc
      rw [hh.mem.ok.apart p hp o] at e1; cases e1
    · obtain ⟨cur,t,hb⟩:=hh.mem.soft b o v e0 e1
      refine ⟨cur,t,hb,?_⟩
      have:=hh.mem.agr b o v e1
      rw [cell_of_row w b o cur t (0,0) hb] at this
      simpa using this
  refine ⟨newBlocks x.w0.heap.size own.flatten w,?_,fun b o v e => (hnew b o v e).2.1,?_⟩
  · intro b o v e
    obtain ⟨h1,h2,cur,t,h3,h4⟩:=hnew b o v e
    exact ⟨cur,t,mem_newBlocks.2 ⟨h1,h2,h3⟩,v,h4,.inl rfl⟩
  · have hh0:=hh.low0
    refine ⟨hh0.size,hh0.ds,hh0.slots,hh0.mem.agr,⟨?_,?_,?_⟩,hh0.mem.kept,?_,hh0.mem.le,hh0.mem.grow,hh0.mem.soft⟩
    · intro p hp
      rw [List.flatten_cons,List.mem_append] at hp
      rcases hp with hp | hp
      · exact (mem_newBlocks.1 hp).2.2
      · exact hh0.mem.ok.here p hp
    · rw [List.flatten_cons]
      simp only [ids,List.map_append]
      refine List.nodup_append.2 ⟨newBlocks_nodup _ _ _,hh0.mem.ok.nodup,fun i hi j hj e => ?_⟩
      subst e
      obtain ⟨p,hp,rfl⟩:=List.mem_map.1 hi
      exact (mem_newBlocks.1 hp).2.1 hj
    · intro p hp o
      rw [List.flatten_cons,List.mem_append] at hp
      rcases hp with hp | hp
      · cases e : x.H0 p.1 o with
        | none => rfl
        | some v => have:=hl _ _ _ e; have:=(mem_newBlocks.1 hp).1; omega
      · exact hh0.mem.ok.apart p hp o
    · intro p hp
      rw [List.flatten_cons,List.mem_append] at hp
      rcases hp with hp | hp
      · exact .inr (mem_newBlocks.1 hp).1
      · exact hh0.mem.fresh p hp
theorem JL.thaw (hl : Low x.H0 x.w0.heap.size) (h : ∀ D,TH (New x.H0 H) D → JL x ops Q rest l (D :: own) x.H0) : JL x ops Q rest l own H:=fun a w hh => by
  obtain ⟨D,hD,-,hh'⟩:=hh.thaw hl
  exact h D hD a w hh'
def Both (N1 N0 : Heaplet) : Heaplet:=fun b o => match N1 b o with
  | some v => some v
  | none => N0 b o
theorem Holds.thaw2 {a : Act} {w : World} {i : Nat} {D0 : Own} {N0 : Heaplet} (hi : own[i]? = some D0) (hT : TH N0 D0) (hl : Low x.H0 x.w0.heap.size) (hh : Holds x l own H a w) :
    ∃ D' N',Hle N0 N' ∧ Hle (New x.H0 H) N' ∧ TH N' D' ∧ Holds x l (own.set i D') x.H0 a w:=by
  obtain ⟨D,hD,hap,hh'⟩:=hh.thaw hl
  obtain ⟨A,B,hAB,hA⟩ : ∃ A B,own = A ++ D0 :: B ∧ A.length = i:=by
    have hlt:=(List.getElem?_eq_some_iff.1 hi).1
    refine ⟨own.take i,own.drop (i + 1),?_,by rw [List.length_take]; omega⟩
    have:=(List.getElem?_eq_some_iff.1 hi).2
    rw [← this,← List.drop_eq_getElem_cons hlt,List.take_append_drop]
  have hset : own.set i (D ++ D0) = A ++ (D ++ D0) :: B:=by
    rw [hAB,← hA]; simp
  have hp : (D :: own).flatten.Perm ((own.set i (D ++ D0)).flatten):=by
    rw [hset,hAB]
    simp only [List.flatten_cons,List.flatten_append,List.append_assoc]
    exact List.perm_append_comm_assoc D A.flatten _
  refine ⟨D ++ D0,Both (New x.H0 H) N0,?_,?_,?_,⟨hh'.size,hh'.ds,hh'.slots,hh'.mem.perm hp⟩⟩
  · intro b o v e
    unfold Both
    cases c : New x.H0 H b o with
    | none => exact e
    | some u =>
      exfalso
      obtain ⟨cur,t,hm,-⟩:=hT b o v e
      refine hap b o u c ?_
      rw [hAB]
      simp only [ids,List.flatten_append,List.flatten_cons,List.map_append,List.mem_append]
      exact .inr (.inl (List.mem_map_of_mem hm))
  · intro b o v e
    unfold Both
    rw [e]
  · intro b o v e
    unfold Both at e
    cases c : New x.H0 H b o with
    | none =>
      rw [c] at e
      obtain ⟨cur,t,hm,r⟩:=hT b o v e
      exact ⟨cur,t,List.mem_append_right _ hm,r⟩
    | some u =>
      rw [c] at e
      cases e
      obtain ⟨cur,t,hm,r⟩:=hD b o _ c
      exact ⟨cur,t,List.mem_append_left _ hm,r⟩
theorem JL.thaw2 (i : Nat) {D0 : Own} {N0 : Heaplet} (hi : own[i]? = some D0) (hT : TH N0 D0) (hl : Low x.H0 x.w0.heap.size)
    (h : ∀ D' N',Hle N0 N' → Hle (New x.H0 H) N' → TH N' D' → JL x ops Q rest l (own.set i D') x.H0) : JL x ops Q rest l own H:=fun a w hh => by
  obtain ⟨D',N',h1,h2,h3,hh'⟩:=hh.thaw2 hi hT hl
  exact h D' N' h1 h2 h3 a w hh'
theorem JC.thaw2 {c : Code} (i : Nat) {D0 : Own} {N0 : Heaplet} (hi : own[i]? = some D0) (hT : TH N0 D0) (hl : Low x.H0 x.w0.heap.size)
    (h : ∀ D' N',Hle N0 N' → Hle (New x.H0 H) N' → TH N' D' → JC x c Q l (own.set i D') x.H0) : JC x c Q l own H:=fun a w hh => by
  obtain ⟨D',N',h1,h2,h3,hh'⟩:=hh.thaw2 hi hT hl
  exact h D' N' h1 h2 h3 a w hh'
end Go.Ow

/-
  What is proved here: many steps in one: a function that carries out control, and operations that compute or touch own blocks; over the rules of before.
-/
namespace Go.Ow
open Go.RowKit
set_option linter.unusedVariables false
set_option linter.unusedSimpArgs false

/-! ### What is known of the program's types -/
structure Tab where
  shp : List (Nat × (Bool × Nat))
  fof : List (Nat × (Nat × Nat))
  zer : List (Nat × Value)
  plc : List (Nat × List (Nat × Nat))
def tl {β : Type} (i : Nat) : List (Nat × β) → Option β
  | [] => none
  | (k,v) :: r => bif Nat.beq k i then some v else tl i r
def tl2 (i j : Nat) : List (Nat × (Nat × Nat)) → Option Nat
  | [] => none
  | (k,q,v) :: r => bif Nat.beq k i && Nat.beq q j then some v else tl2 i j r
def Each {α : Type} (p : α → Prop) : List α → Prop
  | [] => True
  | a :: r => p a ∧ Each p r
structure Tab.Ok (tb : Tab) (P : Program) : Prop where
  shp : Each (fun e => shapeOf P e.1 = some e.2) tb.shp
  fof : Each (fun e => fieldOff P e.1 e.2.1 = some e.2.2) tb.fof
  zer : Each (fun e => zeroOf P e.1 = some e.2) tb.zer
  plc : Each (fun e => placesOf P e.1 = some e.2) tb.plc
theorem tl_ok {β : Type} {p : Nat → β → Prop} {i : Nat} {v : β} : ∀ {l : List (Nat × β)},Each (fun e => p e.1 e.2) l → tl i l = some v → p i v
  | [],_,h => by cases h
  | (k,u) :: r,h,e => by
    simp only [tl] at e
    cases hb : Nat.beq k i with
    | true => rw [hb] at e; have:=Nat.eq_of_beq_eq_true hb; subst this; cases e; exact h.1
    | false => rw [hb] at e; exact tl_ok h.2 e
theorem tl2_ok {p : Nat → Nat → Nat → Prop} {i j v : Nat} : ∀ {l : List (Nat × (Nat × Nat))},Each (fun e => p e.1 e.2.1 e.2.2) l → tl2 i j l = some v → p i j v
  | [],_,h => by cases h
  | (k,q,u) :: r,h,e => by
    simp only [tl2] at e
    cases hb : Nat.beq k i with
    | true =>
      cases hc : Nat.beq q j with
      | true => rw [hb,hc] at e; have:=Nat.eq_of_beq_eq_true hb; have:=Nat.eq_of_beq_eq_true hc; subst_vars; cases e; exact h.1
      | false => rw [hb,hc] at e; exact tl2_ok h.2 e
    | false => rw [hb] at e; exact tl2_ok h.2 e

/-! ### Operations that compute -/
def evs (l : Slots) : List Operand → Option (List Value)
  | [] => some []
  | o :: r => match evo l o with
    | some v => match evs l r with
      | some vs => some (v :: vs)
      | none => none
    | none => none
theorem evs_ok {l : Slots} : ∀ {os : List Operand} {vs : List Value},evs l os = some vs → os.mapM (evo l) = some vs
  | [],vs,h => by simp [evs] at h; simp [h]
  | o :: r,vs,h => by
    simp only [evs] at h
    split at h
    · rename_i v hv
      split at h
      · rename_i us hu
        cases h; simp [List.mapM_cons,hv,evs_ok hu]
      · cases h
    · cases h
def evp (l : Slots) : List (Nat × Operand) → Option (List (Nat × Value))
  | [] => some []
  | (k,o) :: r => match evo l o with
    | some v => match evp l r with
      | some vs => some ((k,v) :: vs)
      | none => none
    | none => none
theorem evp_ok {l : Slots} : ∀ {os : List (Nat × Operand)} {vs : List (Nat × Value)},evp l os = some vs → os.mapM (fun p => (evo l p.2).map (fun u => (p.1,u))) = some vs
  | [],vs,h => by simp [evp] at h; simp [h]
  | (k,o) :: r,vs,h => by
    simp only [evp] at h
    split at h
    · rename_i v hv
      split at h
      · rename_i us hu
        cases h; simp [List.mapM_cons,hv,evp_ok hu]
      · cases h
    · cases h
def spine {α β : Type} : List α → (List α → Option β) → Option β
  | [],k => k []
  | a :: r,k => spine r (fun r' => k (a :: r'))
theorem spine_eq {α β : Type} : ∀ (l : List α) (k : List α → Option β),spine l k = k l
  | [],_ => rfl
  | a :: r,k => by unfold spine; rw [spine_eq r]

def binI (op : BinOp) (m n : Int) : Option Value:=match op with
  | .add => some (.int .i64 (w64 (m + n)))
  | .sub => some (.int .i64 (w64 (m - n)))
  | .mul => some (.int .i64 (w64 (m * n)))
  | .lss => some (.bool (decide (m < n)))
  | .leq => some (.bool (decide (m ≤ n)))
  | .gtr => some (.bool (decide (n < m)))
  | .geq => some (.bool (decide (n ≤ m)))
  | .eql => some (.bool (decide (m = n)))
  | .neq => some (.bool (!decide (m = n)))
  | _ => none

def vop (tb : Tab) (own : List Own) (l : Slots) (hs : List Nat) : Op → Option (Value × List Nat × List Nat × List Nat)
  | .move o => match evo l o with
    | some v => some (v,hs,[],[])
    | none => none
  | .assign o => match evo l o with
    | some v => some (v,hs,[],[])
    | none => none
  | .nilCheck o => match evo l o with
    | some (.pointer (some a)) => some (.pointer (some a),hs,[],[])
    | _ => none
  | .pick c a b => match evo l c with
    | some (.bool true) => match evo l a with
      | some v => some (v,hs,[],[])
      | none => none
    | some (.bool false) => match evo l b with
      | some v => some (v,hs,[],[])
      | none => none
    | _ => none
  | .unOp .not _ o => match evo l o with
    | some (.bool b) => some (.bool (!b),hs,[],[])
    | _ => none
  | .extract o i => match evo l o with
    | some (.tuple vs) => match vs.toList[i]? with
      | some v => some (v,hs,[],[])
      | none => none
    | _ => none
  | .binOp op _ a b _ => match evo l a with
    | some (.int .i64 m) => match evo l b with
      | some (.int .i64 n) => match binI op m n with
        | some v => some (v,hs,[],[])
        | none => none
      | _ => none
    | _ => none
  | .fieldAddr S o k => match evo l o with
    | some (.pointer (some ⟨b,q,none⟩)) => match tl2 S k tb.fof with
      | some n => some (.pointer (some ⟨b,q + n,none⟩),hs,[],[])
      | none => none
    | _ => none
  | .load T o => match evo l o with
    | some (.pointer (some ⟨b,q,none⟩)) => match hs with
      | i :: hs' => match own[i]? with
        | some [(b',.cells cur t fr)] => match tl T tb.shp with
          | some (false,_) => match cur.toList[q]? with
            | some v => some (v,hs',[b],[b'])
            | none => none
          | some (true,n) => spine ((cur.toList.drop q).take n) fun vs =>
            bif Nat.beq vs.length n then some (.agg vs.toArray,hs',[b],[b']) else none
          | none => none
        | _ => none
      | [] => none
    | _ => none
  | .makeFunc fn fs cs => match evs l fs.toList with
    | some vf => match evs l cs.toList with
      | some vc => some (.func fn vf.toArray vc.toArray,hs,[],[])
      | none => none
    | none => none
  | .build T parts => match evp l parts.toList with
    | some vs => match tl T tb.zer with
      | some z => match tl T tb.plc with
        | some places => bif vs.all (fitsP places z.cells.toList.length) then spine (setP places z.cells.toList vs) fun cs => some (.agg cs.toArray,hs,[],[]) else none
        | none => none
      | none => none
    | none => none
  | _ => none

theorem vop_noDefer {tb : Tab} {own : List Own} {l : Slots} {hs : List Nat} {op : Op} {r : Value × List Nat × List Nat × List Nat} (h : vop tb own l hs op = some r) : noDefer op = true:=by
  cases op <;> first | rfl | (simp [vop] at h)
theorem vop_ok {x : Cx} {tb : Tab} (ht : tb.Ok x.P) {own : List Own} {l : Slots} {H : Heaplet} {hs hs' e1 e2 : List Nat} {op : Op} {ty : TypeId} {v : Value}
    (h : vop tb own l hs op = some (v,hs',e1,e2)) (he : e1 = e2) : Runs x op ty l own H v:=by
  unfold vop at h
  split at h
  · split at h <;> first | cases h | skip
    rename_i hv; exact ZZ hv
  · split at h <;> first | cases h | skip
    rename_i hv; exact R.assign hv
  · split at h <;> first | cases h | skip
    rename_i hv; exact R.nilCheck hv
  · split at h
    · rename_i hc; split at h <;> first | cases h | skip
      rename_i hv; exact R.pickT hc hv
    · rename_i hc; split at h <;> first | cases h | skip
      rename_i hv; exact R.pickF hc hv
    · cases h
  · split at h <;> first | cases h | skip
    rename_i hv; exact R.not hv
  · split at h
    · rename_i hv; split at h <;> first | cases h | skip
      rename_i hi; exact R.extract hv (by simpa using hi)
    · cases h
  · split at h
    · rename_i h1
      split at h
      · rename_i h2
        split at h
        · rename_i h3
          cases h
          unfold binI at h3
          split at h3 <;> first | (cases h3; done) | skip
          · cases h3; exact R.add_i h1 h2
          · cases h3; exact R.sub_i h1 h2
          · cases h3; exact R.mul_i h1 h2
          · cases h3; exact R.lss_i h1 h2
          · cases h3; exact R.leq_i h1 h2
          · cases h3; exact R.gtr_i h1 h2
          · cases h3; exact R.geq_i h1 h2
          · cases h3; exact R.eql_i h1 h2
          · cases h3; exact R.neq_i h1 h2
        · cases h
      · cases h
    · cases h
  · split at h
    · rename_i h1
      split at h
      · rename_i h2
        cases h
        exact R.fa (tl2_ok (p:=fun a b c => fieldOff x.P a b = some c) ht.fof h2) h1
      · cases h
    · cases h
  · split at h
    · rename_i h1
      split at h
      · split at h
        · rename_i h2
          split at h
          · rename_i h3
            split at h
            · rename_i h4
              cases h
              have hb:=List.cons.inj he
              rw [← hb.1] at h2
              exact R.ldo _ (tl_ok (p:=fun a b => shapeOf x.P a = some b) ht.shp h3) h1 h2 h4
            · cases h
          · rename_i h3
            rw [spine_eq] at h
            cases hb : Nat.beq (List.length (List.take _ (List.drop _ _))) _ with
            | true =>
              rw [hb] at h
              cases h
              have hb':=List.cons.inj he
              rw [← hb'.1] at h2
              exact R.ldoN _ (tl_ok (p:=fun a b => shapeOf x.P a = some b) ht.shp h3) h1 h2 rfl (Nat.eq_of_beq_eq_true hb)
            | false => rw [hb] at h; cases h
          · cases h
        · cases h
      · cases h
    · cases h
  · split at h
    · rename_i h1
      split at h
      · rename_i h2
        cases h
        exact R.func (evs_ok h1) (evs_ok h2)
      · cases h
    · cases h
  · split at h
    · rename_i h1
      split at h
      · rename_i h2
        split at h
        · rename_i h3
          cases hb : List.all _ (fitsP _ _) with
          | true =>
            rw [hb] at h
            rw [cond_true,spine_eq] at h
            cases h
            exact R.bldP (tl_ok (p:=fun a b => zeroOf x.P a = some b) ht.zer h2) (tl_ok (p:=fun a b => placesOf x.P a = some b) ht.plc h3) (evp_ok h1) hb rfl
          | false => rw [hb] at h; cases h
        · cases h
      · cases h
    · cases h
  · cases h

/-! ### Steps -/
inductive Cf where
  | c (c : Code)
  | l (ops : Array Oper) (rest : List Oper)
  | n (e : Exit)
inductive KK where
  | s (d : Code)
  | b (id : Nat)
  | k (K : Act → World → Prop)
@[reducible] def den (x : Cx) : List KK → (Exit → Act → World → Prop) → (Exit → Act → World → Prop)
  | [],Q => Q
  | .s d :: ks,Q => Exit.then (d.wpIn (Fw x.r) 0 x.P (den x ks Q)) (den x ks Q)
  | .b id :: ks,Q => Exit.inBlock id (den x ks Q)
  | .k K :: ks,Q => Exit.then K (den x ks Q)
structure RS where
  cf : Cf
  ks : List KK
  l : Slots
  o : List Own
  hs : List Nat
  e1 : List Nat
  e2 : List Nat
def Goal (x : Cx) (Q : Exit → Act → World → Prop) (H : Heaplet) (s : RS) : Prop:=match s.cf with
  | .c c => JC x c (den x s.ks Q) s.l s.o H
  | .l ops rest => JL x ops (den x s.ks Q) rest s.l s.o H
  | .n e => JN x (den x s.ks Q e) s.l s.o H
def setK {β : Type} : List Own → Nat → Own → (List Own → Option β) → Option β
  | [],_,_,_ => none
  | _ :: r,0,s,k => k (s :: r)
  | a :: r,i + 1,s,k => setK r i s (fun r' => k (a :: r'))
theorem setK_eq {β : Type} : ∀ {own : List Own} {i : Nat} {s : Own} {k : List Own → Option β} {r : β},setK own i s k = some r → k (own.set i s) = some r
  | [],_,_,_,_,h => by cases h
  | _ :: _,0,_,_,_,h => h
  | a :: r,i + 1,s,k,_,h => setK_eq (own:=r) (i:=i) (k:=fun r' => k (a :: r')) h

def mstep (tb : Tab) (N : Nat) : RS → Option RS
  | ⟨.c .skip,ks,l,o,hs,e1,e2⟩ => some ⟨.n .normal,ks,l,o,hs,e1,e2⟩
  | ⟨.c .ret,ks,l,o,hs,e1,e2⟩ => some ⟨.n .ret,ks,l,o,hs,e1,e2⟩
  | ⟨.c (.exit id),ks,l,o,hs,e1,e2⟩ => some ⟨.n (.exit id),ks,l,o,hs,e1,e2⟩
  | ⟨.c (.seq c d),ks,l,o,hs,e1,e2⟩ => some ⟨.c c,.s d :: ks,l,o,hs,e1,e2⟩
  | ⟨.c (.block id c),ks,l,o,hs,e1,e2⟩ => some ⟨.c c,.b id :: ks,l,o,hs,e1,e2⟩
  | ⟨.c (.region _ ops false),ks,l,o,hs,e1,e2⟩ => some ⟨.l ops ops.toList,ks,l,o,hs,e1,e2⟩
  | ⟨.c (.cond c a b),ks,l,o,hs,e1,e2⟩ => match evo l c with
    | some (.bool true) => some ⟨.c a,ks,l,o,hs,e1,e2⟩
    | some (.bool false) => some ⟨.c b,ks,l,o,hs,e1,e2⟩
    | _ => none
  | ⟨.n .normal,.s d :: ks,l,o,hs,e1,e2⟩ => some ⟨.c d,ks,l,o,hs,e1,e2⟩
  | ⟨.n .normal,.b _ :: ks,l,o,hs,e1,e2⟩ => some ⟨.n .normal,ks,l,o,hs,e1,e2⟩
  | ⟨.n .ret,.s _ :: ks,l,o,hs,e1,e2⟩ => some ⟨.n .ret,ks,l,o,hs,e1,e2⟩
  | ⟨.n .ret,.b _ :: ks,l,o,hs,e1,e2⟩ => some ⟨.n .ret,ks,l,o,hs,e1,e2⟩
  | ⟨.n (.exit id),.s _ :: ks,l,o,hs,e1,e2⟩ => some ⟨.n (.exit id),ks,l,o,hs,e1,e2⟩
  | ⟨.n .ret,.k _ :: ks,l,o,hs,e1,e2⟩ => some ⟨.n .ret,ks,l,o,hs,e1,e2⟩
  | ⟨.n (.exit id),.k _ :: ks,l,o,hs,e1,e2⟩ => some ⟨.n (.exit id),ks,l,o,hs,e1,e2⟩
  | ⟨.n (.exit id'),.b id :: ks,l,o,hs,e1,e2⟩ => bif Nat.beq id' id then some ⟨.n .normal,ks,l,o,hs,e1,e2⟩ else some ⟨.n (.exit id'),ks,l,o,hs,e1,e2⟩
  | ⟨.l ops [],ks,l,o,hs,e1,e2⟩ => some ⟨.n .normal,ks,l,o,hs,e1,e2⟩
  | ⟨.l ops (⟨some d,op,ty,pos,aft,none⟩ :: rest),ks,l,o,hs,e1,e2⟩ => match vop tb o l hs op with
    | some (v,hs',f1,f2) => bif Nat.blt d N then some ⟨.l ops rest,ks,(d,v) :: l,o,hs',f1 ++ e1,f2 ++ e2⟩ else none
    | none => none
  | ⟨.l ops (⟨none,.store T p q,ty,pos,aft,none⟩ :: rest),ks,l,o,hs,e1,e2⟩ => match evo l p with
    | some (.pointer (some ⟨b,k,none⟩)) => match evo l q with
      | some v => match hs with
        | i :: hs' => match o[i]? with
          | some [(b',.cells cur t (0,0))] => match tl T tb.shp with
            | some (_,n) => bif Nat.beq v.cells.toList.length n && (v.cells.toList.all (·.oneCell') && Nat.ble (k + n) cur.toList.length) then
                spine (cur.toList.take k ++ v.cells.toList ++ cur.toList.drop (k + n)) fun cs => setK o i [(b',.cells cs.toArray t (0,0))] fun o' => some ⟨.l ops rest,ks,l,o',hs',b :: e1,b' :: e2⟩
              else none
            | none => none
          | _ => none
        | [] => none
      | none => none
    | _ => none
  | ⟨.l ops (⟨dst,op,ty,pos,aft,some (j,b)⟩ :: rest),ks,l,o,hs,e1,e2⟩ => match ops.toList[j]? with
    | some oj => match oj.dst with
      | some t => match lk l t with
        | some (.bool true) => bif b then some ⟨.l ops (⟨dst,op,ty,pos,aft,none⟩ :: rest),ks,l,o,hs,e1,e2⟩ else match dst with
          | some d => bif Nat.blt d N then some ⟨.l ops rest,ks,(d,undef) :: l,o,hs,e1,e2⟩ else none
          | none => none
        | some (.bool false) => bif b then (match dst with
          | some d => bif Nat.blt d N then some ⟨.l ops rest,ks,(d,undef) :: l,o,hs,e1,e2⟩ else none
          | none => none) else some ⟨.l ops (⟨dst,op,ty,pos,aft,none⟩ :: rest),ks,l,o,hs,e1,e2⟩
        | some (.tuple ⟨[]⟩) => match dst with
          | some d => bif Nat.blt d N then some ⟨.l ops rest,ks,(d,undef) :: l,o,hs,e1,e2⟩ else none
          | none => none
        | _ => none
      | none => none
    | none => none
  | _ => none

theorem vop_len {tb : Tab} {own : List Own} {l : Slots} {hs hs' e1 e2 : List Nat} {op : Op} {v : Value} (h : vop tb own l hs op = some (v,hs',e1,e2)) : e1.length = e2.length:=by
  cases op with
  | load T o =>
    simp only [vop] at h
    repeat' (first | (split at h) | (cases h; done))
    all_goals first | (cases h; rfl) | (cases h; done) | skip
    rw [spine_eq] at h
    cases hb : Nat.beq (List.length (List.take _ (List.drop _ _))) _ <;> rw [hb] at h <;> cases h
    rfl
  | build T ps =>
    simp only [vop] at h
    repeat' (first | (split at h) | (cases h; done))
    all_goals first | (cases h; done) | skip
    cases hb : List.all _ (fitsP _ _) with
    | true => rw [hb] at h; rw [cond_true,spine_eq] at h; cases h; rfl
    | false => rw [hb] at h; cases h
  | unOp q t p =>
    cases q <;> simp only [vop] at h
    all_goals first
      | (cases h; done)
      | (split at h
         · cases h; rfl
         · cases h)
  | _ =>
    simp only [vop] at h
    repeat' (first | (split at h) | (cases h; done))
    all_goals first | (cases h; rfl) | (cases h; done)
theorem mstep_ok {x : Cx} {tb : Tab} (ht : tb.Ok x.P) {Q : Exit → Act → World → Prop} {H : Heaplet} {s s' : RS} (h : mstep tb x.n s = some s') (he : s'.e1 = s'.e2) :
    s.e1 = s.e2 ∧ (Goal x Q H s' → Goal x Q H s):=by
  unfold mstep at h
  split at h
  · cases h; exact ⟨he,JC.skip⟩
  · cases h; exact ⟨he,JC.ret⟩
  · cases h; exact ⟨he,JC.exit⟩
  · cases h; exact ⟨he,JC.seq⟩
  · cases h; exact ⟨he,JC.block⟩
  · cases h; exact ⟨he,JC.region⟩
  · split at h
    · rename_i hc; cases h; exact ⟨he,JC.condT hc⟩
    · rename_i hc; cases h; exact ⟨he,JC.condF hc⟩
    · cases h
  · cases h; exact ⟨he,JN.next⟩
  · cases h; exact ⟨he,JN.blkN⟩
  · cases h; exact ⟨he,JN.passR⟩
  · cases h; exact ⟨he,JN.blkR⟩
  · cases h; exact ⟨he,JN.passX⟩
  · cases h; exact ⟨he,JN.passR⟩
  · cases h; exact ⟨he,JN.passX⟩
  · rename_i id' id ks l o hs e1 e2
    cases hb : Nat.beq id' id with
    | true => rw [hb] at h; cases h; have:=Nat.eq_of_beq_eq_true hb; subst this; exact ⟨he,JN.exitSame⟩
    | false => rw [hb] at h; cases h; exact ⟨he,JN.exitOther hb⟩
  · cases h; exact ⟨he,ZW⟩
  · split at h
    · rename_i hv
      cases hb : Nat.blt _ x.n with
      | true =>
        rw [hb] at h; cases h
        have hl:=vop_len hv
        obtain ⟨h1,h2⟩:=List.append_inj he hl
        exact ⟨h2,fun g => ZA hb (vop_noDefer hv) (vop_ok ht hv h1) g⟩
      | false => rw [hb] at h; cases h
    · cases h
  · split at h
    · rename_i h1
      split at h
      · rename_i h2
        split at h
        · split at h
          · rename_i h3
            split at h
            · rename_i h4
              cases hb : (Nat.beq _ _ && (List.all _ (fun z : Value => z.oneCell') && Nat.ble _ _)) with
              | true =>
                rw [hb,cond_true,spine_eq] at h
                have h5:=setK_eq h
                cases h5
                obtain ⟨c1,c2⟩:=List.cons.inj he
                rw [← c1] at h3
                rw [Bool.and_eq_true,Bool.and_eq_true] at hb
                refine ⟨c2,fun g => JL.store _ (tl_ok (p:=fun a b => shapeOf x.P a = some b) ht.shp h4) h1 h2 h3 (by simpa using Nat.eq_of_beq_eq_true hb.1) hb.2.1 (by simpa using Nat.le_of_ble_eq_true hb.2.2) ?_⟩
                rw [c1]; exact g
              | false => rw [hb] at h; cases h
            · cases h
          · cases h
        · cases h
      · cases h
    · cases h
  · split at h
    · rename_i hj
      split at h
      · rename_i hd
        split at h
        · rename_i hk
          rename_i b _ _ _ _ _ _ _ _ _ _ _ _
          cases b with
          | true => cases h; exact ⟨he,JL.gYes (by simpa using hj) hd hk⟩
          | false =>
            rw [cond_false] at h
            split at h <;> first | (cases h; done) | skip
            cases hb : Nat.blt _ x.n with
            | true => rw [hb] at h; cases h; exact ⟨he,JL.gNo (by simpa using hj) hd hk rfl hb⟩
            | false => rw [hb] at h; cases h
        · rename_i hk
          rename_i b _ _ _ _ _ _ _ _ _ _ _ _
          cases b with
          | false => cases h; exact ⟨he,JL.gYes (by simpa using hj) hd hk⟩
          | true =>
            rw [cond_true] at h
            split at h <;> first | (cases h; done) | skip
            cases hb : Nat.blt _ x.n with
            | true => rw [hb] at h; cases h; exact ⟨he,JL.gNo (by simpa using hj) hd hk rfl hb⟩
            | false => rw [hb] at h; cases h
        · rename_i hk
          split at h <;> first | (cases h; done) | skip
          cases hb : Nat.blt _ x.n with
          | true => rw [hb] at h; cases h; exact ⟨he,JL.gNoU (by simpa using hj) hd hk hb⟩
          | false => rw [hb] at h; cases h
        · cases h
      · cases h
    · cases h
  · cases h

def mrun (tb : Tab) (N : Nat) : Nat → RS → Option RS
  | 0,s => some s
  | k + 1,s => match mstep tb N s with
    | some s' => mrun tb N k s'
    | none => none
theorem Zm {x : Cx} {tb : Tab} (ht : tb.Ok x.P) {Q : Exit → Act → World → Prop} {H : Heaplet} : ∀ {k : Nat} {s s' : RS},mrun tb x.n k s = some s' → s'.e1 = s'.e2 →
    s.e1 = s.e2 ∧ (Goal x Q H s' → Goal x Q H s)
  | 0,s,s',h,he => by cases h; exact ⟨he,id⟩
  | k + 1,s,s',h,he => by
    simp only [mrun] at h
    split at h
    · rename_i h1
      obtain ⟨e1,g1⟩:=Zm ht (k:=k) h he
      obtain ⟨e2,g2⟩:=mstep_ok ht (H:=H) (Q:=Q) h1 e1
      exact ⟨e2,fun g => g2 (g1 g)⟩
    · cases h

section runs
variable {x : Cx} {tb : Tab} {Q : Exit → Act → World → Prop} {l l' : Slots} {own own' : List Own} {H : Heaplet} {ks' : List KK} {E : List Nat} {c c' : Code} {ops ops' : Array Oper} {rest rest' : List Oper} {e e' : Exit}
variable {d0 d1 d2 : Code} {i0 i1 i2 : Nat} {k0 k1 k2 : Act → World → Prop}
theorem Run.cc (hs : List Nat) (k : Nat) (ht : tb.Ok x.P) (h : mrun tb x.n k ⟨.c c,[],l,own,hs,[],[]⟩ = some ⟨.c c',ks',l',own',[],E,E⟩) (g : JC x c' (den x ks' Q) l' own' H) : JC x c Q l own H:=(Zm (Q:=Q) ht h rfl).2 g
theorem Run.ccz (hs : List Nat) (k : Nat) (ht : tb.Ok x.P) (h : mrun tb x.n k ⟨.c c,[],l,own,hs,[],[]⟩ = some ⟨.c c',[],l',own',[],E,E⟩) (g : JC x c' Q l' own' H) : JC x c Q l own H:=(Zm (Q:=Q) ht h rfl).2 g
theorem Run.cl (hs : List Nat) (k : Nat) (ht : tb.Ok x.P) (h : mrun tb x.n k ⟨.c c,[],l,own,hs,[],[]⟩ = some ⟨.l ops' rest',ks',l',own',[],E,E⟩) (g : JL x ops' (den x ks' Q) rest' l' own' H) : JC x c Q l own H:=(Zm (Q:=Q) ht h rfl).2 g
theorem Run.clz (hs : List Nat) (k : Nat) (ht : tb.Ok x.P) (h : mrun tb x.n k ⟨.c c,[],l,own,hs,[],[]⟩ = some ⟨.l ops' rest',[],l',own',[],E,E⟩) (g : JL x ops' Q rest' l' own' H) : JC x c Q l own H:=(Zm (Q:=Q) ht h rfl).2 g
theorem Run.cnz (hs : List Nat) (k : Nat) (ht : tb.Ok x.P) (h : mrun tb x.n k ⟨.c c,[],l,own,hs,[],[]⟩ = some ⟨.n e',[],l',own',[],E,E⟩) (g : JN x (Q e') l' own' H) : JC x c Q l own H:=(Zm (Q:=Q) ht h rfl).2 g
theorem Run.llz (hs : List Nat) (k : Nat) (ht : tb.Ok x.P) (h : mrun tb x.n k ⟨.l ops rest,[],l,own,hs,[],[]⟩ = some ⟨.l ops' rest',[],l',own',[],E,E⟩) (g : JL x ops' Q rest' l' own' H) : JL x ops Q rest l own H:=(Zm (Q:=Q) ht h rfl).2 g
theorem Run.ln (hs : List Nat) (k : Nat) (ht : tb.Ok x.P) (h : mrun tb x.n k ⟨.l ops rest,[],l,own,hs,[],[]⟩ = some ⟨.n e',ks',l',own',[],E,E⟩) (g : JN x (den x ks' Q e') l' own' H) : JL x ops Q rest l own H:=(Zm (Q:=Q) ht h rfl).2 g
theorem Run.lnz (hs : List Nat) (k : Nat) (ht : tb.Ok x.P) (h : mrun tb x.n k ⟨.l ops rest,[],l,own,hs,[],[]⟩ = some ⟨.n e',[],l',own',[],E,E⟩) (g : JN x (Q e') l' own' H) : JL x ops Q rest l own H:=(Zm (Q:=Q) ht h rfl).2 g
theorem Run.cc_s (hs : List Nat) (k : Nat) (ht : tb.Ok x.P) (h : mrun tb x.n k ⟨.c c,[.s d0],l,own,hs,[],[]⟩ = some ⟨.c c',ks',l',own',[],E,E⟩) (g : JC x c' (den x ks' Q) l' own' H) : JC x c (Exit.then (d0.wpIn (Fw x.r) 0 x.P Q) Q) l own H:=(Zm (Q:=Q) ht h rfl).2 g
theorem Run.ccz_s (hs : List Nat) (k : Nat) (ht : tb.Ok x.P) (h : mrun tb x.n k ⟨.c c,[.s d0],l,own,hs,[],[]⟩ = some ⟨.c c',[],l',own',[],E,E⟩) (g : JC x c' Q l' own' H) : JC x c (Exit.then (d0.wpIn (Fw x.r) 0 x.P Q) Q) l own H:=(Zm (Q:=Q) ht h rfl).2 g
theorem Run.cl_s (hs : List Nat) (k : Nat) (ht : tb.Ok x.P) (h : mrun tb x.n k ⟨.c c,[.s d0],l,own,hs,[],[]⟩ = some ⟨.l ops' rest',ks',l',own',[],E,E⟩) (g : JL x ops' (den x ks' Q) rest' l' own' H) : JC x c (Exit.then (d0.wpIn (Fw x.r) 0 x.P Q) Q) l own H:=(Zm (Q:=Q) ht h rfl).2 g
theorem Run.clz_s (hs : List Nat) (k : Nat) (ht : tb.Ok x.P) (h : mrun tb x.n k ⟨.c c,[.s d0],l,own,hs,[],[]⟩ = some ⟨.l ops' rest',[],l',own',[],E,E⟩) (g : JL x ops' Q rest' l' own' H) : JC x c (Exit.then (d0.wpIn (Fw x.r) 0 x.P Q) Q) l own H:=(Zm (Q:=Q) ht h rfl).2 g
theorem Run.cnz_s (hs : List Nat) (k : Nat) (ht : tb.Ok x.P) (h : mrun tb x.n k ⟨.c c,[.s d0],l,own,hs,[],[]⟩ = some ⟨.n e',[],l',own',[],E,E⟩) (g : JN x (Q e') l' own' H) : JC x c (Exit.then (d0.wpIn (Fw x.r) 0 x.P Q) Q) l own H:=(Zm (Q:=Q) ht h rfl).2 g
theorem Run.lc_s (hs : List Nat) (k : Nat) (ht : tb.Ok x.P) (h : mrun tb x.n k ⟨.l ops rest,[.s d0],l,own,hs,[],[]⟩ = some ⟨.c c',ks',l',own',[],E,E⟩) (g : JC x c' (den x ks' Q) l' own' H) : JL x ops (Exit.then (d0.wpIn (Fw x.r) 0 x.P Q) Q) rest l own H:=(Zm (Q:=Q) ht h rfl).2 g
theorem Run.lcz_s (hs : List Nat) (k : Nat) (ht : tb.Ok x.P) (h : mrun tb x.n k ⟨.l ops rest,[.s d0],l,own,hs,[],[]⟩ = some ⟨.c c',[],l',own',[],E,E⟩) (g : JC x c' Q l' own' H) : JL x ops (Exit.then (d0.wpIn (Fw x.r) 0 x.P Q) Q) rest l own H:=(Zm (Q:=Q) ht h rfl).2 g
theorem Run.ll_s (hs : List Nat) (k : Nat) (ht : tb.Ok x.P) (h : mrun tb x.n k ⟨.l ops rest,[.s d0],l,own,hs,[],[]⟩ = some ⟨.l ops' rest',ks',l',own',[],E,E⟩) (g : JL x ops' (den x ks' Q) rest' l' own' H) : JL x ops (Exit.then (d0.wpIn (Fw x.r) 0 x.P Q) Q) rest l own H:=(Zm (Q:=Q) ht h rfl).2 g
theorem Run.llz_s (hs : List Nat) (k : Nat) (ht : tb.Ok x.P) (h : mrun tb x.n k ⟨.l ops rest,[.s d0],l,own,hs,[],[]⟩ = some ⟨.l ops' rest',[],l',own',[],E,E⟩) (g : JL x ops' Q rest' l' own' H) : JL x ops (Exit.then (d0.wpIn (Fw x.r) 0 x.P Q) Q) rest l own H:=(Zm (Q:=Q) ht h rfl).2 g
theorem Run.lnz_s (hs : List Nat) (k : Nat) (ht : tb.Ok x.P) (h : mrun tb x.n k ⟨.l ops rest,[.s d0],l,own,hs,[],[]⟩ = some ⟨.n e',[],l',own',[],E,E⟩) (g : JN x (Q e') l' own' H) : JL x ops (Exit.then (d0.wpIn (Fw x.r) 0 x.P Q) Q) rest l own H:=(Zm (Q:=Q) ht h rfl).2 g
theorem Run.nc_s (hs : List Nat) (k : Nat) (ht : tb.Ok x.P) (h : mrun tb x.n k ⟨.n e,[.s d0],l,own,hs,[],[]⟩ = some ⟨.c c',ks',l',own',[],E,E⟩) (g : JC x c' (den x ks' Q) l' own' H) : JN x ((Exit.then (d0.wpIn (Fw x.r) 0 x.P Q) Q) e) l own H:=(Zm (Q:=Q) ht h rfl).2 g
theorem Run.ncz_s (hs : List Nat) (k : Nat) (ht : tb.Ok x.P) (h : mrun tb x.n k ⟨.n e,[.s d0],l,own,hs,[],[]⟩ = some ⟨.c c',[],l',own',[],E,E⟩) (g : JC x c' Q l' own' H) : JN x ((Exit.then (d0.wpIn (Fw x.r) 0 x.P Q) Q) e) l own H:=(Zm (Q:=Q) ht h rfl).2 g
theorem Run.nl_s (hs : List Nat) (k : Nat) (ht : tb.Ok x.P) (h : mrun tb x.n k ⟨.n e,[.s d0],l,own,hs,[],[]⟩ = some ⟨.l ops' rest',ks',l',own',[],E,E⟩) (g : JL x ops' (den x ks' Q) rest' l' own' H) : JN x ((Exit.then (d0.wpIn (Fw x.r) 0 x.P Q) Q) e) l own H:=(Zm (Q:=Q) ht h rfl).2 g
theorem Run.nlz_s (hs : List Nat) (k : Nat) (ht : tb.Ok x.P) (h : mrun tb x.n k ⟨.n e,[.s d0],l,own,hs,[],[]⟩ = some ⟨.l ops' rest',[],l',own',[],E,E⟩) (g : JL x ops' Q rest' l' own' H) : JN x ((Exit.then (d0.wpIn (Fw x.r) 0 x.P Q) Q) e) l own H:=(Zm (Q:=Q) ht h rfl).2 g
theorem Run.nnz_s (hs : List Nat) (k : Nat) (ht : tb.Ok x.P) (h : mrun tb x.n k ⟨.n e,[.s d0],l,own,hs,[],[]⟩ = some ⟨.n e',[],l',own',[],E,E⟩) (g : JN x (Q e') l' own' H) : JN x ((Exit.then (d0.wpIn (Fw x.r) 0 x.P Q) Q) e) l own H:=(Zm (Q:=Q) ht h rfl).2 g
theorem Run.cnz_k (hs : List Nat) (k : Nat) (ht : tb.Ok x.P) (h : mrun tb x.n k ⟨.c c,[.k k0],l,own,hs,[],[]⟩ = some ⟨.n e',[],l',own',[],E,E⟩) (g : JN x (Q e') l' own' H) : JC x c (Exit.then k0 Q) l own H:=(Zm (Q:=Q) ht h rfl).2 g
theorem Run.cnz_kb (hs : List Nat) (k : Nat) (ht : tb.Ok x.P) (h : mrun tb x.n k ⟨.c c,[.k k0,.b i1],l,own,hs,[],[]⟩ = some ⟨.n e',[],l',own',[],E,E⟩) (g : JN x (Q e') l' own' H) : JC x c (Exit.then k0 (Exit.inBlock i1 Q)) l own H:=(Zm (Q:=Q) ht h rfl).2 g
theorem Run.nnz_kb (hs : List Nat) (k : Nat) (ht : tb.Ok x.P) (h : mrun tb x.n k ⟨.n e,[.k k0,.b i1],l,own,hs,[],[]⟩ = some ⟨.n e',[],l',own',[],E,E⟩) (g : JN x (Q e') l' own' H) : JN x ((Exit.then k0 (Exit.inBlock i1 Q)) e) l own H:=(Zm (Q:=Q) ht h rfl).2 g
theorem Run.lnz_sk (hs : List Nat) (k : Nat) (ht : tb.Ok x.P) (h : mrun tb x.n k ⟨.l ops rest,[.s d0,.k k1],l,own,hs,[],[]⟩ = some ⟨.n e',[],l',own',[],E,E⟩) (g : JN x (Q e') l' own' H) : JL x ops (Exit.then (d0.wpIn (Fw x.r) 0 x.P (Exit.then k1 Q)) (Exit.then k1 Q)) rest l own H:=(Zm (Q:=Q) ht h rfl).2 g
theorem Run.nnz_sk (hs : List Nat) (k : Nat) (ht : tb.Ok x.P) (h : mrun tb x.n k ⟨.n e,[.s d0,.k k1],l,own,hs,[],[]⟩ = some ⟨.n e',[],l',own',[],E,E⟩) (g : JN x (Q e') l' own' H) : JN x ((Exit.then (d0.wpIn (Fw x.r) 0 x.P (Exit.then k1 Q)) (Exit.then k1 Q)) e) l own H:=(Zm (Q:=Q) ht h rfl).2 g
theorem Run.cl_bs (hs : List Nat) (k : Nat) (ht : tb.Ok x.P) (h : mrun tb x.n k ⟨.c c,[.b i0,.s d1],l,own,hs,[],[]⟩ = some ⟨.l ops' rest',ks',l',own',[],E,E⟩) (g : JL x ops' (den x ks' Q) rest' l' own' H) : JC x c (Exit.inBlock i0 (Exit.then (d1.wpIn (Fw x.r) 0 x.P Q) Q)) l own H:=(Zm (Q:=Q) ht h rfl).2 g
theorem Run.clz_bs (hs : List Nat) (k : Nat) (ht : tb.Ok x.P) (h : mrun tb x.n k ⟨.c c,[.b i0,.s d1],l,own,hs,[],[]⟩ = some ⟨.l ops' rest',[],l',own',[],E,E⟩) (g : JL x ops' Q rest' l' own' H) : JC x c (Exit.inBlock i0 (Exit.then (d1.wpIn (Fw x.r) 0 x.P Q) Q)) l own H:=(Zm (Q:=Q) ht h rfl).2 g
theorem Run.llz_bs (hs : List Nat) (k : Nat) (ht : tb.Ok x.P) (h : mrun tb x.n k ⟨.l ops rest,[.b i0,.s d1],l,own,hs,[],[]⟩ = some ⟨.l ops' rest',[],l',own',[],E,E⟩) (g : JL x ops' Q rest' l' own' H) : JL x ops (Exit.inBlock i0 (Exit.then (d1.wpIn (Fw x.r) 0 x.P Q) Q)) rest l own H:=(Zm (Q:=Q) ht h rfl).2 g
theorem Run.lnz_bs (hs : List Nat) (k : Nat) (ht : tb.Ok x.P) (h : mrun tb x.n k ⟨.l ops rest,[.b i0,.s d1],l,own,hs,[],[]⟩ = some ⟨.n e',[],l',own',[],E,E⟩) (g : JN x (Q e') l' own' H) : JL x ops (Exit.inBlock i0 (Exit.then (d1.wpIn (Fw x.r) 0 x.P Q) Q)) rest l own H:=(Zm (Q:=Q) ht h rfl).2 g
theorem Run.nl_bs (hs : List Nat) (k : Nat) (ht : tb.Ok x.P) (h : mrun tb x.n k ⟨.n e,[.b i0,.s d1],l,own,hs,[],[]⟩ = some ⟨.l ops' rest',ks',l',own',[],E,E⟩) (g : JL x ops' (den x ks' Q) rest' l' own' H) : JN x ((Exit.inBlock i0 (Exit.then (d1.wpIn (Fw x.r) 0 x.P Q) Q)) e) l own H:=(Zm (Q:=Q) ht h rfl).2 g
theorem Run.nlz_bs (hs : List Nat) (k : Nat) (ht : tb.Ok x.P) (h : mrun tb x.n k ⟨.n e,[.b i0,.s d1],l,own,hs,[],[]⟩ = some ⟨.l ops' rest',[],l',own',[],E,E⟩) (g : JL x ops' Q rest' l' own' H) : JN x ((Exit.inBlock i0 (Exit.then (d1.wpIn (Fw x.r) 0 x.P Q) Q)) e) l own H:=(Zm (Q:=Q) ht h rfl).2 g
theorem Run.nnz_bs (hs : List Nat) (k : Nat) (ht : tb.Ok x.P) (h : mrun tb x.n k ⟨.n e,[.b i0,.s d1],l,own,hs,[],[]⟩ = some ⟨.n e',[],l',own',[],E,E⟩) (g : JN x (Q e') l' own' H) : JN x ((Exit.inBlock i0 (Exit.then (d1.wpIn (Fw x.r) 0 x.P Q) Q)) e) l own H:=(Zm (Q:=Q) ht h rfl).2 g
theorem Run.nnz_kk (hs : List Nat) (k : Nat) (ht : tb.Ok x.P) (h : mrun tb x.n k ⟨.n e,[.k k0,.k k1],l,own,hs,[],[]⟩ = some ⟨.n e',[],l',own',[],E,E⟩) (g : JN x (Q e') l' own' H) : JN x ((Exit.then k0 (Exit.then k1 Q)) e) l own H:=(Zm (Q:=Q) ht h rfl).2 g
theorem Run.cnz_bk (hs : List Nat) (k : Nat) (ht : tb.Ok x.P) (h : mrun tb x.n k ⟨.c c,[.b i0,.k k1],l,own,hs,[],[]⟩ = some ⟨.n e',[],l',own',[],E,E⟩) (g : JN x (Q e') l' own' H) : JC x c (Exit.inBlock i0 (Exit.then k1 Q)) l own H:=(Zm (Q:=Q) ht h rfl).2 g
theorem Run.cnz_b (hs : List Nat) (k : Nat) (ht : tb.Ok x.P) (h : mrun tb x.n k ⟨.c c,[.b i0],l,own,hs,[],[]⟩ = some ⟨.n e',[],l',own',[],E,E⟩) (g : JN x (Q e') l' own' H) : JC x c (Exit.inBlock i0 Q) l own H:=(Zm (Q:=Q) ht h rfl).2 g
theorem Run.lnz_b (hs : List Nat) (k : Nat) (ht : tb.Ok x.P) (h : mrun tb x.n k ⟨.l ops rest,[.b i0],l,own,hs,[],[]⟩ = some ⟨.n e',[],l',own',[],E,E⟩) (g : JN x (Q e') l' own' H) : JL x ops (Exit.inBlock i0 Q) rest l own H:=(Zm (Q:=Q) ht h rfl).2 g
theorem Run.lnz_sbk (hs : List Nat) (k : Nat) (ht : tb.Ok x.P) (h : mrun tb x.n k ⟨.l ops rest,[.s d0,.b i1,.k k2],l,own,hs,[],[]⟩ = some ⟨.n e',[],l',own',[],E,E⟩) (g : JN x (Q e') l' own' H) : JL x ops (Exit.then (d0.wpIn (Fw x.r) 0 x.P (Exit.inBlock i1 (Exit.then k2 Q))) (Exit.inBlock i1 (Exit.then k2 Q))) rest l own H:=(Zm (Q:=Q) ht h rfl).2 g
theorem Run.llz_sbs (hs : List Nat) (k : Nat) (ht : tb.Ok x.P) (h : mrun tb x.n k ⟨.l ops rest,[.s d0,.b i1,.s d2],l,own,hs,[],[]⟩ = some ⟨.l ops' rest',[],l',own',[],E,E⟩) (g : JL x ops' Q rest' l' own' H) : JL x ops (Exit.then (d0.wpIn (Fw x.r) 0 x.P (Exit.inBlock i1 (Exit.then (d2.wpIn (Fw x.r) 0 x.P Q) Q))) (Exit.inBlock i1 (Exit.then (d2.wpIn (Fw x.r) 0 x.P Q) Q))) rest l own H:=(Zm (Q:=Q) ht h rfl).2 g
theorem Run.lnz_sbs (hs : List Nat) (k : Nat) (ht : tb.Ok x.P) (h : mrun tb x.n k ⟨.l ops rest,[.s d0,.b i1,.s d2],l,own,hs,[],[]⟩ = some ⟨.n e',[],l',own',[],E,E⟩) (g : JN x (Q e') l' own' H) : JL x ops (Exit.then (d0.wpIn (Fw x.r) 0 x.P (Exit.inBlock i1 (Exit.then (d2.wpIn (Fw x.r) 0 x.P Q) Q))) (Exit.inBlock i1 (Exit.then (d2.wpIn (Fw x.r) 0 x.P Q) Q))) rest l own H:=(Zm (Q:=Q) ht h rfl).2 g
theorem Run.cnz_kkb (hs : List Nat) (k : Nat) (ht : tb.Ok x.P) (h : mrun tb x.n k ⟨.c c,[.k k0,.k k1,.b i2],l,own,hs,[],[]⟩ = some ⟨.n e',[],l',own',[],E,E⟩) (g : JN x (Q e') l' own' H) : JC x c (Exit.then k0 (Exit.then k1 (Exit.inBlock i2 Q))) l own H:=(Zm (Q:=Q) ht h rfl).2 g
theorem Run.cnz_kbk (hs : List Nat) (k : Nat) (ht : tb.Ok x.P) (h : mrun tb x.n k ⟨.c c,[.k k0,.b i1,.k k2],l,own,hs,[],[]⟩ = some ⟨.n e',[],l',own',[],E,E⟩) (g : JN x (Q e') l' own' H) : JC x c (Exit.then k0 (Exit.inBlock i1 (Exit.then k2 Q))) l own H:=(Zm (Q:=Q) ht h rfl).2 g
end runs
end Go.Ow

/- plain functions: what the code computes. -/
namespace Go.Ow
set_option linter.unusedVariables false
set_option linter.unusedSimpArgs false

def math_bits_Mul64 (p_1 : UInt64) (p_2 : UInt64) : Option (UInt64 × UInt64) :=
  some ((((sr64 p_1 (((32 : UInt64).toNat : Int)).toNat) * (sr64 p_2 (((32 : UInt64).toNat : Int)).toNat)) + (sr64 (((sr64 p_1 (((32 : UInt64).toNat : Int)).toNat) * (p_2 &&& (4294967295 : UInt64))) + (sr64 ((p_1 &&& (4294967295 : UInt64)) * (p_2 &&& (4294967295 : UInt64))) (((32 : UInt64).toNat : Int)).toNat)) (((32 : UInt64).toNat : Int)).toNat)) + (sr64 (((((sr64 p_1 (((32 : UInt64).toNat : Int)).toNat) * (p_2 &&& (4294967295 : UInt64))) + (sr64 ((p_1 &&& (4294967295 : UInt64)) * (p_2 &&& (4294967295 : UInt64))) (((32 : UInt64).toNat : Int)).toNat)) &&& (4294967295 : UInt64)) + ((p_1 &&& (4294967295 : UInt64)) * (sr64 p_2 (((32 : UInt64).toNat : Int)).toNat))) (((32 : UInt64).toNat : Int)).toNat),p_1 * p_2)

def math_bits_Mul (p_1 : UInt64) (p_2 : UInt64) : Option (UInt64 × UInt64) :=
  Option.bind (math_bits_Mul64 p_1 p_2) fun x_3 => some (x_3.1,x_3.2)

def slices_Repeat_int_l1 (s_21 : List Int × Int) : Option ((List Int × Int) ⊕ (List Int)) :=
  cond (decide (s_21.2 < (s_21.1.length : Int))) (chk (0 ≤ s_21.2 ∧ s_21.2 ≤ (s_21.1.length : Int) ∧ (s_21.1.length : Int) ≤ s_21.1.length) <| chk (0 ≤ (0 : Int) ∧ (0 : Int) ≤ s_21.2 ∧ s_21.2 ≤ s_21.1.length) <| cpyO s_21.1 s_21.2 (s_21.1.length : Int) (cut s_21.1 (0 : Int) s_21.2) fun m_30 => some (.inl (m_30,w64 (s_21.2 + (min ((cut s_21.1 (0 : Int) s_21.2).length : Int) ((s_21.1.length : Int) - s_21.2)))))) (some (.inr s_21.1))

def slices_Repeat_int (p_1 : List Int) (p_3 : Int) : Option (List Int) :=
  cond (decide (p_3 < 0)) (none) (Option.bind (math_bits_Mul (u64i (p_1.length : Int)) (u64i p_3)) fun x_5 => cond (decide ((0 : UInt64) < x_5.1)) (none) (cond (decide ((9223372036854775807 : UInt64) < x_5.2)) (none) (mks (w64 (x_5.2.toNat : Int)) 0 fun x_12 => cpyO x_12 0 (x_12.length : Int) p_1 fun m_14 => Option.bind (loop slices_Repeat_int_l1 (m_14,min (p_1.length : Int) ((x_12.length : Int) - 0))) (fun t_18 => some t_18))))

def dev_cut (p_1 : List Int) : Option (List (List UInt8)):=if (∀ n ∈ p_1,0 ≤ n) ∧ (p_1.map Int.toNat).sum ≤ LIM ∧ p_1.length ≤ LIM then some (p_1.map fun n => List.replicate n.toNat 0) else none

def dev_New : Option Disk :=
  Option.bind (slices_Repeat_int ([256]) 256) fun x_6 => Option.bind (dev_cut x_6) fun x_12 => some (Disk.mk x_12 ([] : List Write))

def bytes_Repeat_l1 (x_7 : UInt64 × UInt64) (t_14 : Int) (s_39 : List UInt8 × Int) : Option ((List UInt8 × Int) ⊕ (List UInt8)) :=
  cond (decide (s_39.2 < (w64 (x_7.2.toNat : Int)))) (chk (0 ≤ s_39.2 ∧ s_39.2 ≤ (s_39.1.length : Int) ∧ (s_39.1.length : Int) ≤ s_39.1.length) <| chk (0 ≤ (0 : Int) ∧ (0 : Int) ≤ min s_39.2 t_14 ∧ min s_39.2 t_14 ≤ s_39.1.length) <| cpyO s_39.1 s_39.2 (s_39.1.length : Int) (cut s_39.1 (0 : Int) (min s_39.2 t_14)) fun m_48 => some (.inl (m_48,w64 (s_39.2 + (min ((cut s_39.1 (0 : Int) (min s_39.2 t_14)).length : Int) ((s_39.1.length : Int) - s_39.2)))))) (some (.inr s_39.1))

def bytes_Repeat (p_1 : List UInt8) (p_3 : Int) : Option (List UInt8) :=
  cond (decide (p_3 = 0)) (some ([] : List UInt8)) (cond (decide (p_3 < 0)) (none) (Option.bind (math_bits_Mul (u64i (p_1.length : Int)) (u64i p_3)) fun x_7 => cond (decide ((0 : UInt64) < x_7.1)) (none) (cond (decide ((9223372036854775807 : UInt64) < x_7.2)) (none) (cond (decide ((p_1.length : Int) = 0)) (some ([] : List UInt8)) (Option.bind (cond (decide (8192 < (w64 (x_7.2.toNat : Int)))) (chk ((p_1.length : Int) ≠ 0) <| cond (decide ((w64 ((w64 ((8192 : Int).tdiv (p_1.length : Int))) * (p_1.length : Int))) = 0)) (some (p_1.length : Int)) (some (w64 ((w64 ((8192 : Int).tdiv (p_1.length : Int))) * (p_1.length : Int))))) (some (w64 (x_7.2.toNat : Int)))) (fun t_14 => mks (w64 (x_7.2.toNat : Int)) (0 : UInt8) fun nz_20 => slc nz_20 0 (w64 (x_7.2.toNat : Int)) fun m_29 => cpyO m_29 0 (m_29.length : Int) p_1 fun m_32 => Option.bind (loop (bytes_Repeat_l1 x_7 t_14) (m_32,min (p_1.length : Int) ((m_29.length : Int) - 0))) (fun t_36 => some t_36)))))))

def space_New : Option (List UInt8) :=
  Option.bind (bytes_Repeat ([(1 : UInt8)]) 12) fun x_5 => mks 244 (0 : UInt8) fun z_12 => app x_5 z_12 fun q_13 => some q_13

def store_New : Option Store :=
  Option.bind (dev_New) fun x_2 => Option.bind (space_New) fun x_7 => some (Store.mk (Disk.mk x_2.Blocks x_2.Waits) x_7 (1 : UInt32) (0 : UInt32))

def dev_place (p_1 : Int) : Option Bool :=
  some (decide ((u64i p_1) < (256 : UInt64)))

def dev_Check_l2 (p_1 : Disk) (s_18 : Bool × Nat) : Option ((Bool × Nat) ⊕ Bool) :=
  cond (decide (((s_18.2 : Nat) : Int) < (p_1.Waits.length : Int))) (idx p_1.Waits ((s_18.2 : Nat) : Int) fun y_22 => cond s_18.1 (Option.bind (dev_place y_22.At) fun x_35 => cond x_35 (some (.inl (decide ((y_22.Data.length : Int) = 256),s_18.2 + 1))) (some (.inl (false,s_18.2 + 1)))) (some (.inl (false,s_18.2 + 1)))) (some (.inr s_18.1))

def dev_Check_l1 (p_1 : Disk) (s_12 : Bool × Nat) : Option ((Bool × Nat) ⊕ Bool) :=
  cond (decide (((s_12.2 : Nat) : Int) < (p_1.Blocks.length : Int))) (idx p_1.Blocks ((s_12.2 : Nat) : Int) fun y_16 => cond s_12.1 (some (.inl (decide ((y_16.length : Int) = 256),s_12.2 + 1))) (some (.inl (false,s_12.2 + 1)))) (some (.inr s_12.1))

def dev_Check (p_1 : Disk) : Option Int :=
  Option.bind (cond (decide ((p_1.Blocks.length : Int) = 256)) (some (decide ((p_1.Waits.length : Int) ≤ 4096))) (some false)) (fun t_5 => Option.bind (loop (dev_Check_l1 p_1) (t_5,0)) (fun t_9 => Option.bind (loop (dev_Check_l2 p_1) (t_9,0)) (fun t_15 => cond t_15 (some 0) (some 8))))

def slices_Max_byte_l1 (p_1 : List UInt8) (s_16 : UInt8 × Nat) : Option ((UInt8 × Nat) ⊕ UInt8) :=
  cond (decide (((s_16.2 : Nat) : Int) < (p_1.length : Int))) (idx p_1 ((s_16.2 : Nat) : Int) fun y_20 => some (.inl (maxB s_16.1 y_20,s_16.2 + 1))) (some (.inr s_16.1))

def slices_Max_byte (p_1 : List UInt8) : Option UInt8 :=
  cond (decide ((p_1.length : Int) < 1)) (none) (idx p_1 0 fun y_4 => Option.bind (loop (slices_Max_byte_l1 p_1) (y_4,1)) (fun t_13 => some t_13))

def unicode_utf8_RuneCount (p_0 : List UInt8) : Option Int:=none

def bytes_Index (p_0 : List UInt8) (p_1 : List UInt8) : Option Int:=none

def bytes_Count_l1 (p_3 : List UInt8) (s_22 : List UInt8 × Int) : Option ((List UInt8 × Int) ⊕ Int) :=
  Option.bind (bytes_Index s_22.1 p_3) fun x_26 => cond (decide (x_26 = (-1))) (some (.inr s_22.2)) (slc s_22.1 (w64 (x_26 + (p_3.length : Int))) (s_22.1.length : Int) fun m_30 => some (.inl (m_30,w64 (s_22.2 + 1))))

def bytes_Count (p_1 : List UInt8) (p_3 : List UInt8) : Option Int :=
  cond (decide ((p_3.length : Int) = 0)) (Option.bind (unicode_utf8_RuneCount p_1) fun x_6 => some (w64 (x_6 + 1))) (cond (decide ((p_3.length : Int) = 1)) (idx p_3 0 fun y_10 => some ((cntB p_1 y_10 : Nat) : Int)) (Option.bind (loop (bytes_Count_l1 p_3) (p_1,0)) (fun t_19 => some t_19)))

def space_Check (p_1 : List UInt8) : Option Int :=
  cond (!decide ((p_1.length : Int) = 256)) (some 8) (Option.bind (slices_Max_byte p_1) fun x_4 => cond (decide ((2 : UInt8) < x_4)) (some 8) (slc p_1 0 12 fun m_8 => Option.bind (bytes_Count m_8 ([(1 : UInt8)])) fun x_16 => cond (!decide (x_16 = 12)) (some 8) (some 0)))

def store_Check (p_1 : Store) : Option Int :=
  Option.bind (dev_Check (Disk.mk p_1.Disk.Blocks p_1.Disk.Waits)) fun x_6 => cond (!decide (x_6 = 0)) (some 8) (Option.bind (space_Check p_1.Space) fun x_10 => cond (!decide (x_10 = 0)) (some 8) (cond (decide (p_1.Epoch < (1 : UInt32))) (some 8) (cond (decide ((65535 : UInt32) < p_1.Epoch)) (some 8) (cond (decide ((65535 : UInt32) < p_1.Count)) (some 8) (some 0)))))

def code_sized (p_1 : Int) : Option Bool :=
  Option.bind (cond (decide (0 < p_1)) (some (decide (p_1 ≤ 4))) (some false)) (fun t_2 => some t_2)

def code_Put_l1 (p_2 : Int) (s_13 : Int × List UInt8) : Option ((Int × List UInt8) ⊕ (List UInt8)) :=
  cond (decide ((s_13.2.length : Int) < p_2)) (app s_13.2 ([u8i s_13.1]) fun q_19 => some (.inl (w64 (s_13.1.tdiv 256),q_19))) (some (.inr s_13.2))

def code_Put (p_1 : Int) (p_2 : Int) : Option (List UInt8 × Int) :=
  Option.bind (code_sized p_2) fun x_3 => cond (!x_3) (some (([] : List UInt8),2)) (cond (decide (p_1 < 0)) (some (([] : List UInt8),2)) (chk (0 ≤ (w64 (8 * p_2))) <| cond (decide ((sli 1 (w64 (8 * p_2))) ≤ p_1)) (some (([] : List UInt8),2)) (Option.bind (loop (code_Put_l1 p_2) (p_1,([] : List UInt8))) (fun t_10 => some (t_10,0)))))

def cipher_pieces (p_1 : List UInt8) (p_3 : UInt32) : Option (List UInt8 × List UInt8) :=
  Option.bind (code_Put (p_3.toNat : Int) 4) fun x_5 => some (p_1,x_5.1)

def slices_Grow_byte (p_1 : Int) : Option (List UInt8) :=
  cond (decide (p_1 < 0)) (none) (Option.bind (cond (decide (0 < (w64 (p_1 - 0)))) (mks (w64 (p_1 - 0)) (0 : UInt8) fun q_9 => slc q_9 0 0 fun m_13 => some m_13) (some ([] : List UInt8))) (fun t_3 => some t_3))

def slices_Concat_byte_l2 (p_1 : List (List UInt8)) (s_16 : List UInt8 × Nat) : Option ((List UInt8 × Nat) ⊕ (List UInt8)) :=
  cond (decide (((s_16.2 : Nat) : Int) < (p_1.length : Int))) (idx p_1 ((s_16.2 : Nat) : Int) fun y_21 => app s_16.1 y_21 fun q_32 => some (.inl (q_32,s_16.2 + 1))) (some (.inr s_16.1))

def slices_Concat_byte_l1 (p_1 : List (List UInt8)) (s_6 : Int × Nat) : Option ((Int × Nat) ⊕ Int) :=
  cond (decide (((s_6.2 : Nat) : Int) < (p_1.length : Int))) (idx p_1 ((s_6.2 : Nat) : Int) fun y_10 => cond (decide ((w64 (s_6.1 + (y_10.length : Int))) < 0)) (none) (some (.inl (w64 (s_6.1 + (y_10.length : Int)),s_6.2 + 1)))) (some (.inr s_6.1))

def slices_Concat_byte (p_1 : List (List UInt8)) : Option (List UInt8) :=
  Option.bind (loop (slices_Concat_byte_l1 p_1) (0,0)) (fun t_3 => Option.bind (slices_Grow_byte t_3) fun x_9 => Option.bind (loop (slices_Concat_byte_l2 p_1) (x_9,0)) (fun t_13 => some t_13))

def slices_Clone_byte (p_1 : List UInt8) : Option (List UInt8):=app [] p_1 fun q => some q

def slices_Clip_byte (p_1 : List UInt8) : Option (List UInt8) :=
  slc p_1 0 (p_1.length : Int) fun m_3 => some m_3

def slices_Chunk_byte (p_1 : List UInt8) (p_2 : Int) : Option Unit:=if 1 ≤ p_2 ∧ p_2 ≤ 1099511627776 ∧ p_1.length ≤ LIM then some () else none

def slices_Backward_byte (p_1 : List UInt8) : Option Unit:=some ()

def code_Get_r1 (y_28 : Nat × UInt8) (s_27 : Int) : Option (Int ⊕ Unit) :=
  some (.inl (w64 ((w64 (256 * s_27)) + (y_28.2.toNat : Int))))

def code_Get (p_1 : List UInt8) (p_3 : Int) (p_4 : Int) : Option (Int × Int) :=
  Option.bind (code_sized p_4) fun x_5 => Option.bind (cond (!x_5) (some true) (cond (decide (p_3 < 0)) (some true) (some (decide ((p_1.length : Int) < p_3))))) (fun t_8 => cond t_8 (some (0,2)) (cond (decide ((p_1.length : Int) < (w64 (p_3 + p_4)))) (some (0,8)) (slc p_1 p_3 (w64 (p_3 + p_4)) fun m_16 => Option.bind (slices_Backward_byte m_16) fun x_20 => Option.bind (forL code_Get_r1 (bwd m_16 m_16.length) 0) (fun t_24 => Sum.elim (fun s_27 => some (s_27,0)) (fun _ => none) t_24))))

def mix_number (p_1 : List UInt8) : Option UInt32 :=
  Option.bind (code_Get p_1 0 4) fun x_3 => some (u32i x_3.1)

def math_bits_RotateLeft32 (p_1 : UInt32) (p_2 : Int) : Option UInt32 :=
  some ((sl32 p_1 ((((u64i p_2) &&& (31 : UInt64)).toNat : Int)).toNat) ||| (sr32 p_1 ((((32 : UInt64) - ((u64i p_2) &&& (31 : UInt64))).toNat : Int)).toNat))

def mix_words_turned_1 (p_1 : Int) (p_2 : Int) (p_4 : A4 UInt32) : Option (A4 UInt32) :=
  Option.bind (math_bits_RotateLeft32 (p_4.e3 ^^^ (p_4.e0 + p_4.e1)) p_1) fun x_5 => Option.bind (math_bits_RotateLeft32 (p_4.e1 ^^^ (p_4.e2 + x_5)) p_2) fun x_8 => some (A4.mk (p_4.e0 + p_4.e1) x_8 (p_4.e2 + x_5) x_5)

def mix_words_turned (p_1 : A4 UInt32) : Option (A4 UInt32) :=
  Option.bind (mix_words_turned_1 15 11 p_1) fun x_4 => Option.bind (mix_words_turned_1 9 6 x_4) fun x_7 => some x_7

def mix_words_often_l1 (p_2 : Int) (s_8 : UInt32 × UInt32 × UInt32 × UInt32 × Int) : Option ((UInt32 × UInt32 × UInt32 × UInt32 × Int) ⊕ (UInt32 × UInt32 × UInt32 × UInt32)) :=
  cond (decide (s_8.2.2.2.2 < p_2)) (Option.bind (mix_words_turned (A4.mk s_8.1 s_8.2.1 s_8.2.2.1 s_8.2.2.2.1)) fun x_12 => some (.inl (x_12.e0,x_12.e1,x_12.e2,x_12.e3,w64 (s_8.2.2.2.2 + 1)))) (some (.inr (s_8.1,s_8.2.1,s_8.2.2.1,s_8.2.2.2.1)))

def mix_words_often (p_1 : A4 UInt32) (p_2 : Int) : Option (A4 UInt32) :=
  Option.bind (loop (mix_words_often_l1 p_2) (p_1.e0,p_1.e1,p_1.e2,p_1.e3,0)) (fun t_5 => some (A4.mk t_5.1 t_5.2.1 t_5.2.2.1 t_5.2.2.2))

def mix_four_r2 (y_36 : List UInt8) (s_35 : UInt32 × UInt32 × UInt32 × UInt32) : Option ((UInt32 × UInt32 × UInt32 × UInt32) ⊕ Unit) :=
  Option.bind (slc y_36 0 4 fun m_45 => Option.bind (mix_number m_45) fun x_49 => some (s_35.1 ^^^ x_49)) (fun t_42 => slc y_36 4 (y_36.length : Int) fun m_56 => Option.bind (mix_number m_56) fun x_60 => Option.bind (mix_words_often (A4.mk t_42 s_35.2.1 (s_35.2.2.1 ^^^ x_60) s_35.2.2.2) 4) fun x_63 => some (.inl (x_63.e0,x_63.e1,x_63.e2,x_63.e3)))

def mix_four_l1 (s_22 : List UInt8) : Option ((List UInt8) ⊕ (List UInt8)) :=
  cond (!decide (((s_22.length : Int).tmod 8) = 0)) (app s_22 ([(0 : UInt8)]) fun q_28 => some (.inl q_28)) (some (.inr s_22))

def mix_four (p_1 : List UInt8) : Option (A4 UInt32) :=
  Option.bind (slices_Clone_byte p_1) fun x_5 => Option.bind (slices_Clip_byte x_5) fun x_10 => app x_10 ([(1 : UInt8)]) fun q_15 => Option.bind (loop mix_four_l1 q_15) (fun t_19 => Option.bind (slices_Chunk_byte t_19 8) fun x_28 => Option.bind (forL mix_four_r2 (chunks (8 : Int).toNat t_19.length t_19) ((1 : UInt32),(2 : UInt32),(3 : UInt32),(4 : UInt32))) (fun t_32 => Sum.elim (fun s_35 => Option.bind (mix_words_often (A4.mk s_35.1 (s_35.2.1 ^^^ (u32i (p_1.length : Int))) s_35.2.2.1 s_35.2.2.2) 8) fun x_42 => some x_42) (fun _ => none) t_32))

def mix_Key_l1 (x_3 : A4 UInt32) (s_9 : List UInt8 × Nat) : Option ((List UInt8 × Nat) ⊕ (List UInt8)) :=
  cond (decide (((s_9.2 : Nat) : Int) < 4)) (idx x_3.l ((s_9.2 : Nat) : Int) fun y_14 => Option.bind (code_Put (y_14.toNat : Int) 4) fun x_16 => app s_9.1 x_16.1 fun q_20 => some (.inl (q_20,s_9.2 + 1))) (some (.inr s_9.1))

def mix_Key (p_1 : List UInt8) : Option (List UInt8) :=
  Option.bind (mix_four p_1) fun x_3 => Option.bind (loop (mix_Key_l1 x_3) (([] : List UInt8),0)) (fun t_6 => some t_6)

def cipher_pieces_1_l1 {σ τ : Type} (p_1 : (List UInt8) → σ → Option (σ ⊕ τ)) (p_4 : List UInt8) (p_7 : List UInt8) (s_12 : σ × Int) : Option ((σ × Int) ⊕ τ) :=
  Option.bind (code_Put s_12.2 4) fun x_18 => Option.bind (slices_Concat_byte ([p_4,p_7,x_18.1])) fun x_27 => Option.bind (mix_Key x_27) fun x_35 => Option.bind (p_1 x_35 s_12.1) fun out_41 => Sum.elim (fun s_43 => some (.inl (s_43,w64 (s_12.2 + 1)))) (fun t_44 => some (.inr t_44)) out_41

def cipher_pieces_1 {σ τ : Type} (p_1 : (List UInt8) → σ → Option (σ ⊕ τ)) (p_2 : σ) (p_4 : List UInt8) (p_7 : List UInt8) : Option (σ ⊕ τ) :=
  Option.bind (loop (cipher_pieces_1_l1 p_1 p_4 p_7) (p_2,0)) (fun t_9 => some (.inr (t_9)))

def cipher_Stream_r1 (p_4 : Int) (y_25 : List UInt8) (s_24 : List UInt8) : Option ((List UInt8) ⊕ (List UInt8)) :=
  cond (decide (p_4 ≤ (s_24.length : Int))) (some (.inr s_24)) (app s_24 y_25 fun q_37 => some (.inl q_37))

def cipher_Stream (p_1 : List UInt8) (p_3 : UInt32) (p_4 : Int) : Option (List UInt8 × Int) :=
  cond (!decide ((p_1.length : Int) = 16)) (some (([] : List UInt8),2)) (cond (decide (p_4 < 0)) (some (([] : List UInt8),2)) (cond (decide (4096 < p_4)) (some (([] : List UInt8),2)) (Option.bind (cipher_pieces p_1 p_3) fun x_10 => Option.bind (Option.bind (cipher_pieces_1 (cipher_Stream_r1 p_4) ([] : List UInt8) x_10.1 x_10.2) (fun t_21 => Sum.elim (fun s_24 => some s_24) (fun t_21e0 => some t_21e0) t_21)) (fun t_17 => slc t_17 0 p_4 fun m_45 => Option.bind (slices_Clone_byte m_45) fun x_49 => some (x_49,0)))))

def cipher_Turn_l1 (p_4 : List UInt8) (s_15 : List UInt8 × Nat) : Option ((List UInt8 × Nat) ⊕ (List UInt8)) :=
  cond (decide (((s_15.2 : Nat) : Int) < (p_4.length : Int))) (idx p_4 ((s_15.2 : Nat) : Int) fun y_20 => idx s_15.1 ((s_15.2 : Nat) : Int) fun y_29 => chk (0 ≤ ((s_15.2 : Nat) : Int) ∧ ((s_15.2 : Nat) : Int).toNat < s_15.1.length) <| setI s_15.1 ((s_15.2 : Nat) : Int) (y_29 ^^^ y_20) fun m_44 => some (.inl (m_44,s_15.2 + 1))) (some (.inr s_15.1))

def cipher_Turn (p_1 : List UInt8) (p_3 : UInt32) (p_4 : List UInt8) : Option (List UInt8 × Int) :=
  cond (!decide ((p_1.length : Int) = 16)) (some (([] : List UInt8),2)) (cond (decide (4096 < (p_4.length : Int))) (some (([] : List UInt8),3)) (Option.bind (cipher_Stream p_1 p_3 (p_4.length : Int)) fun x_8 => Option.bind (loop (cipher_Turn_l1 p_4) (x_8.1,0)) (fun t_12 => some (t_12,x_8.2))))

def seal_turned (p_1 : List UInt8) (p_3 : UInt32) (p_4 : List UInt8) : Option (List UInt8 × Int) :=
  Option.bind (cond (decide ((p_1.length : Int) = 16)) (cond (decide (256 < (p_4.length : Int))) (some (.inr ())) (some (.inl ()))) (some (.inl ()))) (fun t_6 => Sum.elim (fun t_6a => Option.bind (cipher_Turn p_1 p_3 p_4) fun x_11 => some (x_11.1,x_11.2)) (fun t_6b => some (([] : List UInt8),3)) t_6)

def mac_inner (p_1 : List (List UInt8)) : Option (List UInt8) :=
  Option.bind (slices_Concat_byte p_1) fun x_3 => Option.bind (mix_Key x_3) fun x_10 => some x_10

def mix_Sum (p_1 : List UInt8) : Option UInt32 :=
  Option.bind (mix_four p_1) fun x_3 => some x_3.e0

def mac_Tag (p_1 : List UInt8) (p_3 : List UInt8) : Option (UInt32 × Int) :=
  cond (!decide ((p_1.length : Int) = 16)) (some ((0 : UInt32),2)) (Option.bind (mac_inner ([p_1,[(1 : UInt8)],p_3])) fun x_13 => Option.bind (slices_Concat_byte ([p_1,[(2 : UInt8)],x_13])) fun x_24 => Option.bind (mix_Sum x_24) fun x_32 => some (x_32,0))

def seal_tagged (p_1 : List UInt8) (p_3 : UInt32) (p_4 : List UInt8) : Option (UInt32 × Int) :=
  Option.bind (code_Put (p_3.toNat : Int) 4) fun x_6 => cond (!decide (x_6.2 = 0)) (some ((0 : UInt32),x_6.2)) (Option.bind (slices_Concat_byte ([x_6.1,p_4])) fun x_16 => Option.bind (mac_Tag p_1 x_16) fun x_24 => some (x_24.1,x_24.2))

def bytes_Clone (p_1 : List UInt8) : Option (List UInt8):=app [] p_1 fun q => some q

def dev_Twin_l3 (p_1 : Disk) (s_30 : List Write × Nat) : Option ((List Write × Nat) ⊕ (List Write)) :=
  cond (decide (((s_30.2 : Nat) : Int) < (p_1.Waits.length : Int))) (idx p_1.Waits ((s_30.2 : Nat) : Int) fun y_36 => Option.bind (bytes_Clone y_36.Data) fun x_48 => app s_30.1 ([Write.mk y_36.At x_48]) fun q_54 => some (.inl (q_54,s_30.2 + 1))) (some (.inr s_30.1))

def dev_Twin_l2 (p_1 : Disk) (s_22 : List (List UInt8) × Nat) : Option ((List (List UInt8) × Nat) ⊕ (List (List UInt8))) :=
  cond (decide (((s_22.2 : Nat) : Int) < (p_1.Blocks.length : Int))) (idx p_1.Blocks ((s_22.2 : Nat) : Int) fun y_27 => idx s_22.1 ((s_22.2 : Nat) : Int) fun y_38 => chk (y_27.length = y_38.length) <| setI s_22.1 ((s_22.2 : Nat) : Int) y_27 fun m_51 => some (.inl (m_51,s_22.2 + 1))) (some (.inr s_22.1))

def dev_Twin_l1 (p_1 : Disk) (s_9 : List Int × Nat) : Option ((List Int × Nat) ⊕ (List Int)) :=
  cond (decide (((s_9.2 : Nat) : Int) < (p_1.Blocks.length : Int))) (idx p_1.Blocks ((s_9.2 : Nat) : Int) fun y_14 => app s_9.1 ([(y_14.length : Int)]) fun q_26 => some (.inl (q_26,s_9.2 + 1))) (some (.inr s_9.1))

def dev_Twin (p_1 : Disk) : Option Disk :=
  Option.bind (loop (dev_Twin_l1 p_1) (([] : List Int),0)) (fun t_6 => Option.bind (dev_cut t_6) fun x_15 => Option.bind (loop (dev_Twin_l2 p_1) (x_15,0)) (fun t_19 => Option.bind (loop (dev_Twin_l3 p_1) (([] : List Write),0)) (fun t_27 => some (Disk.mk t_19 t_27))))

def ptr_Check (p_1 : Ptr) : Option Int :=
  cond (decide (p_1.At = 0) && (decide (p_1.Birth = (0 : UInt32)) && (decide (p_1.Iv = (0 : UInt32)) && (decide (p_1.Tag = (0 : UInt32)) && (decide (p_1.Sum = (0 : UInt32)) && true))))) (some 0) (cond (decide (p_1.At < 12)) (some 8) (cond (decide (256 ≤ p_1.At)) (some 8) (cond (decide (p_1.Birth < (1 : UInt32))) (some 8) (cond (decide ((16777215 : UInt32) < p_1.Birth)) (some 8) (some 0)))))

def slices_Clone_byte_L (p_1 : List (List UInt8)) : Option (List (List UInt8)):=app [] p_1 fun q => some q

def dev_all (p_1 : Int) : Option Bool :=
  some true

def dev_lasts_l1 (p_1 : Disk) (s_9 : (List (Int × Write)) × Nat) : Option (((List (Int × Write)) × Nat) ⊕ (List (Int × Write))) :=
  cond (decide (((s_9.2 : Nat) : Int) < (p_1.Waits.length : Int))) (idx p_1.Waits ((s_9.2 : Nat) : Int) fun y_14 => Option.bind (dev_all ((s_9.2 : Nat) : Int)) fun x_26 => cond x_26 (some (.inl ((putM s_9.1 y_14.At y_14),s_9.2 + 1))) (some (.inl (s_9.1,s_9.2 + 1)))) (some (.inr s_9.1))

def dev_lasts (p_1 : Disk) : Option (List (Int × Write)) :=
  Option.bind (loop (dev_lasts_l1 p_1) (([] : List (Int × Write)),0)) (fun t_6 => some t_6)

def dev_left (p_1 : Disk) : Option Disk :=
  Option.bind (Option.bind (slices_Clone_byte_L p_1.Blocks) fun x_9 => some x_9) (fun t_6 => Option.bind (dev_lasts (Disk.mk t_6 p_1.Waits)) fun x_22 => layR (fun y : Write => y.Data) t_6 x_22 fun m_30 => Option.bind (dev_Twin (Disk.mk m_30 ([] : List Write))) fun x_50 => some x_50)

def dev_Read_1 (p_2 : Disk) : Option (Disk × Disk) :=
  Option.bind (dev_left p_2) fun x_6 => some (x_6,p_2)

def dev_guarded_v2 (p_1 : Disk) (p_4 : Bool) (p_6 : Disk) : Option (Disk × Int × Disk) :=
  Option.bind (dev_Check p_1) fun x_11 => cond (!decide (x_11 = 0)) (some (Disk.mk ([] : List (List UInt8)) ([] : List Write),x_11,p_6)) (cond (!p_4) (some (Disk.mk ([] : List (List UInt8)) ([] : List Write),2,p_6)) (Option.bind (dev_Read_1 p_6) fun x_16 => some (x_16.1,0,x_16.2)))

def dev_Read (p_1 : Disk) (p_4 : Int) : Option (List UInt8 × Int) :=
  Option.bind (Option.bind (dev_place p_4) fun x_9 => Option.bind (dev_guarded_v2 p_1 x_9 p_1) fun x_12 => some (x_12.1.Blocks,x_12.1.Waits,x_12.2.1)) (fun t_6 => cond (!decide (t_6.2.2 = 0)) (some (([] : List UInt8),t_6.2.2)) (idx t_6.1 p_4 fun y_25 => some (y_25,0)))

def store_Look (p_1 : Store) (p_5 : Ptr) : Option (List UInt8 × Int) :=
  Option.bind (store_Check p_1) fun x_8 => cond (!decide (x_8 = 0)) (some (([] : List UInt8),8)) (Option.bind (ptr_Check p_5) fun x_12 => cond (!decide (x_12 = 0)) (some (([] : List UInt8),8)) (cond (decide (p_5.At = 0) && (decide (p_5.Birth = (0 : UInt32)) && (decide (p_5.Iv = (0 : UInt32)) && (decide (p_5.Tag = (0 : UInt32)) && (decide (p_5.Sum = (0 : UInt32)) && true))))) (some (([] : List UInt8),6)) (Option.bind (dev_Read (Disk.mk p_1.Disk.Blocks p_1.Disk.Waits) p_5.At) fun x_17 => Option.bind (cond (decide (x_17.2 = 0)) (Option.bind (mix_Sum x_17.1) fun x_25 => cond (!decide (x_25 = p_5.Sum)) (some (([] : List UInt8),130)) (some (x_17.1,x_17.2))) (some (x_17.1,x_17.2))) (fun t_21 => some (t_21.1,t_21.2)))))

def seal_Open (p_1 : List UInt8) (p_3 : UInt32) (p_4 : List UInt8) (p_6 : UInt32) : Option (List UInt8 × Int) :=
  Option.bind (seal_turned p_1 p_3 p_4) fun x_7 => cond (!decide (x_7.2 = 0)) (some (([] : List UInt8),x_7.2)) (Option.bind (seal_tagged p_1 p_3 p_4) fun x_12 => cond (!decide (x_12.2 = 0)) (some (([] : List UInt8),131)) (cond (!decide (x_12.1 = p_6)) (some (([] : List UInt8),131)) (some (x_7.1,0))))

def store_Open (p_1 : Store) (p_5 : Ptr) (p_6 : List UInt8) : Option (List UInt8 × Int) :=
  Option.bind (store_Look p_1 p_5) fun x_10 => cond (!decide (x_10.2 = 0)) (some (([] : List UInt8),x_10.2)) (cond (!decide ((p_6.length : Int) = 16)) (some (([] : List UInt8),3)) (Option.bind (seal_Open p_6 p_5.Iv x_10.1 p_5.Tag) fun x_16 => cond (!decide (x_16.2 = 0)) (some (([] : List UInt8),131)) (some (x_16.1,0))))

def ref09_Great_l2 (p_1 : Disk) (s_22 : Int × Nat) : Option ((Int × Nat) ⊕ Int) :=
  cond (decide (((s_22.2 : Nat) : Int) < (p_1.Waits.length : Int))) (cond (decide (s_22.1 < 2000000)) (idx p_1.Waits ((s_22.2 : Nat) : Int) fun y_27 => some (.inl (w64 (s_22.1 + (y_27.Data.length : Int)),s_22.2 + 1))) (some (.inr s_22.1))) (some (.inr s_22.1))

def ref09_Great_l1 (p_1 : Disk) (s_16 : Int × Nat) : Option ((Int × Nat) ⊕ Int) :=
  cond (decide (((s_16.2 : Nat) : Int) < (p_1.Blocks.length : Int))) (cond (decide (s_16.1 < 2000000)) (idx p_1.Blocks ((s_16.2 : Nat) : Int) fun y_21 => some (.inl (w64 (s_16.1 + (y_21.length : Int)),s_16.2 + 1))) (some (.inr s_16.1))) (some (.inr s_16.1))

def ref09_Great (p_1 : Disk) : Option Bool :=
  Option.bind (cond (decide (500 < (p_1.Blocks.length : Int))) (some (.inr ())) (cond (decide (500 < (p_1.Waits.length : Int))) (cond (decide ((p_1.Waits.length : Int) < 4096)) (some (.inr ())) (cond (decide (4106 < (p_1.Waits.length : Int))) (some (.inr ())) (some (.inl ())))) (cond (decide (4106 < (p_1.Waits.length : Int))) (some (.inr ())) (some (.inl ()))))) (fun t_5 => Sum.elim (fun t_5a => Option.bind (loop (ref09_Great_l1 p_1) (0,0)) (fun t_13 => Option.bind (loop (ref09_Great_l2 p_1) (t_13,0)) (fun t_19 => some (decide (2000000 ≤ t_19))))) (fun t_5b => some true) t_5)

def ref13_Great (p_1 : Store) : Option Bool :=
  Option.bind (Option.bind (ref09_Great (Disk.mk p_1.Disk.Blocks p_1.Disk.Waits)) fun x_9 => cond x_9 (some true) (some (decide (10000 < (p_1.Space.length : Int))))) (fun t_6 => some t_6)

end Go.Ow

/- that new memory's bytes do not matter to bytes.Repeat. -/
namespace Go.Ow
set_option linter.unusedVariables false
set_option linter.unusedSimpArgs false

theorem take_cpy {α : Type} {l m : List α} {a : Nat} (h : a ≤ l.length) : (cpy l a m).take (a + m.length) = l.take a ++ m:=by
  unfold cpy
  rw [List.take_left' (by rw [List.length_append,List.length_take]; omega)]
theorem len_cpy {α : Type} {l m : List α} {a : Nat} (h : a + m.length ≤ l.length) : (cpy l a m).length = l.length:=by
  unfold cpy; rw [List.length_append,List.length_append,List.length_take,List.length_drop]; omega
theorem run_go {σ τ : Type} {body : σ → Option (σ ⊕ τ)} {n : Nat} {s s' : σ} (h : body s = some (.inl s')) : run body (n + 1) s = run body n s':=by
  show Option.bind (body s) _ = _
  rw [h]; rfl
theorem rep_loop {x : UInt64 × UInt64} {t : Int} {n : Nat} (hn : n ≤ LIM) (hN : w64 (x.2.toNat : Int) = (n : Int)) (f : Nat) : ∀ (A B : List UInt8) (k : Int) (r : List UInt8),
    A.length = n → B.length = n → 0 ≤ k → k ≤ (n : Int) → A.take k.toNat = B.take k.toNat → run (bytes_Repeat_l1 x t) f (A,k) = some r → run (bytes_Repeat_l1 x t) f (B,k) = some r:=by
  induction f with
  | zero => intro A B k r _ _ _ _ _ h; cases h
  | succ f ih =>
    intro A B k r hA hB h0 hk he h
    obtain ⟨o,ho,hd⟩:=Zd h
    rw [bytes_Repeat_l1.eq_1] at ho
    dsimp only at ho
    rw [hN] at ho
    by_cases hc : k < (n : Int)
    · rw [decide_eq_true hc,cond_true] at ho
      obtain ⟨h1,ho⟩:=chk_some ho
      obtain ⟨h2,ho⟩:=chk_some ho
      obtain ⟨A',hA',h3,ho⟩:=cpyO_some ho
      have hcA : cut A (0 : Int) (min k t) = A.take (min k t).toNat:=by simp [cut]
      have hcB : cut B (0 : Int) (min k t) = B.take (min k t).toNat:=by simp [cut]
      have hcc : B.take (min k t).toNat = A.take (min k t).toNat:=by
        have e1 : (A.take k.toNat).take (min k t).toNat = (B.take k.toNat).take (min k t).toNat:=by rw [he]
        rw [List.take_take,List.take_take,Nat.min_eq_left (by omega)] at e1
        exact e1.symm
      have hml : (A.take (min k t).toNat).length = (min k t).toNat:=by rw [List.length_take]; omega
      rw [hcA,hml] at ho
      rw [hcA] at hA'
      obtain ⟨m,hm⟩ : ∃ m,m = (A.take (min k t).toNat).take ((A.length : Int).toNat - k.toNat):=⟨_,rfl⟩
      rw [← hm] at hA'
      have hmlen : (m.length : Int) = min ((min k t).toNat : Int) ((A.length : Int) - k):=by rw [hm,List.length_take,hml]; omega
      rw [← hmlen] at ho
      have hw : w64 (k + (m.length : Int)) = k + (m.length : Int):=Zq (by omega) (by have : LIM = 1099511627776:=rfl; omega)
      rw [hw] at ho
      have hrun:=ZX hd ho
      obtain ⟨B',hB'⟩ : ∃ B',B' = cpy B k.toNat m:=⟨_,rfl⟩
      have hbody : bytes_Repeat_l1 x t (B,k) = some (.inl (B',k + (m.length : Int))):=by
        rw [bytes_Repeat_l1.eq_1]
        dsimp only
        rw [hN,decide_eq_true hc,cond_true,hcB,hcc,hml]
        unfold chk cpyO
        rw [if_pos (by omega),if_pos (by omega),if_pos (by omega)]
        rw [show (A.take (min k t).toNat).take ((B.length : Int).toNat - k.toNat) = m by rw [hm,hA,hB],← hB',hB,← hA,← hmlen,hw]
      rw [run_go hbody]
      have hkl : k.toNat + m.length ≤ n:=by omega
      refine ih A' B' _ r (by rw [hA',len_cpy (by omega),hA]) (by rw [hB',len_cpy (by omega),hB]) (by omega) (by omega) ?_ hrun
      rw [show (k + (m.length : Int)).toNat = k.toNat + m.length by omega,hA',hB',take_cpy (by omega),take_cpy (by omega),he]
    · rw [decide_eq_false hc,cond_false] at ho
      have hr:=Za hd ho
      have : A = B:=by
        rw [List.take_of_length_le (by omega),List.take_of_length_le (by omega)] at he; exact he
      rw [← this]; exact h
theorem bytes_Repeat_any {x_7 : UInt64 × UInt64} {t_14 : Int} {p_1 : List UInt8} {r : List UInt8} {nz0 nz : List UInt8} {n : Nat}
    (hm : nz0 = List.replicate (w64 (x_7.2.toNat : Int)).toNat (0 : UInt8)) (hnn : w64 (x_7.2.toNat : Int) = (n : Int)) (hL : nz.length = n)
    (hx : (slc nz0 0 (w64 (x_7.2.toNat : Int)) fun m_29 => cpyO m_29 0 (m_29.length : Int) p_1 fun m_32 => Option.bind (loop (bytes_Repeat_l1 x_7 t_14) (m_32,min (p_1.length : Int) ((m_29.length : Int) - 0))) (fun t_36 => some t_36)) = some r) (hlim : n ≤ LIM) :
    (slc nz 0 (w64 (x_7.2.toNat : Int)) fun m_29 => cpyO m_29 0 (m_29.length : Int) p_1 fun m_32 => Option.bind (loop (bytes_Repeat_l1 x_7 t_14) (m_32,min (p_1.length : Int) ((m_29.length : Int) - 0))) (fun t_36 => some t_36)) = some r:=by
  have hl0 : nz0.length = n:=by rw [hm,hnn,List.length_replicate]; omega
  have hcut : ∀ l : List UInt8,l.length = n → cut l 0 (n : Int) = l:=fun l hl => by simp [cut,List.take_of_length_le (Nat.le_of_eq hl)]
  rw [hnn] at hx ⊢
  unfold slc at hx ⊢
  rw [if_pos (by omega),hcut _ hl0] at hx
  rw [if_pos (by omega),hcut _ hL]
  dsimp only at hx ⊢
  unfold cpyO at hx ⊢
  rw [if_pos (by omega)] at hx
  rw [if_pos (by omega)]
  rw [hl0] at hx; rw [hL]
  obtain ⟨m,hmm⟩ : ∃ m,m = p_1.take ((n : Int).toNat - (0 : Int).toNat):=⟨_,rfl⟩
  rw [← hmm] at hx ⊢
  have hml : min (p_1.length : Int) ((n : Int) - 0) = (m.length : Int):=by rw [hmm,List.length_take]; omega
  rw [hml] at hx ⊢
  obtain ⟨t,ht,h⟩:=Option.bind_eq_some_iff.1 hx
  have hmn : m.length ≤ n:=by omega
  have:=rep_loop hlim hnn FUEL (cpy nz0 (0 : Int).toNat m) (cpy nz (0 : Int).toNat m) (m.length : Int) t
    (by rw [len_cpy (by simp only [Int.toNat_zero]; omega),hl0]) (by rw [len_cpy (by simp only [Int.toNat_zero]; omega),hL]) (by omega) (by omega)
    (by
      have e1:=take_cpy (l:=nz0) (m:=m) (a:=(0 : Int).toNat) (by simp)
      have e2:=take_cpy (l:=nz) (m:=m) (a:=(0 : Int).toNat) (by simp)
      simp only [Int.toNat_zero,Nat.zero_add,List.take_zero,List.nil_append] at e1 e2
      rw [Int.toNat_natCast]; simp only [Int.toNat_zero]; rw [e1,e2]) ht
  show Option.bind (loop (bytes_Repeat_l1 x_7 t_14) (cpy nz (0 : Int).toNat m,(m.length : Int))) (fun t_36 => some t_36) = some r
  rw [show loop (bytes_Repeat_l1 x_7 t_14) (cpy nz (0 : Int).toNat m,(m.length : Int)) = some t from this]
  exact h
end Go.Ow

/- plain functions: what the code computes. -/
namespace Go.Ow
set_option linter.unusedVariables false
set_option linter.unusedSimpArgs false

def space_Give (p_1 : List UInt8) (p_3 : Int) : Option (List UInt8 × Int) :=
  Option.bind (space_Check p_1) fun x_4 => cond (!decide (x_4 = 0)) (some (([] : List UInt8),8)) (cond (decide (p_3 < 12)) (some (([] : List UInt8),2)) (cond (decide (256 ≤ p_3)) (some (([] : List UInt8),2)) (idx p_1 p_3 fun y_10 => cond (!decide (y_10 = (1 : UInt8))) (some (([] : List UInt8),6)) (Option.bind (bytes_Clone p_1) fun x_20 => chk (0 ≤ p_3 ∧ p_3.toNat < x_20.length) <| setI x_20 p_3 (2 : UInt8) fun m_28 => some (m_28,0)))))

def store_Give (p_1 : Store) (p_5 : Ptr) : Option (Store × Int) :=
  Option.bind (store_Check p_1) fun x_9 => cond (!decide (x_9 = 0)) (some (Store.mk (Disk.mk ([] : List (List UInt8)) ([] : List Write)) ([] : List UInt8) (0 : UInt32) (0 : UInt32),8)) (Option.bind (ptr_Check p_5) fun x_13 => cond (!decide (x_13 = 0)) (some (Store.mk (Disk.mk ([] : List (List UInt8)) ([] : List Write)) ([] : List UInt8) (0 : UInt32) (0 : UInt32),8)) (cond (decide (p_5.At = 0) && (decide (p_5.Birth = (0 : UInt32)) && (decide (p_5.Iv = (0 : UInt32)) && (decide (p_5.Tag = (0 : UInt32)) && (decide (p_5.Sum = (0 : UInt32)) && true))))) (some (Store.mk (Disk.mk ([] : List (List UInt8)) ([] : List Write)) ([] : List UInt8) (0 : UInt32) (0 : UInt32),6)) (Option.bind (space_Give p_1.Space p_5.At) fun x_18 => cond (!decide (x_18.2 = 0)) (some (Store.mk (Disk.mk ([] : List (List UInt8)) ([] : List Write)) ([] : List UInt8) (0 : UInt32) (0 : UInt32),x_18.2)) (Option.bind (dev_Twin (Disk.mk p_1.Disk.Blocks p_1.Disk.Waits)) fun x_23 => some (Store.mk (Disk.mk x_23.Blocks x_23.Waits) x_18.1 p_1.Epoch p_1.Count,0)))))

def bytes_Compare (p_1 : List UInt8) (p_3 : List UInt8) : Option Int :=
  some (cmpB p_1 p_3)

def dev_Same_1 (p_1 : List UInt8) (p_3 : List UInt8) : Option Int :=
  Option.bind (bytes_Compare p_1 p_3) fun x_5 => some x_5

def dev_Same_2 (p_1 : Write) (p_3 : Write) : Option Bool :=
  Option.bind (cond (decide (p_1.At = p_3.At)) (Option.bind (dev_Same_1 p_1.Data p_3.Data) fun x_12 => some (decide (x_12 = 0))) (some false)) (fun t_8 => some t_8)

def slices_EqualFunc_Write_l1 (p_1 : List Write) (p_3 : List Write) (s_10 : Nat) : Option (Nat ⊕ (Unit ⊕ Unit)) :=
  cond (decide (((s_10 : Nat) : Int) < (p_1.length : Int))) (idx p_1 ((s_10 : Nat) : Int) fun y_14 => idx p_3 ((s_10 : Nat) : Int) fun y_26 => Option.bind (dev_Same_2 y_14 y_26) fun x_38 => cond (!x_38) (some (.inr (.inr ()))) (some (.inl (s_10 + 1)))) (some (.inr (.inl ())))

def slices_EqualFunc_Write (p_1 : List Write) (p_3 : List Write) : Option Bool :=
  cond (!decide ((p_1.length : Int) = (p_3.length : Int))) (some false) (Option.bind (loop (slices_EqualFunc_Write_l1 p_1 p_3) 0) (fun t_7 => Sum.elim (fun t_7a => some true) (fun t_7b => some false) t_7))

def slices_CompareFunc_byte_l1 (p_1 : List (List UInt8)) (p_3 : List (List UInt8)) (s_8 : Nat) : Option (Nat ⊕ (Unit ⊕ Int)) :=
  cond (decide (((s_8 : Nat) : Int) < (p_1.length : Int))) (idx p_1 ((s_8 : Nat) : Int) fun y_12 => cond (decide ((p_3.length : Int) ≤ ((s_8 : Nat) : Int))) (some (.inr (.inr 1))) (idx p_3 ((s_8 : Nat) : Int) fun y_24 => Option.bind (dev_Same_1 y_12 y_24) fun x_35 => cond (!decide (x_35 = 0)) (some (.inr (.inr x_35))) (some (.inl (s_8 + 1))))) (some (.inr (.inl ())))

def slices_CompareFunc_byte (p_1 : List (List UInt8)) (p_3 : List (List UInt8)) : Option Int :=
  Option.bind (loop (slices_CompareFunc_byte_l1 p_1 p_3) 0) (fun t_5 => Sum.elim (fun t_5a => cond (decide ((p_1.length : Int) < (p_3.length : Int))) (some (-1)) (some 0)) (fun t_5b => some t_5b) t_5)

def dev_Same (p_1 : Disk) (p_4 : Disk) : Option Bool :=
  Option.bind (slices_EqualFunc_Write p_1.Waits p_4.Waits) fun x_10 => Option.bind (cond x_10 (Option.bind (slices_CompareFunc_byte p_1.Blocks p_4.Blocks) fun x_17 => some (decide (x_17 = 0))) (some false)) (fun t_13 => some t_13)

end Go.Ow

/- plain functions: what the code computes. -/
namespace Go.Ow
set_option linter.unusedVariables false
set_option linter.unusedSimpArgs false

def store_Twin (p_1 : Store) : Option Store :=
  Option.bind (Option.bind (dev_Twin (Disk.mk p_1.Disk.Blocks p_1.Disk.Waits)) fun x_10 => Option.bind (bytes_Clone p_1.Space) fun x_15 => some (x_10.Blocks,x_10.Waits,x_15)) (fun t_7 => some (Store.mk (Disk.mk t_7.1 t_7.2.1) t_7.2.2 p_1.Epoch p_1.Count))

end Go.Ow

/- plain functions: what the code computes. -/
namespace Go.Ow
set_option linter.unusedVariables false
set_option linter.unusedSimpArgs false

def ref09_Twin_l2 (p_1 : Disk) (s_44 : List WriteO × Nat) : Option ((List WriteO × Nat) ⊕ (List WriteO)) :=
  cond (decide (((s_44.2 : Nat) : Int) < (p_1.Waits.length : Int))) (idx p_1.Waits ((s_44.2 : Nat) : Int) fun y_50 => idx s_44.1 ((s_44.2 : Nat) : Int) fun y_61 => setI s_44.1 ((s_44.2 : Nat) : Int) (WriteO.mk y_50.At y_61.Data) fun m_74 => idx p_1.Waits ((s_44.2 : Nat) : Int) fun y_78 => idx m_74 ((s_44.2 : Nat) : Int) fun y_89 => chkN y_89.Data <| app ([] : List UInt8) y_78.Data fun q_104 => idx m_74 ((s_44.2 : Nat) : Int) fun y_108 => setI m_74 ((s_44.2 : Nat) : Int) (WriteO.mk y_108.At (some q_104)) fun m_122 => some (.inl (m_122,s_44.2 + 1))) (some (.inr s_44.1))

def ref09_Twin_l1 (p_1 : Disk) (s_34 : List (Option (List UInt8)) × Nat) : Option ((List (Option (List UInt8)) × Nat) ⊕ (List (Option (List UInt8)))) :=
  cond (decide (((s_34.2 : Nat) : Int) < (p_1.Blocks.length : Int))) (idx p_1.Blocks ((s_34.2 : Nat) : Int) fun y_40 => idx s_34.1 ((s_34.2 : Nat) : Int) fun y_51 => chkN y_51 <| app ([] : List UInt8) y_40 fun q_66 => chk (0 ≤ ((s_34.2 : Nat) : Int) ∧ ((s_34.2 : Nat) : Int).toNat < s_34.1.length) <| setI s_34.1 ((s_34.2 : Nat) : Int) (some q_66) fun m_75 => some (.inl (m_75,s_34.2 + 1))) (some (.inr s_34.1))

def ref09_Twin (p_1 : Disk) : Option Disk :=
  Option.bind (mks (p_1.Blocks.length : Int) (none : Option (List UInt8)) fun x_11 => mks (p_1.Waits.length : Int) (WriteO.mk 0 (none : Option (List UInt8))) fun x_15 => some (x_11,x_15)) (fun t_6 => Option.bind (loop (ref09_Twin_l1 p_1) (t_6.1,0)) (fun t_31 => Option.bind (loop (ref09_Twin_l2 p_1) (t_6.2,0)) (fun t_41 => some (Disk.mk ((t_31).map (fun y => y.getD [])) ((t_41).map WriteO.w)))))

def ref13_Twin (p_1 : Store) : Option Store :=
  Option.bind (ref09_Twin (Disk.mk p_1.Disk.Blocks p_1.Disk.Waits)) fun x_7 => app ([] : List UInt8) p_1.Space fun q_13 => some (Store.mk (Disk.mk x_7.Blocks x_7.Waits) q_13 p_1.Epoch p_1.Count)

def ref09_place (p_1 : Int) : Option Bool :=
  Option.bind (cond (decide (0 ≤ p_1)) (some (decide (p_1 < 256))) (some false)) (fun t_2 => some t_2)

def ref09_May_l2 (p_1 : Disk) (s_14 : Int × Nat) : Option ((Int × Nat) ⊕ Int) :=
  cond (decide (((s_14.2 : Nat) : Int) < (p_1.Waits.length : Int))) (cond (decide (((s_14.2 : Nat) : Int) ≤ 4096)) (idx p_1.Waits ((s_14.2 : Nat) : Int) fun y_19 => cond (!decide ((y_19.Data.length : Int) = 256)) (some (.inl (w64 (s_14.1 + 1),s_14.2 + 1))) (idx p_1.Waits ((s_14.2 : Nat) : Int) fun y_31 => Option.bind (ref09_place y_31.At) fun x_42 => cond (!x_42) (some (.inl (w64 (s_14.1 + 1),s_14.2 + 1))) (some (.inl (s_14.1,s_14.2 + 1))))) (some (.inr s_14.1))) (some (.inr s_14.1))

def ref09_May_l1 (p_1 : Disk) (s_8 : Int × Nat) : Option ((Int × Nat) ⊕ Int) :=
  cond (decide (((s_8.2 : Nat) : Int) < (p_1.Blocks.length : Int))) (cond (decide (((s_8.2 : Nat) : Int) ≤ 256)) (idx p_1.Blocks ((s_8.2 : Nat) : Int) fun y_13 => cond (!decide ((y_13.length : Int) = 256)) (some (.inl (w64 (s_8.1 + 1),s_8.2 + 1))) (some (.inl (s_8.1,s_8.2 + 1)))) (some (.inr s_8.1))) (some (.inr s_8.1))

def ref09_May (p_1 : Disk) : Option Bool :=
  Option.bind (loop (ref09_May_l1 p_1) (0,0)) (fun t_5 => Option.bind (loop (ref09_May_l2 p_1) (t_5,0)) (fun t_11 => Option.bind (cond (decide (t_11 = 0)) (cond (decide ((p_1.Blocks.length : Int) = 256)) (some (decide ((p_1.Waits.length : Int) ≤ 4096))) (some false)) (some false)) (fun t_17 => some t_17)))

def ref12_May_l1 (p_1 : List UInt8) (s_7 : Nat) : Option (Nat ⊕ (Unit ⊕ Unit)) :=
  cond (decide (((s_7 : Nat) : Int) < 256)) (idx p_1 ((s_7 : Nat) : Int) fun y_11 => cond (decide ((2 : UInt8) < y_11)) (some (.inr (.inr ()))) (cond (decide (((s_7 : Nat) : Int) < 12)) (idx p_1 ((s_7 : Nat) : Int) fun y_22 => cond (!decide (y_22 = (1 : UInt8))) (some (.inr (.inr ()))) (some (.inl (s_7 + 1)))) (some (.inl (s_7 + 1))))) (some (.inr (.inl ())))

def ref12_May (p_1 : List UInt8) : Option Bool :=
  cond (!decide ((p_1.length : Int) = 256)) (some false) (Option.bind (loop (ref12_May_l1 p_1) 0) (fun t_4 => Sum.elim (fun t_4a => some true) (fun t_4b => some false) t_4))

def ref13_May (p_1 : Store) : Option Bool :=
  Option.bind (Option.bind (ref09_May (Disk.mk p_1.Disk.Blocks p_1.Disk.Waits)) fun x_9 => cond x_9 (Option.bind (ref12_May p_1.Space) fun x_13 => cond x_13 (cond (decide ((1 : UInt32) ≤ p_1.Epoch)) (cond (decide (p_1.Epoch ≤ (65535 : UInt32))) (some (decide (p_1.Count ≤ (65535 : UInt32)))) (some false)) (some false)) (some false)) (some false)) (fun t_6 => some t_6)

def ref10_None (p_1 : Ptr) : Option Bool :=
  some (decide (p_1.At = 0) && (decide (p_1.Birth = (0 : UInt32)) && (decide (p_1.Iv = (0 : UInt32)) && (decide (p_1.Tag = (0 : UInt32)) && (decide (p_1.Sum = (0 : UInt32)) && true)))))

def ref10_May (p_1 : Ptr) : Option Bool :=
  Option.bind (Option.bind (ref10_None p_1) fun x_6 => cond x_6 (some true) (cond (decide (12 ≤ p_1.At)) (cond (decide (p_1.At < 256)) (cond (decide ((1 : UInt32) ≤ p_1.Birth)) (some (decide (p_1.Birth ≤ (16777215 : UInt32)))) (some false)) (some false)) (some false))) (fun t_3 => some t_3)

def ref09_last_l1 (p_1 : Disk) (p_4 : List Bool) (p_6 : Int) (s_11 : Int) : Option (Int ⊕ Int) :=
  Option.bind (cond (decide (0 ≤ s_11)) (idx p_1.Waits s_11 fun y_18 => cond (decide (y_18.At = p_6)) (cond (decide ((p_4.length : Int) = 0)) (some (.inr ())) (idx p_4 s_11 fun y_31 => cond (!y_31) (some (.inl ())) (some (.inr ())))) (some (.inl ()))) (some (.inr ()))) (fun t_14 => Sum.elim (fun t_14a => some (.inl (w64 (s_11 - 1)))) (fun t_14b => some (.inr s_11)) t_14)

def ref09_last (p_1 : Disk) (p_4 : List Bool) (p_6 : Int) : Option Int :=
  Option.bind (loop (ref09_last_l1 p_1 p_4 p_6) (w64 ((p_1.Waits.length : Int) - 1))) (fun t_8 => some t_8)

def ref09_left (p_1 : Disk) (p_4 : List Bool) (p_6 : Int) : Option (List UInt8) :=
  Option.bind (ref09_last p_1 p_4 p_6) fun x_8 => cond (decide (x_8 < 0)) (idx p_1.Blocks p_6 fun y_12 => app ([] : List UInt8) y_12 fun q_24 => some q_24) (idx p_1.Waits x_8 fun y_28 => app ([] : List UInt8) y_28.Data fun q_40 => some q_40)

def ref09_Seen (p_1 : Disk) (p_4 : Int) : Option (List UInt8) :=
  Option.bind (ref09_left p_1 ([] : List Bool) p_4) fun x_6 => some x_6

def ref02_byteAt (p_1 : List UInt8) (p_3 : Int) : Option UInt32 :=
  cond (decide (p_3 < (p_1.length : Int))) (idx p_1 p_3 fun y_5 => some y_5.toUInt32) (cond (decide (p_3 = (p_1.length : Int))) (some (1 : UInt32)) (some (0 : UInt32)))

def ref02_word (p_1 : List UInt8) (p_3 : Int) : Option UInt32 :=
  Option.bind (ref02_byteAt p_1 p_3) fun x_4 => Option.bind (ref02_byteAt p_1 (w64 (p_3 + 1))) fun x_7 => Option.bind (ref02_byteAt p_1 (w64 (p_3 + 2))) fun x_10 => Option.bind (ref02_byteAt p_1 (w64 (p_3 + 3))) fun x_13 => some (((x_4 + ((256 : UInt32) * x_7)) + ((65536 : UInt32) * x_10)) + ((16777216 : UInt32) * x_13))

def ref02_plus (p_1 : UInt32) (p_2 : UInt32) : Option UInt32 :=
  some (u32i ((w64 ((p_1.toNat : Int) + (p_2.toNat : Int))).tmod 4294967296))

def ref02_left_l1 (p_2 : Int) (s_6 : Int × Int) : Option ((Int × Int) ⊕ Int) :=
  cond (decide (s_6.2 < p_2)) (some (.inl (w64 (((w64 (s_6.1 * 2)).tmod 4294967296) + (w64 ((w64 (s_6.1 * 2)).tdiv 4294967296))),w64 (s_6.2 + 1)))) (some (.inr s_6.1))

def ref02_left (p_1 : UInt32) (p_2 : Int) : Option UInt32 :=
  Option.bind (loop (ref02_left_l1 p_2) ((p_1.toNat : Int),0)) (fun t_3 => some (u32i t_3))

def ref02_Turn (p_1 : A4 UInt32) : Option (A4 UInt32) :=
  Option.bind (ref02_plus p_1.e0 p_1.e1) fun x_4 => Option.bind (ref02_left (p_1.e3 ^^^ x_4) 15) fun x_7 => Option.bind (ref02_plus p_1.e2 x_7) fun x_10 => Option.bind (ref02_left (p_1.e1 ^^^ x_10) 11) fun x_13 => Option.bind (ref02_plus x_4 x_13) fun x_16 => Option.bind (ref02_left (x_7 ^^^ x_16) 9) fun x_19 => Option.bind (ref02_plus x_10 x_19) fun x_22 => Option.bind (ref02_left (x_13 ^^^ x_22) 6) fun x_25 => some (A4.mk x_16 x_25 x_22 x_19)

def ref02_Four_l1 (p_1 : List UInt8) (s_8 : UInt32 × UInt32 × UInt32 × UInt32 × Int) : Option ((UInt32 × UInt32 × UInt32 × UInt32 × Int) ⊕ (UInt32 × UInt32 × UInt32 × UInt32)) :=
  cond (decide (s_8.2.2.2.2 ≤ (p_1.length : Int))) (Option.bind (Option.bind (ref02_word p_1 s_8.2.2.2.2) fun x_15 => some (s_8.1 ^^^ x_15)) (fun t_12 => Option.bind (Option.bind (ref02_word p_1 (w64 (s_8.2.2.2.2 + 4))) fun x_24 => some (s_8.2.2.1 ^^^ x_24)) (fun t_21 => Option.bind (ref02_Turn (A4.mk t_12 s_8.2.1 t_21 s_8.2.2.2.1)) fun x_30 => Option.bind (ref02_Turn x_30) fun x_33 => Option.bind (ref02_Turn x_33) fun x_36 => Option.bind (ref02_Turn x_36) fun x_39 => some (.inl (x_39.e0,x_39.e1,x_39.e2,x_39.e3,w64 (s_8.2.2.2.2 + 8)))))) (some (.inr (s_8.1,s_8.2.1,s_8.2.2.1,s_8.2.2.2.1)))

def ref02_Four (p_1 : List UInt8) : Option (A4 UInt32) :=
  Option.bind (loop (ref02_Four_l1 p_1) ((1 : UInt32),(2 : UInt32),(3 : UInt32),(4 : UInt32),0)) (fun t_5 => Option.bind (ref02_Turn (A4.mk t_5.1 (t_5.2.1 ^^^ (u32i (p_1.length : Int))) t_5.2.2.1 t_5.2.2.2)) fun x_11 => Option.bind (ref02_Turn x_11) fun x_14 => Option.bind (ref02_Turn x_14) fun x_17 => Option.bind (ref02_Turn x_17) fun x_20 => Option.bind (ref02_Turn x_20) fun x_23 => Option.bind (ref02_Turn x_23) fun x_26 => Option.bind (ref02_Turn x_26) fun x_29 => Option.bind (ref02_Turn x_29) fun x_32 => some x_32)

def ref02_Sum (p_1 : List UInt8) : Option UInt32 :=
  Option.bind (ref02_Four p_1) fun x_3 => some x_3.e0

def ref13_Seen (p_1 : Store) (p_5 : Ptr) : Option (List UInt8 × Int) :=
  Option.bind (ref10_None p_5) fun x_8 => cond x_8 (some (([] : List UInt8),6)) (Option.bind (ref09_Seen (Disk.mk p_1.Disk.Blocks p_1.Disk.Waits) p_5.At) fun x_12 => Option.bind (ref02_Sum x_12) fun x_19 => cond (!decide (x_19 = p_5.Sum)) (some (([] : List UInt8),130)) (app ([] : List UInt8) x_12 fun q_23 => some (q_23,0)))

def ref09_Same_l2 (p_1 : Disk) (p_4 : Disk) (s_20 : Int × Nat) : Option ((Int × Nat) ⊕ Int) :=
  cond (decide (((s_20.2 : Nat) : Int) < (p_1.Waits.length : Int))) (idx p_1.Waits ((s_20.2 : Nat) : Int) fun y_24 => idx p_4.Waits ((s_20.2 : Nat) : Int) fun y_36 => cond (!decide (y_24.At = y_36.At)) (some (.inl (w64 (s_20.1 + 1),s_20.2 + 1))) (cond (!decide (y_24.Data = y_36.Data)) (some (.inl (w64 (s_20.1 + 1),s_20.2 + 1))) (some (.inl (s_20.1,s_20.2 + 1))))) (some (.inr s_20.1))

def ref09_Same_l1 (p_1 : Disk) (p_4 : Disk) (s_14 : Int × Nat) : Option ((Int × Nat) ⊕ Int) :=
  cond (decide (((s_14.2 : Nat) : Int) < (p_1.Blocks.length : Int))) (idx p_1.Blocks ((s_14.2 : Nat) : Int) fun y_18 => idx p_4.Blocks ((s_14.2 : Nat) : Int) fun y_29 => cond (!decide (y_18 = y_29)) (some (.inl (w64 (s_14.1 + 1),s_14.2 + 1))) (some (.inl (s_14.1,s_14.2 + 1)))) (some (.inr s_14.1))

def ref09_Same (p_1 : Disk) (p_4 : Disk) : Option Bool :=
  cond (!decide ((p_1.Blocks.length : Int) = (p_4.Blocks.length : Int))) (some false) (cond (!decide ((p_1.Waits.length : Int) = (p_4.Waits.length : Int))) (some false) (Option.bind (loop (ref09_Same_l1 p_1 p_4) (0,0)) (fun t_11 => Option.bind (loop (ref09_Same_l2 p_1 p_4) (t_11,0)) (fun t_17 => some (decide (t_17 = 0))))))

def ref13_Same (p_1 : Store) (p_5 : Store) : Option Bool :=
  Option.bind (Option.bind (ref09_Same (Disk.mk p_1.Disk.Blocks p_1.Disk.Waits) (Disk.mk p_5.Disk.Blocks p_5.Disk.Waits)) fun x_14 => cond x_14 (cond (decide (p_1.Space = p_5.Space)) (cond (decide (p_1.Epoch = p_5.Epoch)) (some (decide (p_1.Count = p_5.Count))) (some false)) (some false)) (some false)) (fun t_11 => some t_11)

end Go.Ow

/- plain functions: what the code computes. -/
namespace Go.Ow
set_option linter.unusedVariables false
set_option linter.unusedSimpArgs false

def ref12_With (p_1 : List UInt8) (p_3 : Int) (p_4 : UInt8) : Option (List UInt8) :=
  app ([] : List UInt8) p_1 fun q_6 => chk (0 ≤ p_3 ∧ p_3.toNat < q_6.length) <| setI q_6 p_3 p_4 fun m_14 => some m_14

def ref06_asked (p_1 : List UInt8) (p_3 : List UInt8) : Option Int :=
  cond (!decide ((p_1.length : Int) = 16)) (some 2) (cond (decide (256 < (p_3.length : Int))) (some 3) (some 0))

def ref01_Room_b (rec_0 : Int → Option Int) (p_1 : Int) : Option Int :=
  cond (decide (p_1 = 0)) (some 1) (Option.bind (rec_0 (w64 (p_1 - 1))) fun x_3 => some (w64 (256 * x_3)))

def ref01_Room_n : Nat → Int → Option Int
  | 0,_ => none
  | n + 1,p_1 => ref01_Room_b (ref01_Room_n n) p_1

def ref01_Room (p_1 : Int) : Option Int:=ref01_Room_n FUEL p_1

def ref01_Bytes_l1 (p_1 : Int) (p_2 : Int) (s_10 : List UInt8 × Int) : Option ((List UInt8 × Int) ⊕ (List UInt8)) :=
  cond (decide (s_10.2 < p_2)) (Option.bind (ref01_Room s_10.2) fun x_15 => chk (x_15 ≠ 0) <| chk (0 ≤ s_10.2 ∧ s_10.2.toNat < s_10.1.length) <| setI s_10.1 s_10.2 (u8i ((w64 (p_1.tdiv x_15)).tmod 256)) fun m_23 => some (.inl (m_23,w64 (s_10.2 + 1)))) (some (.inr s_10.1))

def ref01_Bytes (p_1 : Int) (p_2 : Int) : Option (List UInt8) :=
  mks p_2 (0 : UInt8) fun x_5 => Option.bind (loop (ref01_Bytes_l1 p_1 p_2) (x_5,0)) (fun t_7 => some t_7)

def ref02_Key_l1 (s_10 : List UInt8 × Nat) (s_20 : UInt32 × Int) : Option ((UInt32 × Int) ⊕ UInt32) :=
  cond (decide (s_20.2 < (((s_10.2 : Nat) : Int).tmod 4))) (some (.inl (s_20.1 / (256 : UInt32),w64 (s_20.2 + 1)))) (some (.inr s_20.1))

def ref02_Key_l2 (x_3 : A4 UInt32) (s_10 : List UInt8 × Nat) : Option ((List UInt8 × Nat) ⊕ (List UInt8)) :=
  cond (decide (((s_10.2 : Nat) : Int) < 16)) (idx x_3.l (w64 (((s_10.2 : Nat) : Int).tdiv 4)) fun y_15 => Option.bind (loop (ref02_Key_l1 s_10) (y_15,0)) (fun t_17 => app s_10.1 ([(t_17 % (256 : UInt32)).toUInt8]) fun q_24 => some (.inl (q_24,s_10.2 + 1)))) (some (.inr s_10.1))

def ref02_Key (p_1 : List UInt8) : Option (List UInt8) :=
  Option.bind (ref02_Four p_1) fun x_3 => Option.bind (loop (ref02_Key_l2 x_3) (([] : List UInt8),0)) (fun t_7 => some t_7)

def ref05_Bytes_l1 (p_1 : List UInt8) (p_3 : UInt32) (p_4 : Int) (s_8 : List UInt8 × Int) : Option ((List UInt8 × Int) ⊕ (List UInt8)) :=
  cond (decide ((w64 (16 * s_8.2)) < p_4)) (app ([] : List UInt8) p_1 fun q_14 => Option.bind (ref01_Bytes (p_3.toNat : Int) 4) fun x_18 => app q_14 x_18 fun q_22 => Option.bind (ref01_Bytes s_8.2 4) fun x_26 => app q_22 x_26 fun q_30 => Option.bind (ref02_Key q_30) fun x_37 => app s_8.1 x_37 fun q_42 => some (.inl (q_42,w64 (s_8.2 + 1)))) (some (.inr s_8.1))

def ref05_Bytes (p_1 : List UInt8) (p_3 : UInt32) (p_4 : Int) : Option (List UInt8) :=
  Option.bind (loop (ref05_Bytes_l1 p_1 p_3 p_4) (([] : List UInt8),0)) (fun t_5 => slc t_5 0 p_4 fun m_14 => some m_14)

def ref05_Turned_l1 (p_4 : List UInt8) (x_6 : List UInt8) (s_13 : List UInt8 × Nat) : Option ((List UInt8 × Nat) ⊕ (List UInt8)) :=
  cond (decide (((s_13.2 : Nat) : Int) < (p_4.length : Int))) (idx p_4 ((s_13.2 : Nat) : Int) fun y_18 => idx x_6 ((s_13.2 : Nat) : Int) fun y_27 => app s_13.1 ([y_18 ^^^ y_27]) fun q_37 => some (.inl (q_37,s_13.2 + 1))) (some (.inr s_13.1))

def ref05_Turned (p_1 : List UInt8) (p_3 : UInt32) (p_4 : List UInt8) : Option (List UInt8) :=
  Option.bind (ref05_Bytes p_1 p_3 (p_4.length : Int)) fun x_6 => Option.bind (loop (ref05_Turned_l1 p_4 x_6) (([] : List UInt8),0)) (fun t_10 => some t_10)

def ref03_Inner (p_1 : List UInt8) (p_3 : List UInt8) : Option (List UInt8) :=
  app ([] : List UInt8) p_1 fun q_6 => app q_6 ([(1 : UInt8)]) fun q_11 => app q_11 p_3 fun q_15 => Option.bind (ref02_Key q_15) fun x_22 => some x_22

def ref03_Of (p_1 : List UInt8) (p_3 : List UInt8) : Option UInt32 :=
  app ([] : List UInt8) p_1 fun q_6 => app q_6 ([(2 : UInt8)]) fun q_11 => Option.bind (ref03_Inner p_1 p_3) fun x_15 => app q_11 x_15 fun q_19 => Option.bind (ref02_Sum q_19) fun x_26 => some x_26

def ref06_Tag (p_1 : List UInt8) (p_3 : UInt32) (p_4 : List UInt8) : Option UInt32 :=
  Option.bind (ref01_Bytes (p_3.toNat : Int) 4) fun x_6 => app x_6 p_4 fun q_10 => Option.bind (ref03_Of p_1 q_10) fun x_17 => some x_17

def law13_spoil_l3 (p_1 : Store) (s_29 : Nat) : Option (Nat ⊕ Unit) :=
  cond (decide (((s_29 : Nat) : Int) < (p_1.Space.length : Int))) (idx p_1.Space ((s_29 : Nat) : Int) fun y_35 => idx p_1.Space ((s_29 : Nat) : Int) fun y_49 => some (.inl (s_29 + 1))) (some (.inr ()))

def law13_spoil_l2 (p_1 : Store) (s_19 : Nat) : Option (Nat ⊕ Unit) :=
  cond (decide (((s_19 : Nat) : Int) < (p_1.Disk.Waits.length : Int))) (idx p_1.Disk.Waits ((s_19 : Nat) : Int) fun y_25 => cond (decide (0 < (y_25.Data.length : Int))) (idx p_1.Disk.Waits ((s_19 : Nat) : Int) fun y_42 => idx p_1.Disk.Waits ((s_19 : Nat) : Int) fun y_53 => idx y_53.Data 0 fun y_74 => idx y_42.Data 0 fun y_88 => some (.inl (s_19 + 1))) (some (.inl (s_19 + 1)))) (some (.inr ()))

def law13_spoil_l1 (p_1 : Store) (s_9 : Nat) : Option (Nat ⊕ Unit) :=
  cond (decide (((s_9 : Nat) : Int) < (p_1.Disk.Blocks.length : Int))) (idx p_1.Disk.Blocks ((s_9 : Nat) : Int) fun y_15 => cond (decide (0 < (y_15.length : Int))) (idx p_1.Disk.Blocks ((s_9 : Nat) : Int) fun y_32 => idx p_1.Disk.Blocks ((s_9 : Nat) : Int) fun y_43 => idx y_43 0 fun y_64 => idx y_32 0 fun y_78 => some (.inl (s_9 + 1))) (some (.inl (s_9 + 1)))) (some (.inr ()))

def law13_spoil (p_1 : Store) : Option Unit :=
  Option.bind (loop (law13_spoil_l1 p_1) 0) (fun t_6 => Option.bind (loop (law13_spoil_l2 p_1) 0) (fun t_16 => Option.bind (loop (law13_spoil_l3 p_1) 0) (fun t_26 => some ())))

end Go.Ow

/- plain functions: what the code computes. -/
namespace Go.Ow
set_option linter.unusedVariables false
set_option linter.unusedSimpArgs false

def ref13_Look (p_1 : Store) (p_5 : Ptr) : Option (List UInt8 × Int) :=
  Option.bind (ref13_May p_1) fun x_8 => cond (!x_8) (some (([] : List UInt8),8)) (Option.bind (ref10_May p_5) fun x_12 => cond (!x_12) (some (([] : List UInt8),8)) (Option.bind (ref13_Seen p_1 p_5) fun x_16 => some (x_16.1,x_16.2)))

def ref06_Open (p_1 : List UInt8) (p_3 : UInt32) (p_4 : List UInt8) (p_6 : UInt32) : Option (List UInt8 × Int) :=
  Option.bind (ref06_asked p_1 p_4) fun x_7 => cond (!decide (x_7 = 0)) (some (([] : List UInt8),x_7)) (Option.bind (ref06_Tag p_1 p_3 p_4) fun x_11 => cond (!decide (x_11 = p_6)) (some (([] : List UInt8),131)) (Option.bind (ref05_Turned p_1 p_3 p_4) fun x_15 => some (x_15,0)))

def ref13_Opened (p_1 : Store) (p_5 : Ptr) (p_6 : List UInt8) : Option (List UInt8 × Int) :=
  Option.bind (ref13_Seen p_1 p_5) fun x_10 => cond (!decide (x_10.2 = 0)) (some (([] : List UInt8),x_10.2)) (cond (!decide ((p_6.length : Int) = 16)) (some (([] : List UInt8),3)) (Option.bind (ref06_Open p_6 p_5.Iv x_10.1 p_5.Tag) fun x_19 => cond (!decide (x_19.2 = 0)) (some (([] : List UInt8),131)) (some (x_19.1,0))))

def ref13_Open (p_1 : Store) (p_5 : Ptr) (p_6 : List UInt8) : Option (List UInt8 × Int) :=
  Option.bind (ref13_May p_1) fun x_10 => cond (!x_10) (some (([] : List UInt8),8)) (Option.bind (ref10_May p_5) fun x_14 => cond (!x_14) (some (([] : List UInt8),8)) (Option.bind (ref13_Opened p_1 p_5 p_6) fun x_18 => some (x_18.1,x_18.2)))

def ref13_Give (p_1 : Store) (p_5 : Ptr) : Option (Store × Int) :=
  Option.bind (ref13_May p_1) fun x_9 => cond (!x_9) (some (Store.mk (Disk.mk ([] : List (List UInt8)) ([] : List Write)) ([] : List UInt8) (0 : UInt32) (0 : UInt32),8)) (Option.bind (ref10_May p_5) fun x_13 => cond (!x_13) (some (Store.mk (Disk.mk ([] : List (List UInt8)) ([] : List Write)) ([] : List UInt8) (0 : UInt32) (0 : UInt32),8)) (Option.bind (ref10_None p_5) fun x_17 => cond x_17 (some (Store.mk (Disk.mk ([] : List (List UInt8)) ([] : List Write)) ([] : List UInt8) (0 : UInt32) (0 : UInt32),6)) (idx p_1.Space p_5.At fun y_21 => cond (!decide (y_21 = (1 : UInt8))) (some (Store.mk (Disk.mk ([] : List (List UInt8)) ([] : List Write)) ([] : List UInt8) (0 : UInt32) (0 : UInt32),6)) (Option.bind (ref12_With p_1.Space p_5.At (2 : UInt8)) fun x_31 => some (Store.mk (Disk.mk p_1.Disk.Blocks p_1.Disk.Waits) x_31 p_1.Epoch p_1.Count,0)))))

def ref13_Check (p_1 : Store) : Option Int :=
  Option.bind (ref13_May p_1) fun x_6 => cond (!x_6) (some 8) (some 0)

def bytes_Equal (p_1 : List UInt8) (p_3 : List UInt8) : Option Bool :=
  some (decide (p_1 = p_3))

def store_Same (p_1 : Store) (p_5 : Store) : Option Bool :=
  Option.bind (Option.bind (dev_Same (Disk.mk p_1.Disk.Blocks p_1.Disk.Waits) (Disk.mk p_5.Disk.Blocks p_5.Disk.Waits)) fun x_14 => cond x_14 (Option.bind (bytes_Equal p_1.Space p_5.Space) fun x_18 => cond x_18 (cond (decide (p_1.Epoch = p_5.Epoch)) (some (decide (p_1.Count = p_5.Count))) (some false)) (some false)) (some false)) (fun t_11 => some t_11)

def ref09_New_l1 (s_10 : List (List UInt8) × Nat) : Option ((List (List UInt8) × Nat) ⊕ (List (List UInt8))) :=
  cond (decide (((s_10.2 : Nat) : Int) < 256)) (mks 256 (0 : UInt8) fun x_18 => chk (0 ≤ ((s_10.2 : Nat) : Int) ∧ ((s_10.2 : Nat) : Int).toNat < s_10.1.length) <| setI s_10.1 ((s_10.2 : Nat) : Int) x_18 fun m_25 => some (.inl (m_25,s_10.2 + 1))) (some (.inr s_10.1))

def ref09_New : Option Disk :=
  mks 256 ([] : List UInt8) fun x_4 => Option.bind (loop ref09_New_l1 (x_4,0)) (fun t_7 => some (Disk.mk t_7 ([] : List Write)))

def ref12_New_l1 (s_8 : List UInt8 × Nat) : Option ((List UInt8 × Nat) ⊕ (List UInt8)) :=
  cond (decide (((s_8.2 : Nat) : Int) < 12)) (chk (0 ≤ ((s_8.2 : Nat) : Int) ∧ ((s_8.2 : Nat) : Int).toNat < s_8.1.length) <| setI s_8.1 ((s_8.2 : Nat) : Int) (1 : UInt8) fun m_17 => some (.inl (m_17,s_8.2 + 1))) (some (.inr s_8.1))

def ref12_New : Option (List UInt8) :=
  mks 256 (0 : UInt8) fun x_3 => Option.bind (loop ref12_New_l1 (x_3,0)) (fun t_5 => some t_5)

def ref13_New : Option Store :=
  Option.bind (ref09_New) fun x_2 => Option.bind (ref12_New) fun x_7 => some (Store.mk (Disk.mk x_2.Blocks x_2.Waits) x_7 (1 : UInt32) (0 : UInt32))

def law13_StoreReads_l1 (x_46 : List UInt8 × Int) (s_176 : Nat) : Option (Nat ⊕ Unit) :=
  cond (decide (((s_176 : Nat) : Int) < (x_46.1.length : Int))) (idx x_46.1 ((s_176 : Nat) : Int) fun y_182 => idx x_46.1 ((s_176 : Nat) : Int) fun y_196 => some (.inl (s_176 + 1))) (some (.inr ()))

def law13_StoreReads (p_1 : Store) (p_5 : Store) (p_9 : Ptr) (p_10 : List UInt8) : Option Bool :=
  Option.bind (ref13_Great p_1) fun x_15 => cond x_15 (some true) (Option.bind (ref13_Great p_5) fun x_19 => cond x_19 (some true) (cond (decide (10000 < (p_10.length : Int))) (some true) (Option.bind (ref13_Twin p_1) fun x_24 => Option.bind (store_Look x_24 p_9) fun x_46 => Option.bind (ref13_Look p_1 p_9) fun x_50 => Option.bind (store_Open x_24 p_9 p_10) fun x_54 => Option.bind (ref13_Open p_1 p_9 p_10) fun x_58 => Option.bind (store_Give x_24 p_9) fun x_62 => Option.bind (ref13_Give p_1 p_9) fun x_69 => cond (!decide (x_46.1 = x_50.1)) (some false) (cond (!decide (x_46.2 = x_50.2)) (some false) (cond (!decide (x_54.1 = x_58.1)) (some false) (cond (!decide (x_54.2 = x_58.2)) (some false) (Option.bind (ref13_Same x_62.1 x_69.1) fun x_86 => cond (!x_86) (some false) (cond (!decide (x_62.2 = x_69.2)) (some false) (Option.bind (store_Check x_24) fun x_90 => Option.bind (ref13_Check p_1) fun x_93 => cond (!decide (x_90 = x_93)) (some false) (Option.bind (store_Same x_24 p_5) fun x_97 => Option.bind (ref13_Same p_1 p_5) fun x_100 => cond (!(x_97 == x_100)) (some false) (Option.bind (store_Twin x_24) fun x_104 => Option.bind (ref13_Same x_104 p_1) fun x_113 => cond (!x_113) (some false) (Option.bind (store_New) fun x_117 => Option.bind (ref13_New) fun x_123 => Option.bind (ref13_Same x_117 x_123) fun x_133 => cond (!x_133) (some false) (Option.bind (law13_spoil x_62.1) fun x_144 => Option.bind (store_Twin x_24) fun x_148 => Option.bind (law13_spoil x_148) fun x_169 => Option.bind (loop (law13_StoreReads_l1 x_46) 0) (fun t_173 => Option.bind (ref13_Same x_24 p_1) fun x_183 => some x_183))))))))))))))
end Go.Ow

/-
  What is proved here: loops over the elements of a list, told by recursion over the list: plain lists alone.
-/
namespace Go.Ow
set_option linter.unusedVariables false
set_option linter.unusedSimpArgs false
variable {α σ ρ τ : Type}

def goesOn (st : ρ → σ) : ρ ⊕ τ → Option (σ ⊕ τ)
  | .inl r => some (.inl (st r))
  | .inr t => some (.inr t)
def ends (fin : ρ → τ) : ρ ⊕ τ → Option τ
  | .inl r => some (fin r)
  | .inr t => some t
theorem loop_each (l : List α) (st : Nat → ρ → σ) {body : σ → Option (σ ⊕ τ)} (f : α → ρ → Option (ρ ⊕ τ)) (fin : ρ → τ) (I : Nat → ρ → Prop)
    (step : ∀ i (h : i < l.length) r,I i r → body (st i r) = Option.bind (f l[i] r) (goesOn (st (i + 1)))) (inv : ∀ i (h : i < l.length) r r',I i r → f l[i] r = some (.inl r') → I (i + 1) r')
    (stop : ∀ r,I l.length r → body (st l.length r) = some (.inr (fin r))) (hl : l.length < FUEL) {r0 : ρ} (h0 : I 0 r0) :
    loop body (st 0 r0) = Option.bind (forL f l r0) (ends fin):=by
  have key : ∀ (k i : Nat) (r : ρ) (n : Nat),i + k = l.length → k < n → I i r → run body n (st i r) = Option.bind (forL f (l.drop i) r) (ends fin):=by
    intro k
    induction k with
    | zero =>
      intro i r n hi hn hI
      obtain rfl : i = l.length:=by omega
      obtain ⟨n,rfl⟩ : ∃ m,n = m + 1:=⟨n - 1,by omega⟩
      show Option.bind (body (st l.length r)) _ = _
      rw [stop r hI,List.drop_length]; rfl
    | succ k ih =>
      intro i r n hi hn hI
      have hlt : i < l.length:=by omega
      obtain ⟨n,rfl⟩ : ∃ m,n = m + 1:=⟨n - 1,by omega⟩
      show Option.bind (body (st i r)) _ = _
      rw [step i hlt r hI,List.drop_eq_getElem_cons hlt]
      show _ = Option.bind (Option.bind (f l[i] r) _) _
      cases hf : f l[i] r with
      | none => rfl
      | some o =>
        cases o with
        | inl r' => exact ih (i + 1) r' n (by omega) (by omega) (inv i hlt r r' hI hf)
        | inr t => rfl
  have:=key l.length 0 r0 FUEL (by omega) hl h0
  simpa [loop] using this
theorem loop_each' (l : List α) (st : Nat → ρ → σ) {body : σ → Option (σ ⊕ τ)} (f : α → ρ → Option (ρ ⊕ τ)) (fin : ρ → τ)
    (step : ∀ i (h : i < l.length) r,body (st i r) = Option.bind (f l[i] r) (goesOn (st (i + 1)))) (stop : ∀ r,body (st l.length r) = some (.inr (fin r))) (hl : l.length < FUEL) (r0 : ρ) :
    loop body (st 0 r0) = Option.bind (forL f l r0) (ends fin) :=
  loop_each l st f fin (fun _ _ => True) (fun i h r _ => step i h r) (fun _ _ _ _ _ _ => trivial) (fun r _ => stop r) hl trivial
theorem forL_map (g : ρ → α → ρ) : ∀ (l : List α) (r : ρ),forL (fun y r => some (.inl (g r y) : ρ ⊕ τ)) l r = some (.inl (l.foldl g r))
  | [],r => rfl
  | y :: l,r => by rw [forL_cons (s':=g r y) rfl,forL_map g l]; rfl
theorem lt_fuel {n m : Nat} (h : n ≤ m) (hm : Nat.blt m FUEL = true) : n < FUEL:=Nat.lt_of_le_of_lt h (by simpa using hm)
theorem cI {n m : Nat} {β : Type} {a b : β} : (bif decide ((n : Int) < (m : Int)) then a else b) = if n < m then a else b:=by
  by_cases h : n < m
  · rw [if_pos h,decide_eq_true (by omega)]; rfl
  · rw [if_neg h,decide_eq_false (by omega)]; rfl
end Go.Ow

/-
  What is proved here: the disk in plain words: what may be, a twin, a write, what is seen.
-/
namespace Go.Ow
set_option linter.unusedVariables false
set_option linter.unusedSimpArgs false

def okW (w : Write) : Bool:=decide (0 ≤ w.At ∧ w.At < 256) && decide (w.Data.length = 256)
def OKD (d : Disk) : Prop:=d.Blocks.length = 256 ∧ d.Waits.length ≤ 4096 ∧ (∀ b ∈ d.Blocks,b.length = 256) ∧ ∀ w ∈ d.Waits,okW w = true
instance (d : Disk) : Decidable (OKD d):=by unfold OKD; infer_instance
structure Sized (d : Disk) : Prop where
  blocks : d.Blocks.length ≤ 9223372036854775807
  waits : d.Waits.length ≤ 9223372036854775807
  at' : ∀ w ∈ d.Waits,InI64 w.At

theorem dev_place_eq {n : Int} (h : InI64 n) : dev_place n = some (decide (0 ≤ n ∧ n < 256)):=by
  unfold dev_place u64i
  congr 1
  apply decide_eq_decide.2
  rw [UInt64.lt_iff_toNat_lt,UInt64.toNat_ofNat']
  obtain ⟨h1,h2⟩:=h
  show _ % 18446744073709551616 < (256 : UInt64).toNat ↔ _
  rw [show (256 : UInt64).toNat = 256 from rfl]
  omega
theorem small_lt {n : Nat} (h : n ≤ 9223372036854775807) : n < FUEL:=Nat.lt_of_le_of_lt h (by decide)

theorem check_l1 (d : Disk) (ok : Bool) (h : d.Blocks.length ≤ 9223372036854775807) : loop (dev_Check_l1 d) (ok,0) = some (ok && d.Blocks.all fun b => decide (b.length = 256)):=by
  rw [loop_each' d.Blocks (fun i (r : Bool) => (r,i)) (fun b r => some (.inl (r && decide (b.length = 256)))) (fun r => r) (fun i hi r => ?_) (fun r => ?_) (small_lt h) ok,forL_map]
  · show some _ = some _
    congr 1
    generalize d.Blocks = l
    induction l generalizing ok with
    | nil => simp
    | cons b l ih => simp only [List.foldl_cons,ih,List.all_cons,Bool.and_assoc]
  · unfold dev_Check_l1
    rw [cI,if_pos hi,ZU _ hi]
    cases r
    · rfl
    · simp only [cond_true,Option.bind_some,goesOn,Bool.true_and]
      rw [show decide ((d.Blocks[i].length : Int) = 256) = decide (d.Blocks[i].length = 256) from decide_eq_decide.2 (by omega)]
  · unfold dev_Check_l1
    rw [cI,if_neg (by omega)]
theorem check_l2 (d : Disk) (ok : Bool) (h : Sized d) : loop (dev_Check_l2 d) (ok,0) = some (ok && d.Waits.all okW):=by
  rw [loop_each' d.Waits (fun i (r : Bool) => (r,i)) (fun w r => some (.inl (r && (okW w)))) (fun r => r) (fun i hi r => ?_) (fun r => ?_) (small_lt h.waits) ok,forL_map]
  · show some _ = some _
    congr 1
    generalize d.Waits = l
    induction l generalizing ok with
    | nil => simp
    | cons b l ih => simp only [List.foldl_cons,ih,List.all_cons,Bool.and_assoc]
  · unfold dev_Check_l2
    rw [cI,if_pos hi,ZU _ hi]
    cases r
    · rfl
    · simp only [cond_true,Option.bind_some,goesOn,Bool.true_and]
      rw [dev_place_eq (h.at' _ (List.getElem_mem hi))]
      unfold okW
      by_cases c : 0 ≤ d.Waits[i].At ∧ d.Waits[i].At < 256
      · rw [decide_eq_true c]
        simp only [Option.bind_some,cond_true,Bool.true_and]
        rw [show decide ((d.Waits[i].Data.length : Int) = 256) = decide (d.Waits[i].Data.length = 256) from decide_eq_decide.2 (by omega)]
      · rw [decide_eq_false c]
        rfl
  · unfold dev_Check_l2
    rw [cI,if_neg (by omega)]
theorem dev_Check_eq {d : Disk} (h : Sized d) : dev_Check d = some (if OKD d then 0 else 8):=by
  unfold dev_Check
  rw [show (bif decide ((d.Blocks.length : Int) = 256) then some (decide ((d.Waits.length : Int) ≤ 4096)) else some false) = some (decide (d.Blocks.length = 256) && decide (d.Waits.length ≤ 4096)) from by
    by_cases c : d.Blocks.length = 256
    · rw [decide_eq_true (show (d.Blocks.length : Int) = 256 by omega),decide_eq_true c]
      simp only [cond_true,Bool.true_and]
      congr 1
      simp only [decide_eq_decide]; omega
    · rw [decide_eq_false (show ¬ (d.Blocks.length : Int) = 256 by omega),decide_eq_false c]; rfl]
  simp only [Option.bind_some]
  rw [check_l1 d _ h.blocks]
  simp only [Option.bind_some]
  rw [check_l2 d _ h]
  simp only [Option.bind_some]
  by_cases c : OKD d
  · rw [if_pos c]
    obtain ⟨c1,c2,c3,c4⟩:=c
    rw [show (decide (d.Blocks.length = 256) && decide (d.Waits.length ≤ 4096) && (d.Blocks.all fun b => decide (b.length = 256)) && d.Waits.all okW) = true from by
      simp only [Bool.and_eq_true,decide_eq_true_eq,List.all_eq_true]; exact ⟨⟨⟨c1,c2⟩,c3⟩,c4⟩]
    rfl
  · rw [if_neg c]
    rw [show (decide (d.Blocks.length = 256) && decide (d.Waits.length ≤ 4096) && (d.Blocks.all fun b => decide (b.length = 256)) && d.Waits.all okW) = false from by
      rw [Bool.eq_false_iff]; intro e
      simp only [Bool.and_eq_true,decide_eq_true_eq,List.all_eq_true] at e
      exact c ⟨e.1.1.1,e.1.1.2,e.1.2,e.2⟩]
    rfl

/-! ### A twin -/
structure Mid (d : Disk) : Prop where
  blocks : d.Blocks.length ≤ 1000
  waits : d.Waits.length ≤ 5000
  eb : ∀ b ∈ d.Blocks,b.length ≤ 1000
  ew : ∀ w ∈ d.Waits,w.Data.length ≤ 1000
theorem OKD.mid {d : Disk} (h : OKD d) : Mid d:=⟨by rw [h.1]; omega,by have:=h.2.1; omega,fun b hb => by rw [h.2.2.1 b hb]; omega,fun w hw => by
  have:=h.2.2.2 w hw
  simp only [okW,Bool.and_eq_true,decide_eq_true_eq] at this
  omega⟩
theorem OKD.sized {d : Disk} (h : OKD d) : Sized d:=⟨by rw [h.1]; omega,by have:=h.2.1; omega,fun w hw => by
  have:=h.2.2.2 w hw
  simp only [okW,Bool.and_eq_true,decide_eq_true_eq] at this
  exact ⟨by omega,by omega⟩⟩
theorem sum_le_mul {l : List Nat} {k : Nat} (h : ∀ x ∈ l,x ≤ k) : l.sum ≤ l.length * k:=by
  induction l with
  | nil => simp
  | cons x l ih =>
    have:=h x (by simp); have:=ih (fun y hy => h y (by simp [hy]))
    simp only [List.sum_cons,List.length_cons,Nat.add_mul,Nat.one_mul]; omega
theorem twin_l1 (d : Disk) (h : d.Blocks.length ≤ 1000) : loop (dev_Twin_l1 d) (([] : List Int),0) = some (d.Blocks.map fun b => (b.length : Int)):=by
  rw [loop_each d.Blocks (fun i (r : List Int) => (r,i)) (fun b r => some (.inl (r ++ [(b.length : Int)]))) (fun r => r) (fun i r => r.length = i) (fun i hi r hr => ?_) (fun i hi r r' hr e => ?_) (fun r _ => ?_) (small_lt (by omega)) rfl,forL_map]
  · show some _ = some _
    congr 1
    suffices H : ∀ (l : List (List UInt8)) (a : List Int),l.foldl (fun r b => r ++ [(b.length : Int)]) a = a ++ l.map fun b => (b.length : Int) by simpa using H d.Blocks []
    intro l
    induction l with
    | nil => simp
    | cons b l ih => intro a; simp [ih]
  · unfold dev_Twin_l1
    rw [cI,if_pos hi,ZU _ hi,Zv (by simp only [List.length_cons,List.length_nil,LIM]; omega)]
    rfl
  · simp only [Option.some.injEq,Sum.inl.injEq] at e; subst e; simp [hr]
  · unfold dev_Twin_l1
    rw [cI,if_neg (by omega)]
theorem dev_cut_eq (bs : List (List UInt8)) (h : bs.length ≤ 1000) (hb : ∀ b ∈ bs,b.length ≤ 1000) : dev_cut (bs.map fun b => (b.length : Int)) = some (bs.map fun b => List.replicate b.length 0):=by
  unfold dev_cut
  have e1 : (bs.map fun b => (b.length : Int)).map Int.toNat = bs.map List.length:=by rw [List.map_map]; rfl
  have e2:=sum_le_mul (l:=bs.map List.length) (k:=1000) (fun x hx => by obtain ⟨b,h1,rfl⟩:=List.mem_map.1 hx; exact hb b h1)
  rw [List.length_map] at e2
  rw [if_pos ⟨fun n hn => by obtain ⟨b,_,rfl⟩:=List.mem_map.1 hn; omega,by rw [e1]; simp only [LIM]; omega,by simp only [List.length_map,LIM]; omega⟩,List.map_map]
  rfl
theorem twin_l2 (d : Disk) (h : d.Blocks.length ≤ 1000) : loop (dev_Twin_l2 d) (d.Blocks.map (fun b => List.replicate b.length (0 : UInt8)),0) = some d.Blocks:=by
  obtain ⟨t,h1,h2⟩:=loop_rule (body:=dev_Twin_l2 d) (fun s => s.2 ≤ d.Blocks.length ∧ s.1 = d.Blocks.take s.2 ++ (d.Blocks.drop s.2).map (fun b => List.replicate b.length (0 : UInt8))) (fun s => d.Blocks.length - s.2) (fun t => t = d.Blocks) (by
    rintro ⟨r,i⟩ ⟨hi,hr⟩
    simp only at hi hr
    subst hr
    unfold dev_Twin_l2
    dsimp only
    rw [cI]
    rcases Nat.lt_or_ge i d.Blocks.length with hlt | hge
    · left
      have hl : (d.Blocks.take i ++ (d.Blocks.drop i).map (fun b => List.replicate b.length (0 : UInt8))).length = d.Blocks.length:=by simp; omega
      have hg : (d.Blocks.take i ++ (d.Blocks.drop i).map (fun b => List.replicate b.length (0 : UInt8)))[i]'(by omega) = List.replicate d.Blocks[i].length 0:=by
        rw [List.getElem_append_right (by simp; omega)]
        simp [Nat.min_eq_left (Nat.le_of_lt hlt)]
      rw [if_pos hlt,ZU _ hlt,ZU _ (by omega),chk_eq (by rw [hg]; simp),setI_eq (by omega) (by simpa using (by omega : i < (d.Blocks.take i ++ (d.Blocks.drop i).map (fun b => List.replicate b.length (0 : UInt8))).length))]
      refine ⟨_,rfl,⟨hlt,?_⟩,by simp only; omega⟩
      simp only [Int.toNat_natCast]
      rw [List.set_append_right _ _ (by simp only [List.length_take]; omega),List.drop_eq_getElem_cons hlt]
      simp only [List.map_cons,List.length_take,Nat.min_eq_left (Nat.le_of_lt hlt),Nat.sub_self,List.set_cons_zero]
      rw [List.take_add_one,List.getElem?_eq_getElem hlt]
      simp only [Option.toList_some,List.append_assoc,List.singleton_append]
    · right
      rw [if_neg (by omega)]
      refine ⟨_,rfl,?_⟩
      rw [List.take_of_length_le hge,List.drop_of_length_le hge]; simp) (s:=(d.Blocks.map (fun b => List.replicate b.length (0 : UInt8)),0)) ⟨Nat.zero_le _,by simp⟩ (small_lt (by simp only; omega))
  rw [h1,h2]
theorem bytes_Clone_eq {l : List UInt8} (h : l.length ≤ 1000) : bytes_Clone l = some l:=by
  unfold bytes_Clone; rw [Zv (by simp only [List.length_nil,LIM]; omega)]; rfl
theorem twin_l3 (d : Disk) (h : d.Waits.length ≤ 5000) (hw : ∀ w ∈ d.Waits,w.Data.length ≤ 1000) : loop (dev_Twin_l3 d) (([] : List Write),0) = some d.Waits:=by
  rw [loop_each d.Waits (fun i (r : List Write) => (r,i)) (fun b r => some (.inl (r ++ [b]))) (fun r => r) (fun i r => r.length = i) (fun i hi r hr => ?_) (fun i hi r r' hr e => ?_) (fun r _ => ?_) (small_lt (by omega)) rfl,forL_map]
  · show some _ = some _
    congr 1
    suffices H : ∀ (l : List Write) (a : List Write),l.foldl (fun r b => r ++ [b]) a = a ++ l by simpa using H d.Waits []
    intro l
    induction l with
    | nil => simp
    | cons b l ih => intro a; simp [ih]
  · unfold dev_Twin_l3
    rw [cI,if_pos hi,ZU _ hi,bytes_Clone_eq (hw _ (List.getElem_mem hi))]
    simp only [Option.bind_some]
    rw [Zv (by simp only [List.length_cons,List.length_nil,LIM]; omega)]
    rfl
  · simp only [Option.some.injEq,Sum.inl.injEq] at e; subst e; simp [hr]
  · unfold dev_Twin_l3
    rw [cI,if_neg (by omega)]
theorem dev_Twin_eq {d : Disk} (h : Mid d) : dev_Twin d = some d:=by
  unfold dev_Twin
  rw [twin_l1 d h.blocks]
  simp only [Option.bind_some]
  rw [dev_cut_eq _ h.blocks h.eb]
  simp only [Option.bind_some]
  rw [twin_l2 d h.blocks]
  simp only [Option.bind_some]
  rw [twin_l3 d h.waits h.ew]
  rfl
end Go.Ow
