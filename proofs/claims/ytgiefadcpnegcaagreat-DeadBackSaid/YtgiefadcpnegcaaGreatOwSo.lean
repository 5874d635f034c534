import Derived.Test.YtgiefadcpnegcaaGreatOwMb
import Derived.Shelf.SlSortCmp.NoneTotal
/-
  What is proved here: slices.SortFunc at structs, by the shelf's contract: an own row is sorted in place by a function that computes.
-/
set_option linter.unusedSimpArgs false
set_option linter.unusedVariables false
namespace Go.Ow
open Go.Shelf Go.RowKit Go.Lib Go.Sort Go.Proofs
section
variable{α:Type} [Inhabited α]{enc:α→List Value}{k:Nat}
theorem flat_enc (hk:∀x,(enc x).length=k)(k0:0<k):∀(l:List α) (t:Nat),t<l.length*k→(l.map enc).flatten[t]? =(enc (l[t/k]!))[t%k]?
  |[],t,h=>by simp at h
  | x ::r,t,h=>by
    simp only[List.map_cons,List.flatten_cons]
    by_cases ht:t<k
    · rw[List.getElem?_append_left (by rw[hk];exact ht),Nat.div_eq_of_lt ht,Nat.mod_eq_of_lt ht]
      rfl
    · rw[List.getElem?_append_right (by rw[hk];omega),hk]
      have h2:t-k<r.length*k:=by
        have:(x::r).length*k=r.length*k+k:=by simp[Nat.add_mul]
        omega
      rw[flat_enc hk k0 r (t-k) h2]
      have e1:t/k=(t-k)/k+1:=by
        rw[show t=t-k+k by omega,Nat.add_div_right _ k0];simp
      have e2:t%k=(t-k)%k:=by
        rw[show t=t-k+k by omega,Nat.add_mod_right];simp
      rw[e1,e2]
      rfl
theorem flatK_toList (hk:∀x,(enc x).length=k)(k0:0<k)(l:List α):(flatK enc k l.toArray).toList=(l.map enc).flatten:=by
  have hl:((l.map enc).flatten).length=l.length*k:=by
    induction l with
    |nil=>simp
    |cons x r ih=>simp only[List.map_cons,List.flatten_cons,List.length_append,hk,ih,List.length_cons,Nat.add_mul];omega
  apply List.ext_getElem?
  intro t
  by_cases ht:t<l.length*k
  · rw[flat_enc hk k0 l t ht]
    have h1:=get_flatK enc k l.toArray t (by simpa using ht)
    have h2:t<(flatK enc k l.toArray).size:=by simpa using ht
    rw[getElem!_pos _ t h2]at h1
    rw[Array.getElem?_toList,Array.getElem?_eq_getElem h2,h1]
    have h3:t%k<(enc (l[t/k]!)).length:=by rw[hk];exact Nat.mod_lt _ k0
    have h4:l.toArray[t/k]! =l[t/k]!:=by simp
    rw[h4,List.getElem?_eq_getElem h3]
    exact congrArg some (getElem!_pos (enc (l[t/k]!)) (t%k) h3)
  · rw[List.getElem?_eq_none (by simp;omega),List.getElem?_eq_none (by omega)]
theorem flat_const{β:Type}{enc:β→List Value}{R:Rep β}(hR:∀H cs x,R H cs x↔cs=enc x){H:Heaplet}{size:Nat}:∀{l:List β} {cells:List Value},Flat H R size cells l→cells=(l.map enc).flatten
  |[],_,h=>h
  | y::r,_,h=>by
    obtain⟨cs,more,rfl,_,h2,h3⟩:=h
    rw[(hR _ _ _).1 h2,flat_const hR h3];rfl
theorem flat_of_const{β:Type}{enc:β→List Value}{k:Nat}{R:Rep β}(hR:∀H cs x,R H cs x↔cs=enc x)(hk:∀x,(enc x).length=k){H:Heaplet}:∀(l:List β),Flat H R k (l.map enc).flatten l
  |[]=>rfl
  |y::r=>⟨enc y,_,rfl,hk y,(hR _ _ _).2 rfl,flat_of_const hR hk r⟩
theorem sortL_length{cf:α→α→Int}(hO:SWO (ltOf cf))(l:List α):(sortL cf l).length=l.length:=by
  have h:=(pdq_sorts (ltOf cf) hO l.toArray 0 l.toArray.size (Lib.bitLen l.toArray.size) true true (Nat.zero_le _) (Nat.le_refl _) (Or.inl rfl)).1.1
  have e:ltOf cf=λx y=>decide (cf x y<0):=rfl
  rw[e]at h
  unfold sortL
  simpa using h
theorem Kept.grown{w w':World}(h:Kept [] w w'):∃q os,w'=grow (w.drewN q) os:=by
  refine⟨w'.drawn-w.drawn,w'.heap.extract w.heap.size w'.heap.size,?_⟩
  have h1:=h.drawn
  have hheap:w'.heap=w.heap++w'.heap.extract w.heap.size w'.heap.size:=by
    apply Array.ext_getElem?
    intro j
    by_cases hj:j<w.heap.size
    · rw[Array.getElem?_append_left hj];exact h.block j hj (by simp)
    · rw[Array.getElem?_append_right (by omega),Array.getElem?_extract]
      split
      · congr 1;omega
      · rw[Array.getElem?_eq_none (by omega)]
  have e:w'={heap:=w.heap++w'.heap.extract w.heap.size w'.heap.size,tape:=w.tape,drawn:=w.drawn+(w'.drawn-w.drawn),os:=w.os,output:=w.output}:=by
    obtain⟨a,b,c,d,o⟩:=w'
    simp only[World.mk.injEq]
    exact⟨hheap,h.tape,by simp only at h1⊢;omega,h.os,h.output⟩
  exact e
variable{P:Program}{ρ:Ren}
theorem sort_does (L:SlLaysF0.n6 P ρ)(k0:0<k)(aE:∀w,(isAgg (ρ.t 24)).run P w=.ok true w)(zE:∀w,(Go.sizeOf (ρ.t 24)).run P w=.ok k w){R:Rep α}(hR:∀H cs x,R H cs x↔cs=enc x)
    (hk:∀x,(enc x).length=k)(h1:∀x,∀v∈enc x,v.oneCell'=true)(cf:α→α→Int)(hO:SWO (ltOf cf)){g:Nat}(eg:∀args w,(callFunc g args).run P w=.ok (.enter g args) w)
    (hcmp:∀x y,Does P g #[.agg (enc x).toArray,.agg (enc y).toArray] [] (λ_ _=>none) (λu _ _=>u=.int .i64 (cf x y)))
    {HF H:Heaplet}{B:Nat}{E:TypeId}{v:Value}{l:List α}{K:Own}(hr:RowOf HF R B E k v l K)(hn:l.length<4611686018427387904):
    Does P (ρ.f 6) #[v,.func (.func g) #[] #[]] [K] H (λu K' H'=>∃K1,u=.tuple #[]∧K'= [K1]∧H=H'∧RowOf HF R B E k v (sortL cf l) K1∧(∀p∈K1,p.1∈ids K)):=by
  obtain⟨cells,⟨hlen,hrow⟩,hfl,hone⟩:=hr
  intro w ha hown
  rcases hrow with⟨rfl,hn0,rfl⟩|⟨b,cap,cur,rfl,rfl,hB,hcap,hcm,hsz,htake⟩
  · obtain rfl:l= []:=List.length_eq_zero_iff.1 hn0
    refine CallsIn.mono (callsIn_wide.2 (AnyF.slices_SortFunc_none L none 0 (.func (.func g) #[] #[]) w)) ?_
    rintro e w' ⟨rfl,rfl⟩
    refine⟨_,[[]],H,rfl,⟨[],rfl,rfl,rfl,?_,by simp⟩,?_⟩
    · have:sortL cf ([]:List α)= []:=List.length_eq_zero_iff.1 (by rw[sortL_length hO];rfl)
      rw[this];exact ZF _ _ _ _ _
    · have:=Mem.same (H:=H) ha hown
      simpa using this
  · have hcells:=flat_const hR hfl
    subst hcells
    have hw:w.heap[b]? =some (.cells cur E (0,0)):=hown.here (b,.cells cur E (0,0)) (by simp)
    have hblk:b<w.heap.size:=(Array.getElem?_eq_some_iff.1 hw).1
    have hH:HoldsK enc k w b 0 l.toArray:=by
      intro j hj
      have hj':j<l.length*k:=by simpa using hj
      refine⟨?_,?_⟩
      · unfold World.cell?
        simp only[hw,Nat.zero_add]
        have h2:j<(flatK enc k l.toArray).size:=by simpa using hj'
        have h3:cur[j]? =(flatK enc k l.toArray)[j]?:=by
          rw[←Array.getElem?_toList (xs:=flatK enc k l.toArray),flatK_toList hk k0,←htake,List.getElem?_take_of_lt hj',Array.getElem?_toList]
        simp only[Option.isSome_none,Bool.false_eq_true,if_false]
        rw[h3,Array.getElem?_eq_getElem h2,getElem!_pos _ j h2];rfl
      · simp[World.frozen?,hw]
    have hcl:CmpLays P g #[] enc k cf b 0 l.toArray.size w:=λm os dk hs x y=>by
      have h:=callsIn_wide.1 (hcmp x y (sortWorldK enc k w b 0 m dk os) (λ_ _ _ e=>by cases e) ⟨by simp,by simp[ids],by simp⟩)
      refine(show Calls P g (#[.agg (enc x).toArray,.agg (enc y).toArray]++ #[]) _ _ from h).mono λe w' ⟨v,K',H',he,hv,hm⟩=>⟨by rw[he,hv],?_⟩
      exact(show Kept [] _ w' from hm.kept).grown
    refine CallsIn.mono (callsIn_wide.2 (AnyQ.slices_SortFunc_eq L k aE zE enc hk h1 cf hO g #[] b 0 cap l.toArray w eg hcl hH hblk (by simpa using hn))) ?_
    rintro e w' ⟨rfl,m,os,rfl⟩
    have hd:(pdq (ltOf cf) l.toArray 0 l.toArray.size (Lib.bitLen l.toArray.size) true true)=(sortL cf l).toArray:=by
      have e:ltOf cf=λx y=>decide (cf x y<0):=rfl
      rw[e];simp[sortL]
    rw[hd]
    have hl2:=sortL_length hO l
    obtain⟨cur',hcur'⟩:∃c,c=putCells id 0 (flatK enc k (sortL cf l).toArray) cur:=⟨_,rfl⟩
    have hs':cur'.size=cur.size:=by rw[hcur'];simp[putCells]
    have hheap:∀j,j<w.heap.size→(sortWorldK enc k w b 0 m (sortL cf l).toArray os).heap[j]? =if b=j then some (.cells cur' E (0,0))else w.heap[j]?:=λj hj=>by
      show(w.heap.modify b (onCells (putCells id 0 (flatK enc k (sortL cf l).toArray)))++os)[j]? =_
      rw[Array.getElem?_append_left (by simpa using hj),Array.getElem?_modify]
      split
      · rename_i e;subst e;rw[hw,hcur'];rfl
      · rfl
    refine⟨_,[[(b,.cells cur' E (0,0))]],H,rfl,⟨_,rfl,rfl,rfl,⟨((sortL cf l).map enc).flatten,⟨?_,.inr ⟨b,cap,cur',by rw[hl2],rfl,hB,by omega,hcm,by rw[hs'];exact hsz,?_⟩⟩,flat_of_const hR hk _,?_⟩,by simp[ids]⟩,?_⟩
    · rw[←flatK_toList hk k0];simp
    · rw [←flatK_toList hk k0]
      apply List.ext_getElem?
      intro j
      by_cases hj:j<(sortL cf l).length*k
      · rw[List.getElem?_take_of_lt hj,Array.getElem?_toList,Array.getElem?_toList,hcur']
        have h2:j<(flatK enc k (sortL cf l).toArray).size:=by simpa using hj
        have h3:j<cur.size:=by
          exact Nat.lt_of_lt_of_le hj (Nat.le_trans (Nat.mul_le_mul_right _ (by omega)) hsz)
        simp only[putCells,Array.getElem?_mapIdx,Array.getElem?_eq_getElem h3,Array.getElem?_eq_getElem h2,Option.map_some,Nat.zero_le,true_and,Nat.zero_add,h2,if_true,Nat.sub_zero,id]
        rw[getElem!_pos _ j h2]
      · rw[List.getElem?_eq_none (by simp;omega),List.getElem?_eq_none (by simp;omega)]
    · intro u hu
      rw[List.mem_flatten]at hu
      obtain⟨s,hs,hu⟩:=hu
      obtain⟨x,_,rfl⟩:=List.mem_map.1 hs
      exact h1 x u hu
    · have hap:=λo=>hown.apart (b,.cells cur E (0,0)) (by simp) o
      refine⟨λb' o v' e=> ?_,⟨?_,by simp[ids],λp hp o=> ?_⟩,⟨rfl,rfl,rfl,?_,?_,?_⟩,λp hp=>.inl (by simp at hp;simp[hp,ids]),Hle.refl _,λ_ _ _=>rfl,Mem.soft0⟩
      · have hne:b≠b':=λhb=>by subst hb;rw[hap]at e;cases e
        have h0:=ha _ _ _ e
        have hlt:b'<w.heap.size:=by
          unfold World.cell? at h0
          cases hh:w.heap[b']? with
          |none=>simp[hh]at h0
          |some o=>exact(Array.getElem?_eq_some_iff.1 hh).1
        unfold World.cell? at h0⊢
        simp only[hheap b' hlt,if_neg hne]
        exact h0
      · intro p hp
        simp at hp;subst hp
        rw[hheap b hblk,if_pos rfl]
      · simp at hp;subst hp;exact hap o
      · show w.heap.size≤(w.heap.modify b _++os).size
        simp
      · show w.drawn≤w.drawn+m
        omega
      · intro j hj hnj
        rw[hheap j hj,if_neg (λe=>hnj (by simp[ids,e]))]
end
end Go.Ow
