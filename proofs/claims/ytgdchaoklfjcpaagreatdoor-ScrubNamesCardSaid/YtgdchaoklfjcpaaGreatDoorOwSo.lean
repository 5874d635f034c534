import Derived.Test.YtgdchaoklfjcpaaGreatDoorOwMb
import Derived.Test.YtgdchaoklfjcpaaGreatDoorOwMf
import Derived.Shelf.SlSortCmp.NoneTotal
/- Proved: slices.SortFunc at structs, by the shelf's contract: an own row is sorted in place by a function that computes. -/
set_option linter.unusedSimpArgs false
set_option linter.unusedVariables false
namespace Go.Ow
open Go.Shelf Go.RowKit Go.Lib Go.Sort Go.Proofs
section
variable{α:Type} [Inhabited α]{enc:α->List Value}{k:Nat}
theorem ZLi (a:∀x,(enc x).length=k)(b:0<k):∀(l:List α) (t:Nat),t<l.length*k->(l.map enc).flatten[t]? =(enc<|l[t/k]!)[t%k]?
  |[],t,h=>by simp at h
  | x ::r,t,h=>by
    simp only[Tp,TP];by_cases ht:t<k
    . rw[SH (by rw[a];exact ht),Nat.div_eq_of_lt ht,Tt ht];rfl
    . rw[Sc (by rw[a];omega),a];have h2:t-k<r.length*k:=by
        have:(x::r).length*k=r.length*k+k:=(by simp[TU]);omega
      rw[ZLi a b r (t-k) h2];have e1:t/k=(t-k)/k+1:=by
        rw[show t=t-k+k by omega,Nat.add_div_right _ b];simp
      have e2:t%k=(t-k)%k:=by
        rw[show t=t-k+k by omega,Nat.add_mod_right];simp
      rw[e1,e2];rfl
theorem G8 (h:∀x,(enc x).length=k)(a:0<k)(l:List α):(flatK enc k l.toArray).toList=(l.map enc).flatten:=by
  have c:((l.map enc).flatten).length=l.length*k:=by
    induction l with
    |nil=>simp
    |cons x r i=>simp only[Tp,TP,TG,h,i,Ts,TU];omega
  apply Tl;intro t;by_cases ht:t<l.length*k
  . rw[ZLi h a l t ht];have h1:=get_flatK enc k l.toArray t (by simpa using ht);have h2:t<(flatK enc k l.toArray).size:=(by simpa using ht);rw[getElem!_pos _ t h2]at h1;rw[Sa,T9 h2,h1];have h3:t%k<(enc<|l[t/k]!).length:=(by rw[h];exact Nat.mod_lt _ a);have b:l.toArray[t/k]! =l[t/k]!:=(by simp);rw[b,TL h3];exact congrArg some<|getElem!_pos (enc<|l[t/k]!) (t%k) h3
  . rw[Tz (by simp;omega),Tz<|by omega]
theorem ZCR{a:Type}{enc:a->List Value}{R:Rep a}(b:∀H cs x,R H cs x↔cs=enc x){H:Heaplet}{size:Nat}:∀{l:List a} {cells:List Value},Flat H R size cells l->cells=(l.map enc).flatten
  |[],_,h=>h
  | y::r,_,h=>by
    obtain⟨cs,m,rfl,_,h2,h3⟩:=h;rw[(b _ _ _).1 h2,ZCR b h3];rfl
theorem Jn{a:Type}{enc:a->List Value}{k:Nat}{R:Rep a}(h:∀H cs x,R H cs x↔cs=enc x)(b:∀x,(enc x).length=k){H:Heaplet}:∀(l:List a),Flat H R k (l.map enc).flatten l
  |[]=>rfl
  |y::r=>⟨enc y,_,rfl,b y,(h _ _ _).2 rfl,Jn h b r⟩
theorem ZCt{cf:α->α->Int}(a:SWO (ltOf cf))(l:List α):(sortL cf l).length=l.length:=by
  have h:=(pdq_sorts (ltOf cf) a l.toArray 0 l.toArray.size (Lib.bitLen l.toArray.size) true true (TQ _) (TF _)<|Or.inl rfl).1.1;have e:ltOf cf=λx y=>decide (cf x y<0):=rfl;rw[e]at h;unfold sortL;simpa using h
theorem Kept.grown{w f:World}(h:Kept [] w f):∃q os,f=grow (w.drewN q) os:=by
  refine⟨f.drawn-w.drawn,f.heap.extract w.heap.size f.heap.size,?_⟩;have h1:=h.drawn;have g:f.heap=w.heap++f.heap.extract w.heap.size f.heap.size:=by
    apply Array.ext_getElem?;intro j;by_cases i:j<w.heap.size
    . rw[Array.getElem?_append_left i];exact h.block j i<|by simp
    . rw[Array.getElem?_append_right (by omega),Array.getElem?_extract];split
      . congr 1;omega
      . rw[Sh<|by omega]
  have e:f={heap:=w.heap++f.heap.extract w.heap.size f.heap.size,tape:=w.tape,drawn:=w.drawn+(f.drawn-w.drawn),os:=w.os,output:=w.output}:=by
    obtain⟨a,b,c,d,o⟩:=f;simp only[World.mk.injEq];exact⟨g,h.tape,by simp only at h1|-;omega,h.os,h.output⟩
  exact e
variable{P:Program}{ρ:Ren}
theorem ZOJ (L:SlLaysF0.n6 P ρ)(S:0<k)(aE:∀w,(isAgg<|ρ.t 24).run P w=.ok true w)(zE:∀w,(Go.sizeOf<|ρ.t 24).run P w=.ok k w){R:Rep α}(hR:∀H cs x,R H cs x↔cs=enc x)
    (D:∀x,(enc x).length=k)(h1:∀x,∀v∈enc x,v.oneCell'=true)(cf:α->α->Int)(T:SWO (ltOf cf)){g:Nat}(eg:∀args w,(callFunc g args).run P w=.ok (.enter g args) w)
    (F:∀x y,Does P g #[.agg (enc x).toArray,.agg (enc y).toArray] [] (λ_ _=>none) λu _ _=>u=.int .i64 (cf x y))
    {HF H:Heaplet}{B:Nat}{E:TypeId}{v:Value}{l:List α}{K:Own}(hr:RowOf HF R B E k v l K)(hn:l.length<4611686018427387904):
    Does P (ρ.f 6) #[v,.func (.func g) #[] #[]] [K] H (λu K' H'=>∃U,u=.tuple #[]/\K'= [U]/\H=H'/\RowOf HF R B E k v (sortL cf l) U/\(∀p∈U,p.1∈ids K)):=by
  obtain⟨cells,⟨hlen,G⟩,V,hone⟩:=hr;intro w ha n;rcases G with⟨rfl,W,rfl⟩|⟨b,cap,cur,rfl,rfl,hB,hcap,X,I,C⟩
  . obtain rfl:l= []:=TT.1 W;refine CallsIn.mono (callsIn_wide.2<|AnyF.slices_SortFunc_none L none 0 (.func (.func g) #[] #[]) w) ?_;rintro e Y ⟨rfl,rfl⟩;refine⟨_,[[]],H,rfl,⟨[],rfl,rfl,rfl,?_,by simp⟩,?_⟩
    . have:sortL cf ([]:List α)= []:=TT.1 (by rw[ZCt T];rfl);rw[this];exact RowOf.nil _ _ _ _ _
    . have:=Mem.same (H:=H) ha n;simpa using this
  . have q:=ZCR hR V;subst q;have N:w.heap[b]? =some (.cells cur E (0,0)):=n.here (b,.cells cur E (0,0)) (by simp);have z:b<w.heap.size:=(TV.1 N).1;have hH:HoldsK enc k w b 0 l.toArray:=by
      intro j r;have J:j<l.length*k:=(by simpa using r);refine⟨?_,?_⟩
      . unfold World.cell?;simp only[N,Te];have h2:j<(flatK enc k l.toArray).size:=(by simpa using J);have h3:cur[j]? =(flatK enc k l.toArray)[j]?:=by
          rw[<-Sa (xs:=flatK enc k l.toArray),G8 D S,<-C,List.getElem?_take_of_lt J,Sa]
        simp only[Option.isSome_none,Rf,if_false];rw[h3,T9 h2,getElem!_pos _ j h2];rfl
      . simp[World.frozen?,N]
    have Z:CmpLays P g #[] enc k cf b 0 l.toArray.size w:=λm os dk hs x y=>by
      have h:=callsIn_wide.1 (F x y (sortWorldK enc k w b 0 m dk os) (λ_ _ _ e=>by cases e) ⟨by simp,by simp[ids],by simp⟩);refine(show Calls P g (#[.agg (enc x).toArray,.agg (enc y).toArray]++ #[]) _ _ from h).mono λe Y ⟨v,K',H',he,hv,hm⟩=>⟨by rw[he,hv],?_⟩;exact(show Kept [] _ Y from hm.kept).grown
    refine CallsIn.mono (callsIn_wide.2<|AnyQ.slices_SortFunc_eq L k aE zE enc D h1 cf T g #[] b 0 cap l.toArray w eg Z hH z (by simpa using hn)) ?_;rintro e Y ⟨rfl,m,os,rfl⟩;have hd:(pdq (ltOf cf) l.toArray 0 l.toArray.size (Lib.bitLen l.toArray.size) true true)=(sortL cf l).toArray:=by
      have e:ltOf cf=λx y=>decide (cf x y<0):=rfl;rw[e];simp[sortL]
    rw[hd];have hl2:=ZCt T l;obtain⟨i,a⟩:∃c,c=putCells id 0 (flatK enc k (sortL cf l).toArray) cur:=⟨_,rfl⟩;have hs':i.size=cur.size:=(by rw[a];simp[putCells]);have d:∀j,j<w.heap.size->(sortWorldK enc k w b 0 m (sortL cf l).toArray os).heap[j]? =if b=j then some (.cells i E (0,0))else w.heap[j]?:=λj r=>by
      show(w.heap.modify b (onCells<|putCells id 0<|flatK enc k (sortL cf l).toArray)++os)[j]? =_;rw[Array.getElem?_append_left (by simpa using r),S9];split
      . rename_i e;subst e;rw[N,a];rfl
      . rfl
    refine⟨_,[[(b,.cells i E (0,0))]],H,rfl,⟨_,rfl,rfl,rfl,⟨((sortL cf l).map enc).flatten,⟨?_,.inr ⟨b,cap,i,by rw[hl2],rfl,hB,by omega,X,by rw[hs'];exact I,?_⟩⟩,Jn hR D _,?_⟩,by simp[ids]⟩,?_⟩
    . rw[<-G8 D S];simp
    . rw [<-G8 D S];apply Tl;intro j;by_cases r:j<(sortL cf l).length*k
      . rw[List.getElem?_take_of_lt r,Sa,Sa,a];have h2:j<(flatK enc k (sortL cf l).toArray).size:=(by simpa using r);have h3:j<cur.size:=by
          exact Tj r<|TS (TN _<|by omega) I
        simp only[putCells,Array.getElem?_mapIdx,T9 h3,T9 h2,S7,TQ,Rj,Te,h2,if_true,Nat.sub_zero,id];rw[getElem!_pos _ j h2]
      . rw[Tz (by simp;omega),Tz (by simp;omega)]
    . intro u O;rw[Sd]at O;obtain⟨s,hs,O⟩:=O;obtain⟨x,_,rfl⟩:=T7.1 hs;exact h1 x u O
    . have M:=λo=>n.apart (b,.cells cur E (0,0)) (by simp) o;refine⟨λQ o v' e=> ?_,⟨?_,by simp[ids],λp A o=> ?_⟩,⟨rfl,rfl,rfl,?_,?_,?_⟩,λp A=>.inl (by simp at A;simp[A,ids]),Rz _,λ_ _ _=>rfl,PF⟩
      . have hne:b≠Q:=λhb=>(by subst hb;rw[M]at e;cases e);have h0:=ha _ _ _ e;have hlt:Q<w.heap.size:=by
          unfold World.cell? at h0;cases hh:w.heap[Q]? with
          |none=>simp[hh]at h0
          |some o=>exact(TV.1 hh).1
        unfold World.cell? at h0|-;simp only[d Q hlt,TK hne];exact h0
      . intro p A;simp at A;subst A;rw[d b z,TJ rfl]
      . simp at A;subst A;exact M o
      . show w.heap.size<=(w.heap.modify b _++os).size;simp
      . show w.drawn<=w.drawn+m;omega
      . intro j r hnj;rw[d j r,TK λe=>hnj<|by simp[ids,e]]
end
end Go.Ow
