import Derived.Test.YtgiefadcpnegcaaGreatOwMb
import Derived.HandedShaped
import Derived.Test.YtgiefadcpnegcaaGreatOwMc
/-
  What is proved here: what a reading of an argument says, where no slice that is met takes more than the form's reach.
-/
set_option linter.unusedSimpArgs false
set_option linter.unusedVariables false
namespace Go.Ow
open Go.ChangeShapes Go.WideShapes Go.ChangeAt Go.RowKit
section
variable{H:Type}{enc:TypeId×Value→H}{P:Program}{W:World}{B:Bulk H}
def Fits (P:Program)(t:TypeId)(d:DataW H):Prop:=(d.weights P t).all (· ≤reachBytes)=true
def FitsEach (P:Program)(ts:List TypeId)(ds:List (DataW H)):Prop:=(DataW.weightsEach P ts ds).all (· ≤reachBytes)=true
theorem fits_cons{t:TypeId}{ts:List TypeId}{d:DataW H}{ds:List (DataW H)}(h:FitsEach P (t::ts) (d::ds)):Fits P t d∧FitsEach P ts ds:=by
 unfold FitsEach at h
 rw[DataW.weightsEach,List.all_append,Bool.and_eq_true]at h
 exact h
theorem fits_all{e:TypeId}:∀{ds:List (DataW H)},(DataW.weightsAll P e ds).all (· ≤reachBytes)=true→∀d∈ds,Fits P e d
  |[],_,d,hd=>by cases hd
  | x::r,h,d,hd=>by
    rw[DataW.weightsAll,List.all_append,Bool.and_eq_true]at h
    rcases List.mem_cons.1 hd with rfl|hd
    · exact h.1
    · exact fits_all h.2 d hd
theorem fits_slice{t e:TypeId}{a b:List (DataW H)}(ht:P.underlying t=some (.slice e))(hb:1≤P.bytesOf e)(h:Fits P t (.slice a b)):a.length≤reachBytes∧∀d∈a,Fits P e d:=by
 unfold Fits at h
 rw[DataW.weights,ht]at h
 simp only[List.all_cons,List.all_append,Bool.and_eq_true,decide_eq_true_eq]at h
 refine⟨?_,fits_all h.2.1⟩
 have:=Nat.le_mul_of_pos_right (a.length+b.length) hb
 omega
theorem fits_agg{t:TypeId}{fs:Array Field}{parts:List (DataW H)}(ht:P.underlying t=some (.struct fs))(h:Fits P t (.agg parts)):FitsEach P (fs.toList.map (·.type)) parts:=by
 unfold Fits at h
 rw[DataW.weights,ht]at h
 exact h
def ReadsF (enc:TypeId×Value→H)(P:Program)(W:World)(t:TypeId){α:Type}(R:Rep α)(size:Nat)(I:α→Prop):Prop:=
 ∀fuel cs d ps,DataW.trod enc P W 0 (λ_=>true) true fuel t cs=some (d,ps)→Fits P t d→∃x,R (HW W) cs x∧cs.length=size∧I x
theorem Reads.f{α:Type}{t:TypeId}{R:Rep α}{size:Nat}{big:α→Nat}{I:α→Prop}(h:Reads enc P W B t R size big I):ReadsF enc P W t R size I:=λfuel cs d ps e _=>by
 obtain⟨x,h1,h2,-,h3⟩:=h fuel cs d ps e;exact⟨x,h1,h2,h3⟩
theorem readsF_slice{α:Type}{t e:TypeId}{R:Rep α}{size:Nat}{I:α→Prop}(ht:P.underlying t=some (.slice e))(hc:P.cellsOf e=size)(hpos:0<size)(hb:1≤P.bytesOf e)(he:ReadsF enc P W e R size I):
    ∀fuel cs d ps,DataW.trod enc P W 0 (λ_=>true) true fuel t cs=some (d,ps)→Fits P t d→∃ao n cap,cs= [.slice ao n cap]∧∃l,IsSlice (HW W) R size (.slice ao n cap) l∧l.length≤reachBytes∧∀x∈l,I x:=λfuel cs d ps h hF=>by
  rcases DataW.trod_slice ht h with⟨rfl,hx⟩|⟨a,len,cap,elems,rst,m,_,rfl,hx,_,hlc,hcm,hlen,hel,hrest,_⟩
  · exact⟨none,0,0,rfl,[],IsSlice.nil _ _ _,Nat.zero_le _,by simp⟩
  · simp only [Prod.mk.injEq]at hx
    rw[hx.1]at hF
    obtain⟨hF1,hF2⟩:=fits_slice ht hb hF
    have hspot:cap=0∨a.spot=none:=by
      by_cases h0:cap=0
      · exact .inl h0
      right
      have hsome:∃cs',W.cells? 0 a (P.cellsOf e)=some cs':=by
        by_cases hl:len=0
        · subst hl
          obtain⟨hr1,hr2⟩:=hrest rfl
          have:=hr2 0 (by omega)
          have h3:(rst[0]?).isSome=true:=by rw[List.getElem?_eq_getElem (by omega)];rfl
          rw[←this]at h3
          cases h4:W.cells? 0 (a.add ((0+0)*P.cellsOf e)) (P.cellsOf e)with
          |none=>rw[h4]at h3;simp at h3
          |some c=>exact⟨c,by simpa[Addr.add]using h4⟩
        · have:=hel 0 (by omega)
          have h3:(elems[0]?).isSome=true:=by rw[List.getElem?_eq_getElem (by omega)];rfl
          rw[←this]at h3
          cases h4:W.cells? 0 (a.add (0*P.cellsOf e)) (P.cellsOf e)with
          |none=>rw[h4]at h3;simp at h3
          |some c=>exact⟨c,by simpa[Addr.add]using h4⟩
      obtain⟨cs',hcs'⟩:=hsome
      obtain⟨_,hl',hc'⟩:=World.cells?_some hcs'
      have:=hc' 0 (by omega)
      have h5:(cs'[0]?).isSome=true:=by rw[List.getElem?_eq_getElem (by omega)];rfl
      rw[←this]at h5
      have h6:a.add 0=a:=by simp[Addr.add]
      rw[h6]at h5
      cases hs:a.spot with
      |none=>rfl
      | some s=>
        unfold World.cell? at h5
        rw[hs]at h5
        split at h5<;>simp at h5
    have key:∀(k:Nat),k≤len→∃l:List α,l.length=k∧(∀x∈l,I x)∧
        ∀i y,l[i]? =some y→∃cs,W.cells? 0 (a.add (i*size)) size=some cs∧R (HW W) cs y∧cs.length=size:=by
      intro k
      induction k with
      |zero=>intro _;exact⟨[],rfl,by simp,by simp⟩
      | succ k ih=>
        intro hk
        obtain⟨l,hl,hI,hi⟩:=ih (by omega)
        have h1:=hel k (by omega)
        have hk':k<elems.length:=by omega
        rw[List.getElem?_eq_getElem hk']at h1
        cases h4:W.cells? 0 (a.add (k*P.cellsOf e)) (P.cellsOf e)with
        |none=>rw[h4]at h1;simp at h1
        | some c=>
          rw[h4]at h1
          simp only[Option.bind_some]at h1
          obtain⟨y,hy1,hy2,hy4⟩:=he m c elems[k].1 elems[k].2 h1 (hF2 _ (List.mem_map_of_mem (List.getElem_mem hk')))
          refine⟨l++ [y],by simp[hl],?_,?_⟩
          · intro x hx
            rcases List.mem_append.1 hx with hx|hx
            · exact hI x hx
            · simp at hx;subst hx;exact hy4
          · intro i z hz
            by_cases hi':i<k
            · rw[List.getElem?_append_left (by omega)]at hz
              exact hi i z hz
            · have hik:i=k:=by
                have:=(List.getElem?_eq_some_iff.1 hz).1
                simp at this;omega
              subst hik
              rw[List.getElem?_append_right (by omega)]at hz
              simp[hl]at hz;subst hz
              exact⟨c,by rw[←hc];exact h4,hy1,hy2⟩
    obtain⟨l,hl,hI,hi⟩:=key len (Nat.le_refl _)
    refine⟨some a,len,cap,rfl,l,⟨some a,cap,by rw[hl],by omega,hcm,λa' e'=> ?_,λe'=>(by cases e'),λi y hy=> ?_⟩,?_,hI⟩
    · cases e';exact hspot
    · have hlt:=(List.getElem?_eq_some_iff.1 hy).1
      have hsp:a.spot=none:=hspot.resolve_left (by omega)
      obtain⟨b,o,s⟩:=a
      simp at hsp;subst hsp
      obtain⟨cs,h1,h2,h3⟩:=hi i y hy
      refine⟨b,o,cs,rfl,h3,h2,λj u hu=> ?_⟩
      obtain⟨_,_,h5⟩:=World.cells?_some h1
      have hj:j<size:=by have:=(List.getElem?_eq_some_iff.1 hu).1;omega
      have h6:=h5 j hj
      rw[hu]at h6
      have e1:(Addr.add (Addr.add ⟨b,o,none⟩ (i*size)) j)=⟨b,o+i*size+j,none⟩:=by
        unfold Addr.add;split<;>split<;>simp_all
      rw[e1]at h6
      exact h6
    · rw[List.length_map]at hF1;omega
theorem readsF_sl{α:Type}{t e:TypeId}{R:Rep α}{size:Nat}{I:α→Prop}(ht:P.underlying t=some (.slice e))(hc:P.cellsOf e=size)(hpos:0<size)(hb:1≤P.bytesOf e)(he:ReadsF enc P W e R size I):
 ReadsF enc P W t (RSl R size) 1 (λl=>l.length≤reachBytes∧∀x∈l,I x):=λfuel cs d ps h hF=>by
 obtain⟨ao,n,cap,rfl,l,h1,h2,h3⟩:=readsF_slice ht hc hpos hb he fuel cs d ps h hF
 exact⟨l,⟨_,rfl,h1⟩,rfl,h2,h3⟩
def fit_Write (x:Write):Prop:=InI64 x.At∧x.Data.length≤reachBytes∧∀y∈x.Data,True
theorem readsF_Write{t:TypeId}{fs:Array Field}{f0 f1:Field}(ht:P.underlying t=some (.struct fs))(hN:P.cellsOf t=2)(hk:fs.size=2)(hl:fs.toList= [f0,f1])
 (g0:fs[0]? =some f0∧f0.offset=0∧P.cellsOf f0.type=1)(r0:ReadsF enc P W f0.type RInt 1 InI64)
 (g1:fs[1]? =some f1∧f1.offset=1∧P.cellsOf f1.type=1)(r1:ReadsF enc P W f1.type (RSl RU8 1) 1 (λl=>l.length≤reachBytes∧∀x∈l,(λ_=>True) x)):
 ReadsF enc P W t R_Write 2 fit_Write:=λfuel cs d ps h hF=>by
 obtain⟨xs,n,_,hx,hlen,hxl,hf⟩:=DataW.trod_struct ht h
 rw[hN]at hlen
 rw[hk]at hxl
 match xs,hxl with
 |[x0,x1],_=>
 match cs,hlen with
 |[c0,c1],_=>
 simp only[Prod.mk.injEq]at hx
 rw[hx.1]at hF
 have hF:=fits_agg ht hF
 rw[hl]at hF
 obtain⟨F0,hF⟩:=fits_cons hF
 obtain⟨F1,-⟩:=fits_cons hF
 obtain⟨y0,a0,_,i0⟩:=r0 n [c0] x0.1 x0.2 (by have e:=hf 0 _ g0.1;rw[g0.2.1,g0.2.2]at e;exact e) F0
 obtain rfl:c0=.int .i64 y0:=by have e: [c0]= [.int .i64 y0]:=a0;simpa using e
 obtain⟨y1,a1,_,i1⟩:=r1 n [c1] x1.1 x1.2 (by have e:=hf 1 _ g1.1;rw[g1.2.1,g1.2.2]at e;exact e) F1
 obtain⟨u1,e,a1⟩:=a1
 obtain rfl:c1=u1:=by simpa using e
 exact⟨⟨y0,y1⟩,⟨_,rfl,a1⟩,rfl,⟨i0,i1⟩⟩
def fit_Disk (x:Disk):Prop:=(x.Blocks.length≤reachBytes∧∀b∈x.Blocks,b.length≤reachBytes∧∀y∈b,True)∧(x.Waits.length≤reachBytes∧∀w∈x.Waits,fit_Write w)
theorem readsF_Disk{t:TypeId}{fs:Array Field}{f0 f1:Field}(ht:P.underlying t=some (.struct fs))(hN:P.cellsOf t=2)(hk:fs.size=2)(hl:fs.toList= [f0,f1])
 (g0:fs[0]? =some f0∧f0.offset=0∧P.cellsOf f0.type=1)(r0:ReadsF enc P W f0.type (RSl (RSl RU8 1) 1) 1 (λl=>l.length≤reachBytes∧∀x∈l,(λl=>l.length≤reachBytes∧∀x∈l,(λ_=>True) x) x))
 (g1:fs[1]? =some f1∧f1.offset=1∧P.cellsOf f1.type=1)(r1:ReadsF enc P W f1.type (RSl R_Write 2) 1 (λl=>l.length≤reachBytes∧∀x∈l,fit_Write x)):
 ReadsF enc P W t R_Disk 2 fit_Disk:=λfuel cs d ps h hF=>by
 obtain⟨xs,n,_,hx,hlen,hxl,hf⟩:=DataW.trod_struct ht h
 rw[hN]at hlen
 rw[hk]at hxl
 match xs,hxl with
 |[x0,x1],_=>
 match cs,hlen with
 |[c0,c1],_=>
 simp only[Prod.mk.injEq]at hx
 rw[hx.1]at hF
 have hF:=fits_agg ht hF
 rw[hl]at hF
 obtain⟨F0,hF⟩:=fits_cons hF
 obtain⟨F1,-⟩:=fits_cons hF
 obtain⟨y0,a0,_,i0⟩:=r0 n [c0] x0.1 x0.2 (by have e:=hf 0 _ g0.1;rw[g0.2.1,g0.2.2]at e;exact e) F0
 obtain⟨u0,e,a0⟩:=a0
 obtain rfl:c0=u0:=by simpa using e
 obtain⟨y1,a1,_,i1⟩:=r1 n [c1] x1.1 x1.2 (by have e:=hf 1 _ g1.1;rw[g1.2.1,g1.2.2]at e;exact e) F1
 obtain⟨u1,e,a1⟩:=a1
 obtain rfl:c1=u1:=by simpa using e
 exact⟨⟨y0,y1⟩,⟨_,_,rfl,a0,a1⟩,rfl,⟨i0,i1⟩⟩
def fit_Store (x:Store):Prop:=fit_Disk x.Disk∧(x.Space.length≤reachBytes∧∀y∈x.Space,True)∧True∧True
theorem readsF_Store{t:TypeId}{fs:Array Field}{f0 f1 f2 f3:Field}(ht:P.underlying t=some (.struct fs))(hN:P.cellsOf t=5)(hk:fs.size=4)(hl:fs.toList= [f0,f1,f2,f3])
 (g0:fs[0]? =some f0∧f0.offset=0∧P.cellsOf f0.type=2)(r0:ReadsF enc P W f0.type R_Disk 2 fit_Disk)
 (g1:fs[1]? =some f1∧f1.offset=2∧P.cellsOf f1.type=1)(r1:ReadsF enc P W f1.type (RSl RU8 1) 1 (λl=>l.length≤reachBytes∧∀x∈l,(λ_=>True) x))
 (g2:fs[2]? =some f2∧f2.offset=3∧P.cellsOf f2.type=1)(r2:ReadsF enc P W f2.type RU32 1 (λ_=>True))
 (g3:fs[3]? =some f3∧f3.offset=4∧P.cellsOf f3.type=1)(r3:ReadsF enc P W f3.type RU32 1 (λ_=>True)):
 ReadsF enc P W t R_Store 5 fit_Store:=λfuel cs d ps h hF=>by
 obtain⟨xs,n,_,hx,hlen,hxl,hf⟩:=DataW.trod_struct ht h
 rw[hN]at hlen
 rw[hk]at hxl
 match xs,hxl with
 |[x0,x1,x2,x3],_=>
 match cs,hlen with
 |[c0,c1,c2,c3,c4],_=>
 simp only[Prod.mk.injEq]at hx
 rw[hx.1]at hF
 have hF:=fits_agg ht hF
 rw[hl]at hF
 obtain⟨F0,hF⟩:=fits_cons hF
 obtain⟨F1,hF⟩:=fits_cons hF
 obtain⟨F2,hF⟩:=fits_cons hF
 obtain⟨F3,-⟩:=fits_cons hF
 obtain⟨y0,a0,_,i0⟩:=r0 n [c0,c1] x0.1 x0.2 (by have e:=hf 0 _ g0.1;rw[g0.2.1,g0.2.2]at e;exact e) F0
 obtain⟨w0_0,w0_1,e,h0_0,h0_1⟩:=a0
 simp only[List.cons.injEq,and_true]at e
 obtain⟨rfl,rfl⟩:=e
 obtain⟨y1,a1,_,i1⟩:=r1 n [c2] x1.1 x1.2 (by have e:=hf 1 _ g1.1;rw[g1.2.1,g1.2.2]at e;exact e) F1
 obtain⟨u1,e,a1⟩:=a1
 obtain rfl:c2=u1:=by simpa using e
 obtain⟨y2,a2,_,i2⟩:=r2 n [c3] x2.1 x2.2 (by have e:=hf 2 _ g2.1;rw[g2.2.1,g2.2.2]at e;exact e) F2
 obtain rfl:c3=.int .u32 (y2.toNat:Int):=by have e: [c3]= [.int .u32 (y2.toNat:Int)]:=a2;simpa using e
 obtain⟨y3,a3,_,i3⟩:=r3 n [c4] x3.1 x3.2 (by have e:=hf 3 _ g3.1;rw[g3.2.1,g3.2.2]at e;exact e) F3
 obtain rfl:c4=.int .u32 (y3.toNat:Int):=by have e: [c4]= [.int .u32 (y3.toNat:Int)]:=a3;simpa using e
 exact⟨⟨y0,y1,y2,y3⟩,⟨_,_,_,rfl,h0_0,h0_1,a1⟩,rfl,⟨i0,i1,i2,i3⟩⟩
theorem argF_struct{r:Reach}{b0:Nat}{t:TypeId}{v:Value}{d:DataW H}{ps:List MemPlace}{α:Type}{fs:Array Field}{R:Rep α}{size:Nat}{I:α→Prop}(ht:P.underlying t=some (.struct fs))(he:ReadsF enc P W t R size I)
 (hval:Value.okWide P W r b0 t v)(hd:DataW.Trod enc P W 0 (λ_=>true) true t v d ps)(hF:Fits P t d):
 ∃cs:Array Value,v=.agg cs∧∃x,R (HW W) cs.toList x∧I x:=by
 obtain⟨cs,rfl,_⟩:=okWide_struct ht hval
 obtain⟨fuel,hf⟩:=hd
 obtain⟨x,h1,h2,h3⟩:=he fuel _ d ps hf hF
 exact⟨cs,rfl,x,by simpa[Value.cells]using h1,h3⟩
end
end Go.Ow
namespace Go.Ow
open Go.ChangeShapes Go.WideShapes Go.ChangeAt Go.RowKit
section
variable{H:Type}{enc:TypeId×Value→H}{P:Program}{W:World}{B:Bulk H}
end
end Go.Ow
namespace Go.Ow
def ptrB (p:Ptr):List UInt8:=leB p.At.toNat 1++leB p.Birth.toNat 3++leB p.Iv.toNat 4++leB p.Tag.toNat 4++leB p.Sum.toNat 4
theorem ptrB_length (p:Ptr):(ptrB p).length=16:=by simp only[ptrB,List.length_append,leB_length]
theorem write_step (p:Ptr)(i n k:Nat)(r:List UInt8)(hs:(A5.mk (1:Int) 3 4 4 4).l[i]? =some (k:Int))(hn:(A5.mk p.At (p.Birth.toNat:Int) (p.Iv.toNat:Int) (p.Tag.toNat:Int) (p.Sum.toNat:Int)).l[i]? =some (n:Int))
 (hi:i<5)(hr:r.length≤100)(h1:1≤k)(h4:k≤4)(hlt:n<256^k):ptr_Write_l1 p (A5.mk 1 3 4 4 4) (r,i)=some (.inl (r++leB n k,i+1)):=by
 unfold ptr_Write_l1
 dsimp only
 rw[decide_eq_true (show(i:Int)<5 by omega)]
 simp only[cond_true]
 rw[idx_eq (y:=(k:Int)) ⟨by omega,hs⟩,idx_eq (y:=(n:Int)) ⟨by omega,hn⟩,code_Put_eq h1 h4 hlt]
 simp only[Option.bind_some]
 rw[Zv (by simp only[leB_length,LIM];omega)]
theorem ptr_Write_eq{p:Ptr}(h:okR p):ptr_Write p=some (ptrB p,0):=by
 obtain⟨h1,h2,h3,h4⟩:=h
 have hb:p.Birth.toNat<256^3:=by
  have:=UInt32.le_iff_toNat_le.1 h4
  have e:(16777215:UInt32).toNat=16777215:=rfl
  rw[e]at this
  have e3:(256:Nat)^3=16777216:=by decide
  omega
 have e4:(256:Nat)^4=4294967296:=by decide
 have hloop:loop (ptr_Write_l1 p (A5.mk 1 3 4 4 4)) (([]:List UInt8),0)=some (ptrB p):=
  run5 (write_step p 0 p.At.toNat 1 [] rfl (by show some p.At=some _;rw[Int.toNat_of_nonneg (by omega)]) (by omega) (by simp) (by omega) (by omega) (by omega))
   (write_step p 1 p.Birth.toNat 3 _ rfl rfl (by omega) (by simp[leB_length]) (by omega) (by omega) hb)
   (write_step p 2 p.Iv.toNat 4 _ rfl rfl (by omega) (by simp[leB_length]) (by omega) (by omega) (by have:=u32_lt p.Iv;omega))
   (write_step p 3 p.Tag.toNat 4 _ rfl rfl (by omega) (by simp[leB_length]) (by omega) (by omega) (by have:=u32_lt p.Tag;omega))
   (write_step p 4 p.Sum.toNat 4 _ rfl rfl (by omega) (by simp[leB_length]) (by omega) (by omega) (by have:=u32_lt p.Sum;omega))
   (by unfold ptr_Write_l1;rfl)
 unfold ptr_Write
 rw[ptr_Check_eq',if_pos (.inr ⟨h1,h2,h3,h4⟩)]
 simp only[Option.bind_some,decide_true,Bool.not_true,cond_false,ptr_sizes]
 rw[hloop]
 rfl
def at5 (b:List UInt8):Ptr:=⟨(numB ((b.drop 0).take 1):Int),u32i (numB ((b.drop 1).take 3):Int),u32i (numB ((b.drop 4).take 4):Int),u32i (numB ((b.drop 8).take 4):Int),u32i (numB ((b.drop 12).take 4):Int)⟩
theorem ptr_Read_eq{b:List UInt8}(h:b.length=16):ptr_Read b=some (if isNone (at5 b)∨okR (at5 b)then(at5 b,0)else(⟨0,0,0,0,0⟩,8)):=by
 have g:∀(a k:Nat),1≤k→k≤4→a+k≤16→code_Get b (a:Int) (k:Int)=some ((numB ((b.drop a).take k):Int),0):=λa k h1 h4 h5=>code_Get_eq h1 h4 (by omega) (by omega)
 have hloop:loop (ptr_Read_l1 b (A5.mk 1 3 4 4 4)) (0,0,0,0,0,0,0)=some ((numB ((b.drop 0).take 1):Int),(numB ((b.drop 1).take 3):Int),(numB ((b.drop 4).take 4):Int),(numB ((b.drop 8).take 4):Int),(numB ((b.drop 12).take 4):Int)):=by
  have g0:=g 0 1 (by omega) (by omega) (by omega)
  have g1:=g 1 3 (by omega) (by omega) (by omega)
  have g2:=g 4 4 (by omega) (by omega) (by omega)
  have g3:=g 8 4 (by omega) (by omega) (by omega)
  have g4:=g 12 4 (by omega) (by omega) (by omega)
  generalize (numB ((b.drop 0).take 1):Int)=n0 at g0⊢
  generalize (numB ((b.drop 1).take 3):Int)=n1 at g1⊢
  generalize (numB ((b.drop 4).take 4):Int)=n2 at g2⊢
  generalize (numB ((b.drop 8).take 4):Int)=n3 at g3⊢
  generalize (numB ((b.drop 12).take 4):Int)=n4 at g4⊢
  refine run5 (s1:=(n0,0,0,0,0,1,1)) (s2:=(n0,n1,0,0,0,4,2)) (s3:=(n0,n1,n2,0,0,8,3)) (s4:=(n0,n1,n2,n3,0,12,4)) (s5:=(n0,n1,n2,n3,n4,16,5)) ?_ ?_ ?_ ?_ ?_ ?_
  · unfold ptr_Read_l1
    show Option.bind (code_Get b 0 1) _=_
    rw[show code_Get b 0 1=some (n0,0)from g0];rfl
  · unfold ptr_Read_l1
    show Option.bind (code_Get b 1 3) _=_
    rw[show code_Get b 1 3=some (n1,0)from g1];rfl
  · unfold ptr_Read_l1
    show Option.bind (code_Get b 4 4) _=_
    rw[show code_Get b 4 4=some (n2,0)from g2];rfl
  · unfold ptr_Read_l1
    show Option.bind (code_Get b 8 4) _=_
    rw[show code_Get b 8 4=some (n3,0)from g3];rfl
  · unfold ptr_Read_l1
    show Option.bind (code_Get b 12 4) _=_
    rw[show code_Get b 12 4=some (n4,0)from g4];rfl
  · unfold ptr_Read_l1;rfl
 unfold ptr_Read
 rw[decide_eq_true (show(b.length:Int)=16 by omega)]
 simp only[Bool.not_true,cond_false,ptr_sizes,Option.bind_some]
 rw[hloop]
 simp only[Option.bind_some]
 rw[show(Ptr.mk (numB ((b.drop 0).take 1):Int) (u32i (numB ((b.drop 1).take 3):Int)) (u32i (numB ((b.drop 4).take 4):Int)) (u32i (numB ((b.drop 8).take 4):Int)) (u32i (numB ((b.drop 12).take 4):Int)))=at5 b from rfl,ptr_Check_eq']
 by_cases c:isNone (at5 b)∨okR (at5 b)
 · rw[if_pos c,if_pos c];rfl
 · rw[if_neg c,if_neg c];rfl
def okP (p:Ptr):Prop:=isNone p∨okR p
instance (p:Ptr):Decidable (okP p):=by unfold okP;infer_instance
theorem isNone.eq{p:Ptr}(h:isNone p):p=noP:=by
 obtain⟨a,b,c,d,e⟩:=p
 obtain⟨h1,h2,h3,h4,h5⟩:=h
 simp only at h1 h2 h3 h4 h5
 subst h1;subst h2;subst h3;subst h4;subst h5;rfl
theorem ptrB_no:ptrB noP=List.replicate 16 0:=by decide+kernel
theorem write_no:ptr_Write noP=some (ptrB noP,0):=by decide+kernel
theorem ptr_Write_ok{p:Ptr}(h:okP p):ptr_Write p=some (ptrB p,0):=by
 rcases h with h|h
 · rw[h.eq];exact write_no
 · exact ptr_Write_eq h
theorem ptr_Write_bad{p:Ptr}(h:¬okP p):ptr_Write p=some ([],8):=by
 unfold ptr_Write
 rw[ptr_Check_eq',if_neg (show¬(isNone p∨okR p)from h)];rfl
theorem Ptr.ext_iff'{a b:Ptr}:a=b↔(a.At=b.At∧a.Birth=b.Birth∧a.Iv=b.Iv∧a.Tag=b.Tag∧a.Sum=b.Sum):=by
 constructor
 · intro h;subst h;exact⟨rfl,rfl,rfl,rfl,rfl⟩
 · intro h
   obtain⟨a1,a2,a3,a4,a5⟩:=a
   obtain⟨b1,b2,b3,b4,b5⟩:=b
   simp only at h
   obtain⟨rfl,rfl,rfl,rfl,rfl⟩:=h
   rfl
instance:DecidableEq Ptr:=λa b=>decidable_of_iff _ Ptr.ext_iff'.symm
theorem ptr_dec (a b:Ptr):(decide (a.At=b.At)&&(decide (a.Birth=b.Birth)&&(decide (a.Iv=b.Iv)&&(decide (a.Tag=b.Tag)&&(decide (a.Sum=b.Sum)&&true)))))=decide (a=b):=by
 rw[Bool.eq_iff_iff]
 simp only[Bool.and_eq_true,decide_eq_true_eq,and_true]
 exact Ptr.ext_iff'.symm
def rowF (y:Ptr)(r:List UInt8):Option (List UInt8 ⊕ (List UInt8 ⊕ Int)):=Option.bind (ptr_Write y) λx=>cond (!decide (x.2=0)) (some (.inr (.inr x.2))) (appN 256 r x.1 λq=>some (.inl q))
theorem flat_len (l:List Ptr):((l.map ptrB).flatten).length=16*l.length:=by
 induction l with
 |nil=>rfl
 |cons p r ih=>rw[List.map_cons,List.flatten_cons,List.length_append,ih,ptrB_length,List.length_cons];omega
theorem row_fold:∀(l:List Ptr) (r:List UInt8),r.length+16*l.length≤256→
    forL rowF l r=some (if∀p∈l,okP p then .inl (r++(l.map ptrB).flatten)else .inr (.inr 8))
  |[],r,_=>by simp[forL]
  | p ::l,r,h=>by
    rw[List.length_cons]at h
    by_cases hp:okP p
    · rw[forL_cons (s':=r++ptrB p) (by unfold rowF;rw[ptr_Write_ok hp,Option.bind_some,zdec,cond_false,appN_eq (by rw[ptrB_length];omega)]),row_fold l _ (by rw[List.length_append,ptrB_length];omega)]
      by_cases hl:∀q∈l,okP q
      · rw[if_pos hl,if_pos (λq hq=>by rcases List.mem_cons.1 hq with rfl|h;exact hp;exact hl q h)]
        simp
      · rw[if_neg hl,if_neg (λh=>hl (λq hq=>h q (by simp[hq])))]
    · rw[forL_stop (e:=.inr 8) (by unfold rowF;rw[ptr_Write_bad hp];rfl),if_neg (λh=>hp (h p (by simp)))]
def rowB (l:List Ptr):List UInt8:=(l.map ptrB).flatten++List.replicate (256-16*l.length) 0
theorem rowB_length{l:List Ptr}(h:l.length≤16):(rowB l).length=256:=by rw[rowB,List.length_append,flat_len,List.length_replicate];omega
theorem ptr_Row_eq{l:List Ptr}(h:l.length≤16):ptr_Row l=some (if∀p∈l,okP p then(rowB l,0)else([],8)):=by
  unfold ptr_Row
  rw[decide_eq_false (by omega),cond_false]
  rw [loop_each' l (λi r=>(r,i)) rowF (λr=>.inl r) (λi hi r=>by
    unfold ptr_Row_l1
    dsimp only
    rw[decide_eq_true (by omega),cond_true,ZW _ hi]
    unfold rowF
    cases ptr_Write l[i]with
    |none=>rfl
    | some x=>
      rw[Option.bind_some,Option.bind_some]
      cases hb:(!decide (x.2=0))with
      |true=>rfl
      | false=>
        rw[cond_false,cond_false]
        unfold appN
        split<;>rfl) (λr=>by
    unfold ptr_Row_l1
    dsimp only
    rw[decide_eq_false (by omega)];rfl) (lt_fuel h (by decide)) [],row_fold l [] (by simp;omega)]
  by_cases hl:∀q∈l,okP q
  · rw[if_pos hl,if_pos hl,Option.bind_some]
    show Option.bind (some (Sum.inl _)) _=_
    rw[Option.bind_some,Sum.elim_inl,List.nil_append,extO_eq (by rw[flat_len];omega)]
    unfold rowB
    rw[flat_len];rfl
  · rw[if_neg hl,if_neg hl];rfl
def rowsF (y:List UInt8)(s:List Ptr):Option (List Ptr ⊕ Int):=some (if okP (at5 y)then .inl (s++ [at5 y])else .inr 8)
theorem rows_r1{y:List UInt8}(h:y.length=16){s:List Ptr}(hs:s.length≤100):ptr_Rows_r1 y s=rowsF y s:=by
 unfold ptr_Rows_r1 rowsF
 rw[ptr_Read_eq h,Option.bind_some]
 by_cases c:okP (at5 y)
 · rw[if_pos (show isNone (at5 y)∨okR (at5 y)from c),if_pos c,zdec,cond_false,Zv (lim_le (by simp;omega))]
 · rw[if_neg (show¬(isNone (at5 y)∨okR (at5 y))from c),if_neg c];rfl
theorem rows_fold:∀(ys:List (List UInt8)) (s:List Ptr),(∀y∈ys,y.length=16)→s.length+ys.length≤100→
    forL ptr_Rows_r1 ys s=some (if∀y∈ys,okP (at5 y)then .inl (s++ys.map at5)else .inr 8)
  |[],s,_,_=>by simp[forL]
  | y ::ys,s,hy,hs=>by
    rw[List.length_cons]at hs
    have h1:=rows_r1 (hy y (by simp)) (s:=s) (by omega)
    by_cases c:okP (at5 y)
    · rw[forL_cons (s':=s++ [at5 y]) (by rw[h1];unfold rowsF;rw[if_pos c]),rows_fold ys _ (λz hz=>hy z (by simp[hz])) (by simp;omega)]
      by_cases hl:∀q∈ys,okP (at5 q)
      · rw[if_pos hl,if_pos (λq hq=>by rcases List.mem_cons.1 hq with rfl|h;exact c;exact hl q h)];simp
      · rw[if_neg hl,if_neg (λh=>hl (λq hq=>h q (by simp[hq])))]
    · rw[forL_stop (e:=8) (by rw[h1];unfold rowsF;rw[if_neg c]),if_neg (λh=>c (h y (by simp)))]
def ptrsOf (b:List UInt8):List Ptr:=(chunks 16 b.length b).map at5
def rowsB (b:List UInt8):List Ptr×Int:=if∀p∈ptrsOf b,okP p then(ptrsOf b,0)else([],8)
theorem chunks_count:∀(f:Nat) (b:List UInt8) (n:Nat),b.length≤f→b.length=16*n→(chunks 16 f b).length=n
  |0,b,n,h,e=>by simp[chunks];omega
  | f +1,b,n,h,e=>by
    by_cases hb:b= []
    · subst hb;rw[chunks_nil];simp at e⊢;omega
    · have:=List.length_pos_iff.2 hb
      obtain⟨n,rfl⟩:∃m,n=m+1:=⟨n-1,by omega⟩
      rw[chunks_step hb,List.length_cons,chunks_count f (b.drop 16) n (by rw[List.length_drop];omega) (by rw[List.length_drop];omega)]
theorem ptrsOf_length{b:List UInt8}(h:b.length=256):(ptrsOf b).length=16:=by unfold ptrsOf;rw[List.length_map,chunks_count _ b 16 (Nat.le_refl _) (by omega)]
theorem ptr_Rows_eq{b:List UInt8}(h:b.length=256):ptr_Rows b=some (rowsB b):=by
 unfold ptr_Rows
 rw[decide_eq_true (show(b.length:Int)=256 by omega)]
 rw[show(!true)=false from rfl,cond_false]
 unfold slices_Chunk_byte
 rw[if_pos ⟨by omega,by omega,lim_le (by omega)⟩,Option.bind_some,show(16:Int).toNat=16 from rfl,rows_fold _ [] (chunks_len (by omega) _ _ (Nat.le_refl _) (by omega)) (by rw[chunks_count _ b 16 (Nat.le_refl _) (by omega)];simp)]
 unfold rowsB ptrsOf
 by_cases hl:∀y∈chunks 16 b.length b,okP (at5 y)
 · rw[if_pos hl,if_pos (λp hp=>by obtain⟨y,hy,rfl⟩:=List.mem_map.1 hp;exact hl y hy)];rfl
 · rw[if_neg hl,if_neg (λh=>hl (λy hy=>h _ (List.mem_map_of_mem hy)))];rfl
theorem okP_no:okP noP:=.inl noP_none
end Go.Ow
namespace Go.Ow
def okO (o:Object):Prop:=((1:Int)≤(o.Kind.toNat:Int)∧(o.Kind.toNat:Int)≤7)∧(0≤o.Links∧o.Links≤255)∧(0≤o.Size∧o.Size≤3840)∧o.Data.length=15∧∀p∈o.Data,okP p
instance (o:Object):Decidable (okO o):=by unfold okO;infer_instance
def objB (o:Object):List UInt8:=([o.Kind,u8i o.Links]++leB o.Size.toNat 2)++List.replicate 12 0++(rowB o.Data).take 240
end Go.Ow
namespace Go.Ow
end Go.Ow
namespace Go.Ow
def dataM (p q:Ptr):List Ptr:=[p,noP,noP,noP,q,noP,noP,noP,noP,noP,noP,noP,noP,noP,noP]
structure Made (s:Store) (root at' p q:Ptr):Prop where
  ok:OKSt s
  hr:okR root
  ha:okR at'
  hp:okR p
  hq:okR q
  rb:root.Birth=5
  ab:at'.Birth=5
  pb:p.Birth=3
  qb:q.Birth=5
  lr:lookS s root=(rowB [noP,noP,at'],0)
  la:lookS s at'=(objB ⟨1,0,0,dataM p q⟩,0)
section told
variable{s:Store}{root at' p q:Ptr}(h:Made s root at' p q)
include h
end told
end Go.Ow
namespace Go.Ow
end Go.Ow
namespace Go.Ow
end Go.Ow
namespace Go.Ow
end Go.Ow
namespace Go.Ow
section
variable{s:Store}{p:Ptr}{b:List UInt8}{t:Store}{q:Ptr}{j:Nat}
end
end Go.Ow
namespace Go.Ow
def rotN (x k:Nat):Nat:=x%2^(32-k)*2^k+x/2^(32-k)
theorem rot_step{x:Nat}(h:x<4294967296)(i:Nat)(hi:i<15):2*rotN x i%4294967296+2*rotN x i/4294967296=rotN x (i+1)∧rotN x i<4294967296:=by
 have:i=0∨i=1∨i=2∨i=3∨i=4∨i=5∨i=6∨i=7∨i=8∨i=9∨i=10∨i=11∨i=12∨i=13∨i=14:=by omega
 rcases this with rfl|rfl|rfl|rfl|rfl|rfl|rfl|rfl|rfl|rfl|rfl|rfl|rfl|rfl|rfl<;>
  (simp only[rotN,Nat.reduceSub,Nat.reducePow,Nat.reduceAdd];omega)
theorem left_step{y:Nat}(h:y<4294967296):w64 (((w64 ((y:Int)*2)).tmod 4294967296)+(w64 ((w64 ((y:Int)*2)).tdiv 4294967296)))=((2*y%4294967296+2*y/4294967296:Nat):Int):=by
 have e:(y:Int)*2=((2*y:Nat):Int):=by omega
 rw[e,Zp (n:=((2*y:Nat):Int)) (by omega) (by omega),Int.tmod_eq_emod_of_nonneg (by omega),Int.tdiv_eq_ediv_of_nonneg (by omega),Zp (n:=((2*y:Nat):Int)/4294967296) (by omega) (by omega),Zp (by omega) (by omega)]
 omega
theorem ref_left_run{x n:Nat}(h:x<4294967296)(hn:n≤15):∀(k i f:Nat),i+k=n→k<f→run (ref02_left_l1 (n:Int)) f ((rotN x i:Int),(i:Int))=some (rotN x n:Int)
  | 0,i,f,hi,hf=>by
    obtain⟨f,rfl⟩:∃q,f=q+1:=⟨f-1,by omega⟩
    refine Zl ?_
    unfold ref02_left_l1
    dsimp only
    rw[decide_eq_false (by omega),cond_false,show i=n by omega]
  | k +1,i,f,hi,hf=>by
    obtain⟨f,rfl⟩:∃q,f=q+1:=⟨f-1,by omega⟩
    obtain⟨h1,h2⟩:=rot_step h i (by omega)
    rw[run_st (s':=((rotN x (i+1):Int),((i+1:Nat):Int))) (by
      unfold ref02_left_l1
      dsimp only
      rw[decide_eq_true (by omega),cond_true,left_step h2,h1,Zp (n:=(i:Int)+1) (by omega) (by omega)]
      rfl)]
    exact ref_left_run h hn k (i+1) f (by omega) (by omega)
theorem rotN_zero{x:Nat}(h:x<4294967296):rotN x 0=x:=by
 simp only[rotN,Nat.reduceSub,Nat.reducePow];omega
theorem u32i_nat' (n:Nat):u32i (n:Int)=UInt32.ofNat n:=by
 unfold u32i
 apply UInt32.toNat_inj.1
 rw[UInt32.toNat_ofNat',UInt32.toNat_ofNat'];omega
theorem ref_left_eq (p:UInt32){n:Nat}(hn:n≤15):ref02_left p (n:Int)=some (UInt32.ofNat (rotN p.toNat n)):=by
 have h:p.toNat<4294967296:=p.toNat_lt
 unfold ref02_left
 have:=ref_left_run h hn n 0 17 (by omega) (by omega)
 rw[rotN_zero h]at this
 rw[show loop (ref02_left_l1 (n:Int)) ((p.toNat:Int),0)=some (rotN p.toNat n:Int)from loop_of (by decide) this,Option.bind_some,u32i_nat']
theorem or_rot (p:UInt32){k:Nat}(h1:1≤k)(hk:k≤15):sl32 p k |||sr32 p (32-k)=UInt32.ofNat (rotN p.toNat k):=by
 have h:p.toNat<4294967296:=p.toNat_lt
 apply UInt32.toNat_inj.1
 rw[UInt32.toNat_or]
 unfold sl32 sr32
 rw[UInt32.toNat_ofNat',UInt32.toNat_ofNat',UInt32.toNat_ofNat',Nat.min_eq_left (by omega),Nat.min_eq_left (by omega)]
 have e:(2:Nat)^32=2^k*2^(32-k):=by rw[←Nat.pow_add,show k+(32-k)=32 by omega]
 have h2:p.toNat/2^(32-k)<2^k:=by rw[Nat.div_lt_iff_lt_mul (Nat.two_pow_pos _),←e];exact h
 have h3:p.toNat*2^k%2^32=2^k*(p.toNat%2^(32-k)):=by rw[e,Nat.mul_comm p.toNat,Nat.mul_mod_mul_left]
 have h4:p.toNat/2^(32-k)%2^32=p.toNat/2^(32-k):=Nat.mod_eq_of_lt (Nat.lt_of_le_of_lt (Nat.div_le_self _ _) h)
 have h5:rotN p.toNat k<2^32:=by
  unfold rotN
  have:p.toNat%2^(32-k)<2^(32-k):=Nat.mod_lt _ (Nat.two_pow_pos _)
  have:=Nat.mul_le_mul_right (2^k) (show p.toNat%2^(32-k)+1≤2^(32-k)from this)
  rw[Nat.add_mul,Nat.one_mul,Nat.mul_comm (2^(32-k)),←e]at this
  omega
 rw[h3,h4,←Nat.two_pow_add_eq_or_of_lt h2,Nat.mod_eq_of_lt h5]
 unfold rotN
 rw[Nat.mul_comm (2^k)]
theorem rl_eq (p:UInt32):math_bits_RotateLeft32 p 15=some (UInt32.ofNat (rotN p.toNat 15))∧math_bits_RotateLeft32 p 11=some (UInt32.ofNat (rotN p.toNat 11))∧
 math_bits_RotateLeft32 p 9=some (UInt32.ofNat (rotN p.toNat 9))∧math_bits_RotateLeft32 p 6=some (UInt32.ofNat (rotN p.toNat 6)):=by
 refine⟨?_,?_,?_,?_⟩
 · rw[←or_rot p (k:=15) (by omega) (by omega)];rfl
 · rw[←or_rot p (k:=11) (by omega) (by omega)];rfl
 · rw[←or_rot p (k:=9) (by omega) (by omega)];rfl
 · rw[←or_rot p (k:=6) (by omega) (by omega)];rfl
theorem ref_plus_eq (a b:UInt32):ref02_plus a b=some (a+b):=by
 have ha:a.toNat<4294967296:=a.toNat_lt
 have hb:b.toNat<4294967296:=b.toNat_lt
 unfold ref02_plus
 rw[Zp (by omega) (by omega),Int.tmod_eq_emod_of_nonneg (by omega)]
 congr 1
 rw[show(((a.toNat:Int)+(b.toNat:Int))%4294967296)=(((a.toNat+b.toNat)%4294967296:Nat):Int) by omega,u32i_nat']
 apply UInt32.toNat_inj.1
 rw[UInt32.toNat_ofNat',UInt32.toNat_add];omega
def turnP (x:A4 UInt32):A4 UInt32:=
 let a:=x.e0+x.e1
 let d:=UInt32.ofNat (rotN (x.e3^^^a).toNat 15)
 let c:=x.e2+d
 let b:=UInt32.ofNat (rotN (x.e1^^^c).toNat 11)
 let a2:=a+b
 let d2:=UInt32.ofNat (rotN (d^^^a2).toNat 9)
 let c2:=c+d2
 ⟨a2,UInt32.ofNat (rotN (b^^^c2).toNat 6),c2,d2⟩
theorem turned_eq (x:A4 UInt32):mix_words_turned x=some (turnP x):=by
 unfold mix_words_turned mix_words_turned_1
 simp only[(rl_eq _).1,(rl_eq _).2.1,(rl_eq _).2.2.1,(rl_eq _).2.2.2,Option.bind_some]
 rfl
theorem ref_turn_eq (x:A4 UInt32):ref02_Turn x=some (turnP x):=by
 unfold ref02_Turn
 simp only[ref_plus_eq,Option.bind_some,show∀p,ref02_left p 15=some (UInt32.ofNat (rotN p.toNat 15))from λp=>ref_left_eq p (n:=15) (by omega),show∀p,ref02_left p 11=some (UInt32.ofNat (rotN p.toNat 11))from λp=>ref_left_eq p (n:=11) (by omega),
  show∀p,ref02_left p 9=some (UInt32.ofNat (rotN p.toNat 9))from λp=>ref_left_eq p (n:=9) (by omega),show∀p,ref02_left p 6=some (UInt32.ofNat (rotN p.toNat 6))from λp=>ref_left_eq p (n:=6) (by omega)]
 rfl
def itP:Nat→A4 UInt32→A4 UInt32
 |0,x=>x
 |k+1,x=>itP k (turnP x)
theorem often_run{N:Nat}(hN:N≤100):∀(k i f:Nat) (x:A4 UInt32),i+k=N→k<f→run (mix_words_often_l1 (N:Int)) f (x.e0,x.e1,x.e2,x.e3,(i:Int))=some ((itP k x).e0,(itP k x).e1,(itP k x).e2,(itP k x).e3)
  | 0,i,f,x,hi,hf=>by
    obtain⟨f,rfl⟩:∃q,f=q+1:=⟨f-1,by omega⟩
    refine Zl ?_
    unfold mix_words_often_l1
    dsimp only
    rw[decide_eq_false (by omega)];rfl
  | k +1,i,f,x,hi,hf=>by
    obtain⟨f,rfl⟩:∃q,f=q+1:=⟨f-1,by omega⟩
    rw[run_st (s':=((turnP x).e0,(turnP x).e1,(turnP x).e2,(turnP x).e3,((i+1:Nat):Int))) (by
      unfold mix_words_often_l1
      dsimp only
      rw[decide_eq_true (by omega),cond_true,turned_eq,Option.bind_some,Zp (by omega) (by omega)];rfl)]
    exact often_run hN k (i+1) f (turnP x) (by omega) (by omega)
theorem often_eq (x:A4 UInt32){N:Nat}(hN:N≤100):mix_words_often x (N:Int)=some (itP N x):=by
 unfold mix_words_often
 rw[show loop (mix_words_often_l1 (N:Int)) (x.e0,x.e1,x.e2,x.e3,0)=some ((itP N x).e0,(itP N x).e1,(itP N x).e2,(itP N x).e3)from loop_of (n:=102) (by decide) (often_run hN N 0 102 x (by omega) (by omega)),Option.bind_some]
end Go.Ow
namespace Go.Ow
def padB (b:List UInt8):List UInt8:=(b++ [1])++List.replicate (pad8 (b.length+1)) 0
theorem padB_length (b:List UInt8):(padB b).length%8=0∧b.length<(padB b).length∧(padB b).length≤b.length+8:=by
 unfold padB pad8
 simp only[List.length_append,List.length_cons,List.length_nil,List.length_replicate]
 omega
theorem four_run:∀(k f:Nat) (s:List UInt8),pad8 s.length=k→k<f→s.length≤100000→run mix_four_l1 f s=some (s++List.replicate k 0)
  | 0,f,s,hk,hf,hs=>by
    obtain⟨f,rfl⟩:∃q,f=q+1:=⟨f-1,by omega⟩
    refine Zl ?_
    unfold mix_four_l1
    unfold pad8 at hk
    rw[Int.tmod_eq_emod_of_nonneg (by omega),decide_eq_true (show(s.length:Int)%8=0 by omega)]
    simp
  | k +1,f,s,hk,hf,hs=>by
    obtain⟨f,rfl⟩:∃q,f=q+1:=⟨f-1,by omega⟩
    have hk':=hk
    unfold pad8 at hk'
    have h8:s.length%8≠0:=by omega
    have hp:=pad8_step h8
    rw[run_st (s':=s++ [0]) (by
      unfold mix_four_l1
      rw[Int.tmod_eq_emod_of_nonneg (by omega),decide_eq_false (show¬(s.length:Int)%8=0 by omega)]
      simp only[Bool.not_false,cond_true]
      rw[Zv (by simp only[List.length_cons,List.length_nil,LIM];omega)])]
    rcases Nat.lt_or_ge s.length 100000 with hl|hl
    · rw[four_run k f (s++ [0]) (by simp only[List.length_append,List.length_cons,List.length_nil,Nat.zero_add];omega) (by omega) (by simp only[List.length_append,List.length_cons,List.length_nil];omega),List.append_assoc]
      rfl
    · have:s.length=100000:=by omega
      rw[this]at h8;exact absurd rfl h8
theorem word_num{y0 y1 y2 y3:UInt8}:y0.toUInt32+(256:UInt32)*y1.toUInt32+(65536:UInt32)*y2.toUInt32+(16777216:UInt32)*y3.toUInt32=UInt32.ofNat (numB [y0,y1,y2,y3]):=by
 apply UInt32.toNat_inj.1
 have h0:=y0.toNat_lt;have h1:=y1.toNat_lt;have h2:=y2.toNat_lt;have h3:=y3.toNat_lt
 simp only[UInt32.toNat_add,UInt32.toNat_mul,UInt8.toNat_toUInt32,UInt32.toNat_ofNat',numB,show(256:UInt32).toNat=256 from rfl,show(65536:UInt32).toNat=65536 from rfl,show(16777216:UInt32).toNat=16777216 from rfl]
 omega
theorem byteAt_eq (b:List UInt8)(i:Nat):ref02_byteAt b (i:Int)=some (((padB b).getD i 0).toUInt32):=by
 unfold ref02_byteAt
 by_cases c:i<b.length
 · rw[decide_eq_true (by omega),cond_true,ZW _ c,List.getD_eq_getElem?_getD]
   unfold padB
   rw[List.append_assoc,List.getElem?_append_left c,List.getElem?_eq_getElem c];rfl
 · rw[decide_eq_false (by omega),cond_false]
   by_cases c1:i=b.length
   · rw[decide_eq_true (by omega),cond_true,List.getD_eq_getElem?_getD]
     unfold padB
     rw[List.append_assoc,List.getElem?_append_right (by omega),c1,Nat.sub_self];rfl
   · rw[decide_eq_false (by omega),cond_false,List.getD_eq_getElem?_getD]
     unfold padB
     rw[List.getElem?_append_right (by simp;omega),List.getElem?_replicate]
     split<;>rfl
theorem take4{l:List UInt8}{i:Nat}(h:i+4≤l.length):(l.drop i).take 4= [l.getD i 0,l.getD (i+1) 0,l.getD (i+2) 0,l.getD (i+3) 0]:=by
 simp only[List.getD_eq_getElem?_getD]
 rw[List.getElem?_eq_getElem (by omega),List.getElem?_eq_getElem (by omega),List.getElem?_eq_getElem (by omega),List.getElem?_eq_getElem (by omega)]
 rw[List.drop_eq_getElem_cons (by omega:i<l.length),List.drop_eq_getElem_cons (by omega:i+1<l.length),List.drop_eq_getElem_cons (by omega:i+1+1<l.length),List.drop_eq_getElem_cons (by omega:i+1+1+1<l.length)]
 rfl
theorem ref_word_eq{b:List UInt8}(hb:b.length≤100000){i:Nat}(h:i+4≤(padB b).length):ref02_word b (i:Int)=some (UInt32.ofNat (numB (((padB b).drop i).take 4))):=by
 have hl:=(padB_length b).2.2
 unfold ref02_word
 rw[byteAt_eq,Option.bind_some,Zp (n:=(i:Int)+1) (by omega) (by omega),show(i:Int)+1=((i+1:Nat):Int) by omega,byteAt_eq,Option.bind_some,Zp (n:=(i:Int)+2) (by omega) (by omega),show(i:Int)+2=((i+2:Nat):Int) by omega,byteAt_eq,Option.bind_some,
  Zp (n:=(i:Int)+3) (by omega) (by omega),show(i:Int)+3=((i+3:Nat):Int) by omega,byteAt_eq,Option.bind_some,take4 h,word_num]
theorem number_eq{b:List UInt8}(h:b.length=4):mix_number b=some (UInt32.ofNat (numB b)):=by
 unfold mix_number
 rw[show(0:Int)=((0:Nat):Int)from rfl,show(4:Int)=((4:Nat):Int)from rfl,code_Get_eq (by omega) (by omega) (by omega) (by omega),Option.bind_some,List.drop_zero,List.take_of_length_le (by omega),u32i_nat']
def roundP (x:A4 UInt32)(y:List UInt8):A4 UInt32:=itP 4 ⟨x.e0^^^UInt32.ofNat (numB (y.take 4)),x.e1,x.e2^^^UInt32.ofNat (numB ((y.drop 4).take 4)),x.e3⟩
theorem mix_round{y:List UInt8}(h:y.length=8)(x:A4 UInt32):mix_four_r2 y (x.e0,x.e1,x.e2,x.e3)=some (.inl ((roundP x y).e0,(roundP x y).e1,(roundP x y).e2,(roundP x y).e3)):=by
 have h1:cut y 0 4=y.take 4:=by simp[cut]
 have h2:cut y 4 (y.length:Int)=(y.drop 4).take 4:=by
  unfold cut
  rw[Int.toNat_natCast,h];rfl
 unfold mix_four_r2
 rw[slc_eq (by omega) (by omega) (by omega),h1,number_eq (by rw[List.length_take];omega),Option.bind_some,Option.bind_some,slc_eq (by omega) (by omega) (by omega),h2,number_eq (by rw[List.length_take,List.length_drop];omega),Option.bind_some,
  show(4:Int)=((4:Nat):Int)from rfl,often_eq _ (by omega),Option.bind_some]
 rfl
theorem mix_rounds:∀(l:List (List UInt8)) (x:A4 UInt32),(∀y∈l,y.length=8)→forL mix_four_r2 l (x.e0,x.e1,x.e2,x.e3)=some (.inl ((l.foldl roundP x).e0,(l.foldl roundP x).e1,(l.foldl roundP x).e2,(l.foldl roundP x).e3))
  |[],x,_=>rfl
  | y::l,x,h=>by
    rw[forL_cons (mix_round (h y (by simp)) x),mix_rounds l _ (λz hz=>h z (by simp[hz]))];rfl
def startP:A4 UInt32:=⟨1,2,3,4⟩
def fourP (b:List UInt8):A4 UInt32:=
 let s:=(chunks 8 (padB b).length (padB b)).foldl roundP startP
 itP 8 ⟨s.e0,s.e1^^^UInt32.ofNat b.length,s.e2,s.e3⟩
theorem mix_four_eq{b:List UInt8}(h:b.length≤10000):mix_four b=some (fourP b):=by
 obtain⟨p1,p2,p3⟩:=padB_length b
 unfold mix_four slices_Clone_byte slices_Clip_byte
 rw[Zv (by simp only[List.length_nil,LIM];omega)]
 simp only[Option.bind_some,List.nil_append]
 rw[slc_eq (by omega) (by omega) (by omega)]
 simp only[Option.bind_some]
 have hc:cut b 0 (b.length:Int)=b:=by simp[cut]
 have hp:=pad8_le (b.length+1)
 rw[hc,Zv (by simp only[List.length_cons,List.length_nil,LIM];omega)]
 have h1:loop mix_four_l1 (b++ [1])=some (padB b):=loop_of (n:=10) (by decide) (four_run (pad8 (b.length+1)) 10 (b++ [1]) (by simp) (by omega) (by simp;omega))
 rw[h1]
 simp only[Option.bind_some]
 unfold slices_Chunk_byte
 rw[if_pos ⟨by omega,by omega,by simp only[LIM];omega⟩]
 simp only[Option.bind_some]
 rw[show((1:UInt32),(2:UInt32),(3:UInt32),(4:UInt32))=(startP.e0,startP.e1,startP.e2,startP.e3)from rfl,show(8:Int).toNat=8 from rfl,mix_rounds _ _ (λy hy=>chunks_len (n:=8) (by omega) (padB b).length (padB b) (Nat.le_refl _) p1 y hy)]
 simp only[Option.bind_some,Sum.elim_inl]
 rw[show(8:Int)=((8:Nat):Int)from rfl,often_eq _ (by omega),Option.bind_some,u32i_nat']
 rfl
theorem ref_four_run{b:List UInt8}(hb:b.length≤10000):∀(k f i:Nat) (x:A4 UInt32),(i+k)*8=(padB b).length→k<f→
    run (ref02_Four_l1 b) f (x.e0,x.e1,x.e2,x.e3,((8*i:Nat):Int))=some (((chunks 8 (8*k) ((padB b).drop (8*i))).foldl roundP x).e0,((chunks 8 (8*k) ((padB b).drop (8*i))).foldl roundP x).e1,((chunks 8 (8*k) ((padB b).drop (8*i))).foldl roundP x).e2,((chunks 8 (8*k) ((padB b).drop (8*i))).foldl roundP x).e3)
  | 0,f,i,x,hi,hf=>by
    obtain⟨p1,p2,p3⟩:=padB_length b
    obtain⟨f,rfl⟩:∃q,f=q+1:=⟨f-1,by omega⟩
    refine Zl ?_
    unfold ref02_Four_l1
    dsimp only
    rw[decide_eq_false (by omega)];rfl
  | k + 1,f,i,x,hi,hf=>by
    obtain⟨p1,p2,p3⟩:=padB_length b
    obtain⟨f,rfl⟩:∃q,f=q+1:=⟨f-1,by omega⟩
    have hne:(padB b).drop (8*i)≠[]:=λe=>by have:=congrArg List.length e;rw[List.length_drop]at this;simp at this;omega
    have hst:chunks 8 (8*(k+1)) ((padB b).drop (8*i))=((padB b).drop (8*i)).take 8::chunks 8 (8*k) ((padB b).drop (8*(i+1))):=by
      rw[show 8*(k+1)=(8*k+7)+1 by omega,chunks_step hne,List.drop_drop,show 8*i+8=8*(i+1) by omega]
      congr 1
      exact chunks_fuel (by decide) (by rw[List.length_drop];omega) (by rw[List.length_drop];omega)
    rw[hst,List.foldl_cons]
    have e0:(((padB b).drop (8*i)).take 8).take 4=((padB b).drop (8*i)).take 4:=by rw[List.take_take];rfl
    have e1:((((padB b).drop (8*i)).take 8).drop 4).take 4=((padB b).drop (8*i+4)).take 4:=by rw[List.drop_take,List.take_take,List.drop_drop];rfl
    have hr:roundP x (((padB b).drop (8*i)).take 8)=turnP (turnP (turnP (turnP ⟨x.e0^^^UInt32.ofNat (numB (((padB b).drop (8*i)).take 4)),x.e1,x.e2^^^UInt32.ofNat (numB (((padB b).drop (8*i+4)).take 4)),x.e3⟩))):=by
      unfold roundP;rw[e0,e1];rfl
    rw [hr,run_st (s':=_) (by
      unfold ref02_Four_l1
      dsimp only
      rw[decide_eq_true (by omega),cond_true,ref_word_eq (by omega) (by omega),Option.bind_some,Option.bind_some,Zp (n:=((8*i:Nat):Int)+4) (by omega) (by omega),show((8*i:Nat):Int)+4=((8*i+4:Nat):Int) by omega,ref_word_eq (by omega) (by omega),Option.bind_some,Option.bind_some,
        ref_turn_eq,Option.bind_some,ref_turn_eq,Option.bind_some,ref_turn_eq,Option.bind_some,ref_turn_eq,Option.bind_some,Zp (by omega) (by omega),show((8*i:Nat):Int)+8=((8*(i+1):Nat):Int) by omega])]
    exact ref_four_run hb k f (i+1) _ (by omega) (by omega)
theorem ref_four_eq{b:List UInt8}(hb:b.length≤10000):ref02_Four b=some (fourP b):=by
 obtain⟨p1,p2,p3⟩:=padB_length b
 unfold ref02_Four
 have h:=ref_four_run hb ((padB b).length/8) 2000 0 startP (by omega) (by omega)
 rw[show 8*((padB b).length/8)=(padB b).length by omega,show 8*0=0 from rfl,List.drop_zero]at h
 rw[show loop (ref02_Four_l1 b) ((1:UInt32),(2:UInt32),(3:UInt32),(4:UInt32),0)=_ from loop_of (by decide) h,Option.bind_some]
 simp only[ref_turn_eq,Option.bind_some,u32i_nat']
 rfl
theorem ref_sum_eq{b:List UInt8}(hb:b.length≤10000):ref02_Sum b=some (sumOf b):=by
 rw[←mix_Sum_eq hb]
 unfold ref02_Sum mix_Sum
 rw[ref_four_eq hb,mix_four_eq hb]
end Go.Ow
namespace Go.Ow
structure SmallD (d:Disk):Prop where
  blocks:d.Blocks.length≤2000000
  waits:d.Waits.length≤2000000
  block:∀b∈d.Blocks,b.length≤2000000
  wait:∀w∈d.Waits,w.Data.length≤2000000
theorem lim_le'{n:Nat}(h:n≤2000000):n≤LIM:=Nat.le_trans h (by decide)
theorem chkN_none{α β:Type}(k:Option β):chkN (none:Option α) k=k:=rfl
theorem map_same{α:Type}{f:α→α}(h:∀x,f x=x)(l:List α):l.map f=l:=by
 rw[show f=id from funext h,List.map_id]
theorem rtwin_l1{d:Disk}(hs:SmallD d):∀(k i f:Nat),i+k=d.Blocks.length→k<f→run (ref09_Twin_l1 d) f ((d.Blocks.take i).map some++List.replicate k none,i)=some (d.Blocks.map some)
  | 0,i,f,hi,hf=>by
    obtain⟨f,rfl⟩:∃q,f=q+1:=⟨f-1,by omega⟩
    refine Zl ?_
    unfold ref09_Twin_l1
    dsimp only
    rw[decide_eq_false (by omega),cond_false,List.take_of_length_le (by omega),List.replicate_zero,List.append_nil]
  | k +1,i,f,hi,hf=>by
    obtain⟨f,rfl⟩:∃q,f=q+1:=⟨f-1,by omega⟩
    have hlt:i<d.Blocks.length:=by omega
    have hb:=hs.block _ (List.getElem_mem hlt)
    have hlen:((d.Blocks.take i).map some).length=i:=by rw[List.length_map,List.length_take];omega
    have hS:((d.Blocks.take i).map some++List.replicate (k+1) (none:Option (List UInt8)))[i]? =some none:=by
      rw[List.getElem?_append_right (by omega),hlen,Nat.sub_self];rfl
    have hset:((d.Blocks.take i).map some++List.replicate (k+1) (none:Option (List UInt8))).set i (some d.Blocks[i])=(d.Blocks.take (i+1)).map some++List.replicate k none:=by
      rw[List.set_append_right _ _ (by omega),hlen,Nat.sub_self,List.replicate_succ,List.set_cons_zero,List.take_succ_eq_append_getElem hlt,List.map_append,List.append_assoc];rfl
    rw[run_st (s':=((d.Blocks.take (i+1)).map some++List.replicate k none,i+1)) (by
      unfold ref09_Twin_l1
      dsimp only
      rw[decide_eq_true (by omega),cond_true,ZW _ hlt,idx_eq (y:=none) ⟨by omega,by rw[Int.toNat_natCast];exact hS⟩]
      rw[chkN_none,Zv (by simp only[List.length_nil,Nat.zero_add];exact lim_le' hb),List.nil_append,chk_eq ⟨by omega,by rw[Int.toNat_natCast,List.length_append,hlen,List.length_replicate];omega⟩,setI_eq (by omega) (by rw[Int.toNat_natCast,List.length_append,hlen,List.length_replicate];omega),Int.toNat_natCast,hset])]
    exact rtwin_l1 hs k (i+1) f (by omega) (by omega)
theorem rtwin_l2{d:Disk}(hs:SmallD d):∀(k i f:Nat),i+k=d.Waits.length→k<f→run (ref09_Twin_l2 d) f ((d.Waits.take i).map (λw=>(⟨w.At,some w.Data⟩:WriteO))++List.replicate k ⟨0,none⟩,i)=some (d.Waits.map λw=>⟨w.At,some w.Data⟩)
  | 0,i,f,hi,hf=>by
    obtain⟨f,rfl⟩:∃q,f=q+1:=⟨f-1,by omega⟩
    refine Zl ?_
    unfold ref09_Twin_l2
    dsimp only
    rw[decide_eq_false (by omega),cond_false,List.take_of_length_le (by omega),List.replicate_zero,List.append_nil]
  | k + 1,i,f,hi,hf=>by
    obtain⟨f,rfl⟩:∃q,f=q+1:=⟨f-1,by omega⟩
    have hlt:i<d.Waits.length:=by omega
    have hb:=hs.wait _ (List.getElem_mem hlt)
    have hlen:((d.Waits.take i).map (λw=>(⟨w.At,some w.Data⟩:WriteO))).length=i:=by rw[List.length_map,List.length_take];omega
    have hS:∀z:WriteO,((d.Waits.take i).map (λw=>(⟨w.At,some w.Data⟩:WriteO))++z::List.replicate k ⟨0,none⟩)[i]? =some z:=λz=>by
      rw[List.getElem?_append_right (by omega),hlen,Nat.sub_self];rfl
    have hset:∀z y:WriteO,((d.Waits.take i).map (λw=>(⟨w.At,some w.Data⟩:WriteO))++z::List.replicate k ⟨0,none⟩).set i y=(d.Waits.take i).map (λw=>(⟨w.At,some w.Data⟩:WriteO))++y::List.replicate k ⟨0,none⟩:=λz y=>by
      rw[List.set_append_right _ _ (by omega),hlen,Nat.sub_self,List.set_cons_zero]
    have hl2:∀z:WriteO,i<((d.Waits.take i).map (λw=>(⟨w.At,some w.Data⟩:WriteO))++z::List.replicate k ⟨0,none⟩).length:=λz=>by
      rw[List.length_append,hlen,List.length_cons];omega
    have hend:(d.Waits.take i).map (λw=>(⟨w.At,some w.Data⟩:WriteO))++(⟨d.Waits[i].At,some d.Waits[i].Data⟩:WriteO)::List.replicate k ⟨0,none⟩=(d.Waits.take (i+1)).map (λw=>(⟨w.At,some w.Data⟩:WriteO))++List.replicate k ⟨0,none⟩:=by
      rw[List.take_succ_eq_append_getElem hlt,List.map_append,List.append_assoc];rfl
    rw [run_st (s':=((d.Waits.take (i+1)).map (λw=>(⟨w.At,some w.Data⟩:WriteO))++List.replicate k ⟨0,none⟩,i+1)) (by
      unfold ref09_Twin_l2
      dsimp only
      rw[List.replicate_succ,decide_eq_true (by omega),cond_true,ZW _ hlt,idx_eq (y:=⟨0,none⟩) ⟨by omega,by rw[Int.toNat_natCast];exact hS _⟩,setI_eq (by omega) (by rw[Int.toNat_natCast];exact hl2 _),Int.toNat_natCast,hset,
        ZW _ hlt,idx_eq (y:=⟨d.Waits[i].At,none⟩) ⟨by omega,by rw[Int.toNat_natCast];exact hS _⟩]
      dsimp only
      rw[chkN_none,Zv (by simp only[List.length_nil,Nat.zero_add];exact lim_le' hb),List.nil_append,idx_eq (y:=⟨d.Waits[i].At,none⟩) ⟨by omega,by rw[Int.toNat_natCast];exact hS _⟩,setI_eq (by omega) (by rw[Int.toNat_natCast];exact hl2 _),Int.toNat_natCast,hset,hend])]
    exact rtwin_l2 hs k (i+1) f (by omega) (by omega)
theorem ref_twin9{d:Disk}(hs:SmallD d):ref09_Twin d=some d:=by
  unfold ref09_Twin
  rw[mks_eq (lim_le' hs.blocks),mks_eq (lim_le' hs.waits),Option.bind_some]
  dsimp only
  rw[show loop (ref09_Twin_l1 d) (List.replicate d.Blocks.length none,0)=some (d.Blocks.map some)from loop_of (n:=2000002) (by decide) (rtwin_l1 hs d.Blocks.length 0 2000002 (by omega) (by have:=hs.blocks;omega)),Option.bind_some,
    show loop (ref09_Twin_l2 d) (List.replicate d.Waits.length ⟨0,none⟩,0)=_ from loop_of (n:=2000002) (by decide) (rtwin_l2 hs d.Waits.length 0 2000002 (by omega) (by have:=hs.waits;omega)),Option.bind_some]
  congr 1
  cases d with
  | mk B W=>
    congr 1
    · rw[List.map_map];exact map_same (λ_=>rfl) _
    · rw[List.map_map];exact map_same (λ_=>rfl) _
structure SmallS (s:Store):Prop where
  disk:SmallD s.Disk
  space:s.Space.length≤2000000
theorem ref_twin{s:Store}(hs:SmallS s):ref13_Twin s=some s:=by
 unfold ref13_Twin
 rw[show(Disk.mk s.Disk.Blocks s.Disk.Waits)=s.Disk from rfl,ref_twin9 hs.disk,Option.bind_some,Zv (by simp only[List.length_nil,Nat.zero_add];exact lim_le' hs.space)]
 rfl
end Go.Ow
namespace Go.Ow
theorem and_dec{p q:Prop} [Decidable p] [Decidable q](k:Option Bool)(h:k=some (decide q)):(bif decide p then k else some false)=some (decide (p∧q)):=by
 by_cases c:p
 · rw[decide_eq_true c,cond_true,h];congr 1;exact decide_eq_decide.2 ⟨λe=>⟨c,e⟩,λe=>e.2⟩
 · rw[decide_eq_false c,cond_false,decide_eq_false (λe=>c e.1)]
theorem ref_place_eq (n:Int):ref09_place n=some (decide (0≤n∧n<256)):=by
 unfold ref09_place
 rw[and_dec (p:=0≤n) (q:=n<256) _ rfl];rfl
theorem may_l1 (d:Disk):∀(k i f c:Nat),i+k=min d.Blocks.length 257→k<f→c≤i→∃c':Nat,run (ref09_May_l1 d) f ((c:Int),i)=some (c':Int)∧c'≤257∧(c'=0↔c=0∧∀b∈(d.Blocks.drop i).take k,b.length=256)
  | 0,i,f,c,hi,hf,hc=>by
    obtain⟨f,rfl⟩:∃q,f=q+1:=⟨f-1,by omega⟩
    refine⟨c,Zl ?_,by omega,by simp⟩
    unfold ref09_May_l1
    dsimp only
    by_cases h:i<d.Blocks.length
    · rw[decide_eq_true (by omega),cond_true,decide_eq_false (by omega)];rfl
    · rw[decide_eq_false (by omega)];rfl
  | k + 1,i,f,c,hi,hf,hc=>by
    obtain⟨f,rfl⟩:∃q,f=q+1:=⟨f-1,by omega⟩
    have hlt:i<d.Blocks.length:=by omega
    rw[List.drop_eq_getElem_cons hlt,List.take_succ_cons]
    by_cases h:(d.Blocks[i]).length=256
    · obtain⟨c',h1,h2,h3⟩:=may_l1 d k (i+1) f c (by omega) (by omega) (by omega)
      refine⟨c',?_,h2,h3.trans ⟨λe=>⟨e.1,λb hb=> ?_⟩,λe=>⟨e.1,λb hb=>e.2 b (List.mem_cons_of_mem _ hb)⟩⟩⟩
      · rw[run_st (s':=((c:Int),i+1)) (by unfold ref09_May_l1;dsimp only;rw[decide_eq_true (by omega),cond_true,decide_eq_true (by omega),cond_true,ZW _ hlt,decide_eq_true (by omega)];rfl)];exact h1
      · rcases List.mem_cons.1 hb with rfl|hb
        · exact h
        · exact e.2 b hb
    · obtain⟨c',h1,h2,h3⟩:=may_l1 d k (i+1) f (c+1) (by omega) (by omega) (by omega)
      refine⟨c',?_,h2,⟨λe=>by have:=(h3.1 e).1;omega,λe=>absurd (e.2 _ (List.mem_cons_self ..)) h⟩⟩
      rw[run_st (s':=(((c+1:Nat):Int),i+1)) (by unfold ref09_May_l1;dsimp only;rw[decide_eq_true (by omega),cond_true,decide_eq_true (by omega),cond_true,ZW _ hlt,decide_eq_false (by omega),Zp (by omega) (by omega)];rfl)];exact h1
theorem okW_iff (w:Write):okW w=true↔(0≤w.At∧w.At<256)∧w.Data.length=256:=by
 unfold okW;rw[Bool.and_eq_true,decide_eq_true_eq,decide_eq_true_eq]
theorem may_l2 (d:Disk):∀(k i f c:Nat),i+k=min d.Waits.length 4097→k<f→c≤i+257→∃c':Nat,run (ref09_May_l2 d) f ((c:Int),i)=some (c':Int)∧(c'=0↔c=0∧∀w∈(d.Waits.drop i).take k,okW w=true)
  | 0,i,f,c,hi,hf,hc=>by
    obtain⟨f,rfl⟩:∃q,f=q+1:=⟨f-1,by omega⟩
    refine⟨c,Zl ?_,by simp⟩
    unfold ref09_May_l2
    dsimp only
    by_cases h:i<d.Waits.length
    · rw[decide_eq_true (by omega),cond_true,decide_eq_false (by omega)];rfl
    · rw[decide_eq_false (by omega)];rfl
  | k + 1,i,f,c,hi,hf,hc=>by
    obtain⟨f,rfl⟩:∃q,f=q+1:=⟨f-1,by omega⟩
    have hlt:i<d.Waits.length:=by omega
    rw[List.drop_eq_getElem_cons hlt,List.take_succ_cons]
    by_cases h:okW d.Waits[i]=true
    · obtain⟨k1,k2⟩:=(okW_iff _).1 h
      obtain⟨c',h1,h3⟩:=may_l2 d k (i+1) f c (by omega) (by omega) (by omega)
      refine⟨c',?_,h3.trans ⟨λe=>⟨e.1,λb hb=> ?_⟩,λe=>⟨e.1,λb hb=>e.2 b (List.mem_cons_of_mem _ hb)⟩⟩⟩
      · rw[run_st (s':=((c:Int),i+1)) (by unfold ref09_May_l2;dsimp only;rw[decide_eq_true (by omega),cond_true,decide_eq_true (by omega),cond_true,ZW _ hlt,decide_eq_true (by omega),Bool.not_true,cond_false,ZW _ hlt,ref_place_eq,decide_eq_true k1];rfl)];exact h1
      · rcases List.mem_cons.1 hb with rfl|hb
        · exact h
        · exact e.2 b hb
    · obtain⟨c',h1,h3⟩:=may_l2 d k (i+1) f (c+1) (by omega) (by omega) (by omega)
      refine⟨c',?_,⟨λe=>by have:=(h3.1 e).1;omega,λe=>absurd (e.2 _ (List.mem_cons_self ..)) h⟩⟩
      rw[run_st (s':=(((c+1:Nat):Int),i+1)) (by
        unfold ref09_May_l2;dsimp only
        rw[decide_eq_true (by omega),cond_true,decide_eq_true (by omega),cond_true,ZW _ hlt,Zp (by omega) (by omega)]
        by_cases g:(d.Waits[i]).Data.length=256
        · rw[decide_eq_true (by omega),Bool.not_true,cond_false,ZW _ hlt,ref_place_eq,decide_eq_false (λe=>h ((okW_iff _).2 ⟨e,g⟩))];rfl
        · rw[decide_eq_false (by omega)];rfl)];exact h1
theorem ref_may9 (d:Disk):ref09_May d=some (decide (OKD d)):=by
 unfold ref09_May
 obtain⟨c,e1,hc,e2⟩:=may_l1 d (min d.Blocks.length 257) 0 300 0 (by omega) (by omega) (by omega)
 obtain⟨c',e3,e4⟩:=may_l2 d (min d.Waits.length 4097) 0 4100 c (by omega) (by omega) (by omega)
 rw[show loop (ref09_May_l1 d) (0,0)=some (c:Int)from loop_of (by decide) e1,Option.bind_some,show loop (ref09_May_l2 d) ((c:Int),0)=some (c':Int)from loop_of (by decide) e3,Option.bind_some]
 rw[List.drop_zero]at e2 e4
 by_cases h:OKD d
 · have hw:∀w∈d.Waits.take (min d.Waits.length 4097),okW w=true:=λw hw=>h.2.2.2 w (List.mem_of_mem_take hw)
   have hb:∀b∈d.Blocks.take (min d.Blocks.length 257),b.length=256:=λb hb=>h.2.2.1 b (List.mem_of_mem_take hb)
   have h0:c'=0:=e4.2 ⟨e2.2 ⟨rfl,hb⟩,hw⟩
   have hB:=h.1
   have hW:=h.2.1
   rw[decide_eq_true h,h0,decide_eq_true (show((0:Nat):Int)=0 from rfl),cond_true,decide_eq_true (by omega),cond_true,decide_eq_true (by omega)];rfl
 · rw [decide_eq_false h]
   by_cases h0:c'=0
   · by_cases hB:d.Blocks.length=256
     · by_cases hW:d.Waits.length≤4096
       · exfalso
         obtain⟨k1,k2⟩:=e4.1 h0
         obtain⟨-,k3⟩:=e2.1 k1
         rw[List.take_of_length_le (by omega)]at k2 k3
         exact h ⟨hB,hW,k3,k2⟩
       · rw[decide_eq_true (show(c':Int)=0 by omega),cond_true,decide_eq_true (by omega),cond_true,decide_eq_false (by omega)];rfl
     · rw[decide_eq_true (show(c':Int)=0 by omega),cond_true,decide_eq_false (by omega)];rfl
   · rw[decide_eq_false (show¬(c':Int)=0 by omega)];rfl
theorem may12_l1 (s:List UInt8)(hs:s.length=256):∀(k i f:Nat),i+k=256→k<f→∃o,run (ref12_May_l1 s) f i=some o∧((o=.inl ()∧∀j y,i≤j→s[j]? =some y→y≤2∧(j<12→y=1))∨(o=.inr ()∧¬ ∀j y,i≤j→s[j]? =some y→y≤2∧(j<12→y=1)))
  | 0,i,f,hi,hf=>by
    obtain⟨f,rfl⟩:∃q,f=q+1:=⟨f-1,by omega⟩
    refine⟨.inl (),Zl (by unfold ref12_May_l1;rw[decide_eq_false (by omega)];rfl),.inl ⟨rfl,λj y hj hy=> ?_⟩⟩
    rw[List.getElem?_eq_none (by omega)]at hy;cases hy
  | k + 1,i,f,hi,hf=>by
    obtain⟨f,rfl⟩:∃q,f=q+1:=⟨f-1,by omega⟩
    have hlt:i<s.length:=by omega
    by_cases c1:(2:UInt8)<s[i]
    · refine⟨.inr (),Zl (by unfold ref12_May_l1;rw[decide_eq_true (by omega),cond_true,ZW _ hlt,decide_eq_true c1];rfl),.inr ⟨rfl,λh=> ?_⟩⟩
      exact UInt8.not_le.2 c1 (h i _ (Nat.le_refl _) (List.getElem?_eq_getElem hlt)).1
    · by_cases c2:i<12∧¬s[i]=1
      · refine⟨.inr (),Zl (by unfold ref12_May_l1;rw[decide_eq_true (by omega),cond_true,ZW _ hlt,decide_eq_false c1,cond_false,decide_eq_true (by omega),cond_true,ZW _ hlt,decide_eq_false c2.2];rfl),.inr ⟨rfl,λh=> ?_⟩⟩
        exact c2.2 ((h i _ (Nat.le_refl _) (List.getElem?_eq_getElem hlt)).2 c2.1)
      · obtain⟨o,h1,h2⟩:=may12_l1 s hs k (i+1) f (by omega) (by omega)
        have hst:run (ref12_May_l1 s) (f+1) i=some o:=by
          rw[run_st (s':=i+1) (by
            unfold ref12_May_l1
            rw[decide_eq_true (by omega),cond_true,ZW _ hlt,decide_eq_false c1,cond_false]
            by_cases c3:i<12
            · rw[decide_eq_true (by omega),cond_true,ZW _ hlt,decide_eq_true (Classical.byContradiction λe=>c2 ⟨c3,e⟩)];rfl
            · rw[decide_eq_false (by omega),cond_false])];exact h1
        have hiff:(∀j y,i≤j→s[j]? =some y→y≤2∧(j<12→y=1))↔(∀j y,i+1≤j→s[j]? =some y→y≤2∧(j<12→y=1)):=by
          refine⟨λh j y hj=>h j y (by omega),λh j y hj hy=> ?_⟩
          rcases Nat.lt_or_ge i j with hij|hij
          · exact h j y hij hy
          · have:j=i:=by omega
            subst this
            rw[List.getElem?_eq_getElem hlt]at hy
            rw[←Option.some.inj hy]
            exact⟨UInt8.not_lt.1 c1,λh12=>Classical.byContradiction λe=>c2 ⟨h12,e⟩⟩
        exact⟨o,hst,h2.imp (λe=>⟨e.1,hiff.2 e.2⟩) (λe=>⟨e.1,λh=>e.2 (hiff.1 h)⟩)⟩
theorem okS_iff{s:List UInt8}(hs:s.length=256):okS s↔∀j y,0≤j→s[j]? =some y→y≤2∧(j<12→y=1):=by
 constructor
 · rintro⟨-,h1,h2⟩ j y _ hy
   refine⟨h1 y (List.mem_of_getElem? hy),λhj=>h2 y (List.mem_of_getElem? (i:=j) ?_)⟩
   rw[List.getElem?_take,if_pos hj];exact hy
 · intro h
   refine⟨hs,λy hy=> ?_,λy hy=> ?_⟩
   · obtain⟨j,hj⟩:=List.getElem?_of_mem hy
     exact(h j y (Nat.zero_le _) hj).1
   · obtain⟨j,hj⟩:=List.getElem?_of_mem hy
     rw[List.getElem?_take]at hj
     split at hj
     · rename_i h12;exact(h j y (Nat.zero_le _) hj).2 h12
     · cases hj
theorem ref_may12 (s:List UInt8):ref12_May s=some (decide (okS s)):=by
 unfold ref12_May
 by_cases hs:s.length=256
 · obtain⟨o,h1,h2⟩:=may12_l1 s hs 256 0 300 (by omega) (by omega)
   rw[decide_eq_true (by omega),Bool.not_true,cond_false,show loop (ref12_May_l1 s) 0=some o from loop_of (by decide) h1,Option.bind_some]
   rcases h2 with⟨rfl,h2⟩|⟨rfl,h2⟩
   · rw[decide_eq_true ((okS_iff hs).2 h2)];rfl
   · rw[decide_eq_false (λh=>h2 ((okS_iff hs).1 h))];rfl
 · rw[decide_eq_false (by omega),decide_eq_false (λh=>hs h.1)];rfl
theorem ref_may13 (s:Store):ref13_May s=some (decide (OKSt s)):=by
 unfold ref13_May
 rw[show(Disk.mk s.Disk.Blocks s.Disk.Waits)=s.Disk from rfl,ref_may9,Option.bind_some,ref_may12,Option.bind_some,and_dec (p:=OKD s.Disk) _ (and_dec (p:=okS s.Space) _ (and_dec (p:=(1:UInt32)≤s.Epoch) _ (and_dec (p:=s.Epoch≤65535) _ rfl))),Option.bind_some]
 rfl
theorem ref_none (p:Ptr):ref10_None p=some (decide (isNone p)):=by unfold ref10_None;rw[none_dec']
theorem ref_may10 (p:Ptr):ref10_May p=some (decide (okP p)):=by
 unfold ref10_May
 rw[ref_none,Option.bind_some]
 have h:(bif decide (12≤p.At)then bif decide (p.At<256)then bif decide ((1:UInt32)≤p.Birth)then some (decide (p.Birth≤(16777215:UInt32)))else some false else some false else some false)=some (decide (okR p)):=
  and_dec (p:=12≤p.At) _ (and_dec (p:=p.At<256) _ (and_dec (p:=(1:UInt32)≤p.Birth) _ rfl))
 rw[h]
 by_cases c:isNone p
 · rw[decide_eq_true c,decide_eq_true (show okP p from .inl c)];rfl
 · rw[decide_eq_false c]
   show some _=_
   congr 1
   exact decide_eq_decide.2 ⟨.inr,λe=>e.resolve_left c⟩
end Go.Ow
namespace Go.Ow
theorem layW_snoc (B:List (List UInt8))(ws:List Write)(w:Write):layW B (ws++ [w])=(layW B ws).set w.At.toNat w.Data:=by
 unfold layW;rw[List.foldl_append];rfl
theorem last_run (d:Disk)(hd:OKD d)(p:Nat)(hp:p<256):∀(k f:Nat),k≤d.Waits.length→k<f→∃r,run (ref09_last_l1 d [] (p:Int)) f ((k:Int)-1)=some r∧
    ((r<0∧(layW d.Blocks (d.Waits.take k)).getD p []=d.Blocks.getD p [])∨∃j:Nat,∃hj:j<d.Waits.length,r=(j:Int)∧(layW d.Blocks (d.Waits.take k)).getD p []=d.Waits[j].Data)
  | 0,f,hk,hf=>by
    obtain⟨f,rfl⟩:∃q,f=q+1:=⟨f-1,by omega⟩
    refine⟨-1,Zl ?_,.inl ⟨by omega,rfl⟩⟩
    unfold ref09_last_l1
    rw[decide_eq_false (by omega)];rfl
  | k + 1,f,hk,hf=>by
    obtain⟨f,rfl⟩:∃q,f=q+1:=⟨f-1,by omega⟩
    have hlt:k<d.Waits.length:=by omega
    have hw:=(okW_iff _).1 (hd.2.2.2 _ (List.getElem_mem hlt))
    have hL:=hd.2.1
    have e1:((k+1:Nat):Int)-1=(k:Int):=by omega
    rw[e1,List.take_succ_eq_append_getElem hlt,layW_snoc]
    by_cases c:(d.Waits[k]).At=(p:Int)
    · refine⟨(k:Int),Zl ?_,.inr ⟨k,hlt,rfl,?_⟩⟩
      · unfold ref09_last_l1
        rw[decide_eq_true (by omega),cond_true,ZW _ hlt,decide_eq_true c,cond_true];rfl
      · rw[c,Int.toNat_natCast,getD_set (by rw[layW_length,hd.1];omega),if_pos rfl]
    · obtain⟨r,h1,h2⟩:=last_run d hd p hp k f (by omega) (by omega)
      refine⟨r,?_,?_⟩
      · rw[run_st (s':=(k:Int)-1) (by
          unfold ref09_last_l1
          rw[decide_eq_true (by omega),cond_true,ZW _ hlt,decide_eq_false c,cond_false,Option.bind_some,Sum.elim_inl,Zp (by omega) (by omega)])];exact h1
      · rw[getD_set (by rw[layW_length,hd.1];have:=hw.1;omega),if_neg (λe=>c (by rw[e,Int.toNat_of_nonneg hw.1.1]))];exact h2
theorem app_nil{β:Type}{m:List UInt8}{k:List UInt8→Option β}(h:m.length≤2000000):app [] m k=k m:=by
 rw[Zv (by simp only[List.length_nil,Nat.zero_add];exact lim_le' h),List.nil_append]
theorem ref_seen9{d:Disk}(hd:OKD d)(p:Nat)(hp:p<256):ref09_Seen d (p:Int)=some ((seenB d).getD p []):=by
 obtain⟨r,h1,h2⟩:=last_run d hd p hp d.Waits.length 4100 (Nat.le_refl _) (by have:=hd.2.1;omega)
 have hL:=hd.2.1
 rw[List.take_of_length_le (Nat.le_refl _)]at h2
 unfold ref09_Seen ref09_left ref09_last
 rw[Zp (by omega) (by omega),show loop (ref09_last_l1 d [] (p:Int)) ((d.Waits.length:Int)-1)=some r from loop_of (by decide) h1,Option.bind_some,Option.bind_some]
 rcases h2 with⟨hr,h2⟩|⟨j,hj,rfl,h2⟩
 · have hB:p<d.Blocks.length:=by rw[hd.1];exact hp
   have hb:=hd.2.2.1 _ (List.getElem_mem hB)
   rw[decide_eq_true hr,cond_true,ZW _ hB,app_nil (by omega),Option.bind_some]
   unfold seenB
   rw[h2,List.getD_eq_getElem?_getD,List.getElem?_eq_getElem hB];rfl
 · have hb:=((okW_iff _).1 (hd.2.2.2 _ (List.getElem_mem hj))).2
   rw[decide_eq_false (by omega),cond_false,ZW _ hj,app_nil (by omega),Option.bind_some]
   unfold seenB
   rw[h2]
theorem ref_seen13{s:Store}{p:Ptr}(h:OKSt s)(hp:okP p):ref13_Seen s p=some (lookS s p):=by
 unfold ref13_Seen lookS
 rw[if_pos ⟨h,hp⟩,ref_none,Option.bind_some]
 by_cases c:isNone p
 · rw[decide_eq_true c,if_pos c];rfl
 · have hr:=hp.resolve_left c
   obtain⟨n,hn⟩:=Int.eq_ofNat_of_zero_le (show 0≤p.At by have:=hr.1;omega)
   have hn2:n<256:=by have:=hr.2.1;omega
   have hl:=seen_mem h.1 hn2
   rw[decide_eq_false c,if_neg c,cond_false,show(Disk.mk s.Disk.Blocks s.Disk.Waits)=s.Disk from rfl,hn,ref_seen9 h.1 n hn2,Option.bind_some,ref_sum_eq (by omega),Option.bind_some,Int.toNat_natCast]
   by_cases e:sumOf ((seenB s.Disk).getD n [])=p.Sum
   · rw[if_pos e,nbeq e,cond_false,app_nil (by omega)]
   · rw[if_neg e,nbne e,cond_true]
theorem get_run (b:List UInt8)(hb:b.length≤100):∀(k f:Nat),k≤b.length→k<f→run (ref10_Get_l1 b) f (UInt32.ofNat (numB (b.drop k)),(k:Int)-1)=some (UInt32.ofNat (numB b))
  | 0,f,hk,hf=>by
    obtain⟨f,rfl⟩:∃q,f=q+1:=⟨f-1,by omega⟩
    refine Zl ?_
    unfold ref10_Get_l1
    dsimp only
    rw[decide_eq_false (by omega)];rfl
  | k +1,f,hk,hf=>by
    obtain⟨f,rfl⟩:∃q,f=q+1:=⟨f-1,by omega⟩
    have hlt:k<b.length:=by omega
    have e:(256:UInt32)*UInt32.ofNat (numB (b.drop (k+1)))+(b[k]).toUInt32=UInt32.ofNat (numB (b.drop k)):=by
      rw[List.drop_eq_getElem_cons hlt]
      apply UInt32.toNat_inj.1
      have:=(b[k]).toNat_lt
      simp only[UInt32.toNat_add,UInt32.toNat_mul,UInt8.toNat_toUInt32,UInt32.toNat_ofNat',numB,show(256:UInt32).toNat=256 from rfl]
      omega
    rw[run_st (s':=(UInt32.ofNat (numB (b.drop k)),(k:Int)-1)) (by
      unfold ref10_Get_l1
      dsimp only
      rw[show((k+1:Nat):Int)-1=(k:Int) by omega,decide_eq_true (by omega),cond_true,ZW _ hlt,e,Zp (by omega) (by omega)])]
    exact get_run b hb k f (by omega) (by omega)
theorem ref_get{b:List UInt8}(hb:b.length≤100):ref10_Get b=some (UInt32.ofNat (numB b)):=by
 unfold ref10_Get
 have:=get_run b hb b.length 102 (Nat.le_refl _) (by omega)
 rw[List.drop_eq_nil_of_le (Nat.le_refl _)]at this
 rw[Zp (by omega) (by omega),show loop (ref10_Get_l1 b) ((0:UInt32),(b.length:Int)-1)=_ from loop_of (by decide) this,Option.bind_some]
theorem cut_nat (b:List UInt8)(i j:Nat):cut b (i:Int) (j:Int)=(b.drop i).take (j-i):=by
 unfold cut;rw[Int.toNat_natCast,Int.toNat_natCast]
theorem ref_read10{b:List UInt8}(h:b.length=16):ref10_Read b=some (if okP (at5 b)then(at5 b,0)else(noP,8)):=by
 unfold ref10_Read
 have h0:0<b.length:=by omega
 have e0:numB ((b.drop 0).take 1)=(b[0]).toNat:=by
  rw[List.drop_eq_getElem_cons h0];rfl
 rw[decide_eq_true (by omega),Bool.not_true,cond_false,show(0:Int)=((0:Nat):Int)from rfl,ZW _ h0,slc_eq (by omega) (by omega) (by omega),slc_eq (by omega) (by omega) (by omega),slc_eq (by omega) (by omega) (by omega),slc_eq (by omega) (by omega) (by omega),
  show cut b 1 4=(b.drop 1).take 3 from cut_nat b 1 4,show cut b 4 8=(b.drop 4).take 4 from cut_nat b 4 8,show cut b 8 12=(b.drop 8).take 4 from cut_nat b 8 12,show cut b 12 16=(b.drop 12).take 4 from cut_nat b 12 16,
  ref_get (by rw[List.length_take];omega),Option.bind_some,ref_get (by rw[List.length_take];omega),Option.bind_some,ref_get (by rw[List.length_take];omega),Option.bind_some,ref_get (by rw[List.length_take];omega),Option.bind_some]
 have e:(⟨((b[0]).toNat:Int),UInt32.ofNat (numB ((b.drop 1).take 3)),UInt32.ofNat (numB ((b.drop 4).take 4)),UInt32.ofNat (numB ((b.drop 8).take 4)),UInt32.ofNat (numB ((b.drop 12).take 4))⟩:Ptr)=at5 b:=by
  unfold at5;rw[e0,u32i_nat',u32i_nat',u32i_nat',u32i_nat']
 rw[e,ref_may10,Option.bind_some]
 by_cases c:okP (at5 b)
 · rw[decide_eq_true c,if_pos c];rfl
 · rw[decide_eq_false c,if_neg c];rfl
def rowOf (b:List UInt8)(i n:Nat):List Ptr:=(List.range n).map λk=>at5 ((b.drop (16*(i+k))).take 16)
theorem rowOf_succ (b:List UInt8)(i n:Nat):rowOf b i (n+1)=at5 ((b.drop (16*i)).take 16)::rowOf b (i+1) n:=by
 unfold rowOf
 rw[List.range_succ_eq_map,List.map_cons,List.map_map]
 congr 1
 refine List.map_congr_left λk _=> ?_
 show at5 ((b.drop (16*(i+(k+1)))).take 16)=_
 rw[show i+(k+1)=i+1+k by omega]
theorem chunks_row_of (b:List UInt8):∀(n i f:Nat),(b.drop (16*i)).length=16*n→16*n≤f→(chunks 16 f (b.drop (16*i))).map at5=rowOf b i n
  | 0,i,f,h,hf=>by
    rw[List.length_eq_zero_iff.1 (show(b.drop (16*i)).length=0 by omega),chunks_nil];rfl
  | n+1,i,f,h,hf=>by
    obtain⟨f,rfl⟩:∃q,f=q+1:=⟨f-1,by omega⟩
    have hne:b.drop (16*i)≠[]:=λe=>by rw[e]at h;simp at h
    rw[chunks_step hne,List.map_cons,rowOf_succ,List.drop_drop,show 16*i+16=16*(i+1) by omega,chunks_row_of b n (i+1) f (by rw[List.length_drop]at h⊢;omega) (by omega)]
theorem ptrsOf_row_of{b:List UInt8}(h:b.length=256):ptrsOf b=rowOf b 0 16:=by
 have:=chunks_row_of b 16 0 b.length (by simp;omega) (by omega)
 rw[show 16*0=0 from rfl,List.drop_zero]at this
 exact this
theorem rows_run{b:List UInt8}(h:b.length=256):∀(k i f:Nat) (r:List Ptr),i+k=16→k<f→r.length+k≤1000→run (ref10_Rows_l1 b) f (r,i)=some (if∀p∈rowOf b i k,okP p then .inl (r++rowOf b i k)else .inr 8)
  | 0,i,f,r,hi,hf,hr=>by
    obtain⟨f,rfl⟩:∃q,f=q+1:=⟨f-1,by omega⟩
    refine Zl ?_
    unfold ref10_Rows_l1
    dsimp only
    rw[decide_eq_false (by omega),cond_false]
    simp[rowOf]
  | k +1,i,f,r,hi,hf,hr=>by
    obtain⟨f,rfl⟩:∃q,f=q+1:=⟨f-1,by omega⟩
    have hc:cut b ((16*i:Nat):Int) ((16*i+16:Nat):Int)=(b.drop (16*i)).take 16:=by rw[cut_nat];congr 1;omega
    have hst:ref10_Rows_l1 b (r,i)=(if okP (at5 ((b.drop (16*i)).take 16))then some (.inl (r++ [at5 ((b.drop (16*i)).take 16)],i+1))else some (.inr (.inr 8))):=by
      unfold ref10_Rows_l1
      dsimp only
      rw[decide_eq_true (by omega),cond_true,Zp (n:=16*(i:Int)) (by omega) (by omega),Zp (by omega) (by omega),show 16*(i:Int)=((16*i:Nat):Int) by omega,show((16*i:Nat):Int)+16=((16*i+16:Nat):Int) by omega,slc_eq (by omega) (by omega) (by omega),hc,ref_read10 (by rw[List.length_take,List.length_drop];omega),Option.bind_some]
      by_cases c:okP (at5 ((b.drop (16*i)).take 16))
      · rw[if_pos c,if_pos c,zdec,cond_false,Zv (lim_le (by simp;omega))]
      · rw[if_neg c,if_neg c];rfl
    rw[rowOf_succ]
    by_cases c:okP (at5 ((b.drop (16*i)).take 16))
    · rw[run_st (by rw[hst,if_pos c]),rows_run h k (i+1) f _ (by omega) (by omega) (by simp;omega)]
      by_cases c2:∀p∈rowOf b (i+1) k,okP p
      · rw[if_pos c2,if_pos (λp hp=>by rcases List.mem_cons.1 hp with rfl|hp;exact c;exact c2 p hp),List.append_assoc];rfl
      · rw[if_neg c2,if_neg (λe=>c2 λp hp=>e p (List.mem_cons_of_mem _ hp))]
    · rw[Zl (by rw[hst,if_neg c]),if_neg (λe=>c (e _ (List.mem_cons_self ..)))]
theorem ref_rows10{b:List UInt8}(h:b.length=256):ref10_Rows b=some (rowsB b):=by
 unfold ref10_Rows rowsB
 have:=rows_run h 16 0 20 [] (by omega) (by omega) (by simp)
 rw[decide_eq_true (by omega),Bool.not_true,cond_false,show loop (ref10_Rows_l1 b) (([]:List Ptr),0)=_ from loop_of (by decide) this,Option.bind_some,ptrsOf_row_of h]
 by_cases c:∀p∈rowOf b 0 16,okP p
 · rw[if_pos c,if_pos c];rfl
 · rw[if_neg c,if_neg c];rfl
end Go.Ow
namespace Go.Ow
theorem numb_run{m:Nat}(hm:m≤4):∀(k i f:Nat) (n:UInt32) (r:List UInt8),i+k=m→k<f→r.length+k≤1000→run (ref10_Number_l1 (m:Int)) f (n,r,(i:Int))=some (r++leB n.toNat k)
  | 0,i,f,n,r,hi,hf,hr=>by
    obtain⟨f,rfl⟩:∃q,f=q+1:=⟨f-1,by omega⟩
    refine Zl ?_
    unfold ref10_Number_l1
    dsimp only
    rw[decide_eq_false (by omega),cond_false,leB,List.append_nil]
  | k +1,i,f,n,r,hi,hf,hr=>by
    obtain⟨f,rfl⟩:∃q,f=q+1:=⟨f-1,by omega⟩
    rw[run_st (s':=(n/256,r++ [(n%256).toUInt8],((i+1:Nat):Int))) (by
      unfold ref10_Number_l1
      dsimp only
      rw[decide_eq_true (by omega),cond_true,Zv (lim_le (by simp;omega)),Zp (by omega) (by omega)];rfl)]
    have hd:(n/256).toNat=n.toNat/256:=by rw[UInt32.toNat_div];rfl
    have hb:(n%256).toUInt8=UInt8.ofNat n.toNat:=by
      apply UInt8.toNat_inj.1
      rw[UInt32.toNat_toUInt8,UInt32.toNat_mod,UInt8.toNat_ofNat',show(256:UInt32).toNat=256 from rfl];omega
    rw[numb_run hm k (i+1) f (n/256) _ (by omega) (by omega) (by simp;omega),hd,hb,leB,List.append_assoc];rfl
theorem ref_number (n:UInt32){m:Nat}(hm:m≤4):ref10_Number n (m:Int)=some (leB n.toNat m):=by
 unfold ref10_Number
 have:=numb_run hm m 0 10 n [] (by omega) (by omega) (by simp;omega)
 rw[show loop (ref10_Number_l1 (m:Int)) (n,([]:List UInt8),0)=_ from loop_of (by decide) this,Option.bind_some,List.nil_append]
theorem ref_bytes{p:Ptr}(h:okP p):ref10_Bytes p=some (ptrB p):=by
 unfold ref10_Bytes
 have hat: [u8i p.At]=leB p.At.toNat 1:=by
  obtain⟨n,hn⟩:=Int.eq_ofNat_of_zero_le (show 0≤p.At by rcases h with h|h;exact Int.le_of_eq h.1.symm;have:=h.1;omega)
  rw[hn,u8i_nat,Int.toNat_natCast];rfl
 have l1:=leB_length p.At.toNat 1
 have l2:=leB_length p.Birth.toNat 3
 have l3:=leB_length p.Iv.toNat 4
 have l4:=leB_length p.Tag.toNat 4
 have l5:=leB_length p.Sum.toNat 4
 rw[show(3:Int)=((3:Nat):Int)from rfl,show(4:Int)=((4:Nat):Int)from rfl,ref_number _ (by omega),Option.bind_some,hat,Zv (lim_le (by omega)),Option.bind_some,ref_number _ (by omega),Option.bind_some,Zv (lim_le (by rw[List.length_append];omega)),ref_number _ (by omega),Option.bind_some,
  Zv (lim_le (by simp only[List.length_append];omega)),ref_number _ (by omega),Option.bind_some,Zv (lim_le (by simp only[List.length_append];omega))]
 rfl
end Go.Ow
namespace Go.Ow
end Go.Ow
namespace Go.Ow
theorem ref_same10 (l:List Ptr)(h:l.length≤100000):ref10_Same l l=some true:=by
  unfold ref10_Same
  rw[nbeq rfl,cond_false]
  have key:∀(k i n:Nat),i+k=l.length→k<n→run (ref10_Same_l1 l l) n i=some (.inl ()):=by
    intro k
    induction k with
    | zero=>
      intro i n hi hn
      obtain⟨n,rfl⟩:∃m,n=m+1:=⟨n-1,by omega⟩
      exact Zl (by unfold ref10_Same_l1;rw[decide_eq_false (by omega)];rfl)
    | succ k ih=>
      intro i n hi hn
      obtain⟨n,rfl⟩:∃m,n=m+1:=⟨n-1,by omega⟩
      rw[run_go (s':=i+1) (by unfold ref10_Same_l1;rw[decide_eq_true (by omega),cond_true,ZW _ (show i<l.length by omega),ZW _ (show i<l.length by omega),ptr_dec,decide_eq_true rfl];rfl)]
      exact ih (i+1) n (by omega) (by omega)
  rw[show loop (ref10_Same_l1 l l) 0=some (.inl ())from key l.length 0 FUEL (by omega) (Nat.lt_of_le_of_lt h (by decide))];rfl
theorem same09_l1 (d:Disk):∀(k i n:Nat),i+k=d.Blocks.length→k<n→run (ref09_Same_l1 d d) n ((0:Int),i)=some 0
  | 0,i,n,hi,hn=>by
    obtain⟨n,rfl⟩:∃m,n=m+1:=⟨n-1,by omega⟩
    exact Zl (by unfold ref09_Same_l1;dsimp only;rw[decide_eq_false (by omega)];rfl)
  | k+1,i,n,hi,hn=>by
    obtain⟨n,rfl⟩:∃m,n=m+1:=⟨n-1,by omega⟩
    rw[run_go (s':=((0:Int),i+1)) (by unfold ref09_Same_l1;dsimp only;rw[decide_eq_true (by omega),cond_true,ZW _ (show i<d.Blocks.length by omega),ZW _ (show i<d.Blocks.length by omega),nbeq rfl,cond_false])]
    exact same09_l1 d k (i+1) n (by omega) (by omega)
theorem same09_l2 (d:Disk):∀(k i n:Nat),i+k=d.Waits.length→k<n→run (ref09_Same_l2 d d) n ((0:Int),i)=some 0
  | 0,i,n,hi,hn=>by
    obtain⟨n,rfl⟩:∃m,n=m+1:=⟨n-1,by omega⟩
    exact Zl (by unfold ref09_Same_l2;dsimp only;rw[decide_eq_false (by omega)];rfl)
  | k+1,i,n,hi,hn=>by
    obtain⟨n,rfl⟩:∃m,n=m+1:=⟨n-1,by omega⟩
    rw[run_go (s':=((0:Int),i+1)) (by unfold ref09_Same_l2;dsimp only;rw[decide_eq_true (by omega),cond_true,ZW _ (show i<d.Waits.length by omega),ZW _ (show i<d.Waits.length by omega),nbeq rfl,cond_false,nbeq rfl,cond_false])]
    exact same09_l2 d k (i+1) n (by omega) (by omega)
theorem ref_same09{d:Disk}(hs:Sized d):ref09_Same d d=some true:=by
 unfold ref09_Same
 rw[nbeq rfl,cond_false,nbeq rfl,cond_false,show loop (ref09_Same_l1 d d) (0,0)=some 0 from same09_l1 d d.Blocks.length 0 FUEL (by omega) (Nat.lt_of_le_of_lt hs.blocks (by decide)),Option.bind_some,show loop (ref09_Same_l2 d d) (0,0)=some 0 from same09_l2 d d.Waits.length 0 FUEL (by omega) (Nat.lt_of_le_of_lt hs.waits (by decide)),Option.bind_some]
 rfl
theorem ref_same13{s:Store}(hs:Sized s.Disk):ref13_Same s s=some true:=by
 unfold ref13_Same
 rw[show(Disk.mk s.Disk.Blocks s.Disk.Waits)=s.Disk from rfl,ref_same09 hs,Option.bind_some,cond_true,decide_eq_true rfl,cond_true,decide_eq_true rfl,cond_true,decide_eq_true rfl];rfl
structure FitD (d:Disk):Prop where
  blocks:d.Blocks.length≤140737488351232
  waits:d.Waits.length≤140737488351232
  block:∀b∈d.Blocks,b.length≤140737488351232
  wait:∀w∈d.Waits,w.Data.length≤140737488351232
theorem great_l1{d:Disk}(h:FitD d):∀(k i f c:Nat),i+k=d.Blocks.length→k<f→c≤140737490351232→∃c':Nat,run (ref09_Great_l1 d) f ((c:Int),i)=some (c':Int)∧c≤c'∧c'≤140737490351232∧(c'<2000000→∀b∈d.Blocks.drop i,b.length≤c')
  | 0,i,f,c,hi,hf,hc=>by
    obtain⟨f,rfl⟩:∃q,f=q+1:=⟨f-1,by omega⟩
    refine⟨c,Zl ?_,Nat.le_refl _,hc,λ_ b hb=> ?_⟩
    · unfold ref09_Great_l1
      dsimp only
      rw[decide_eq_false (by omega)];rfl
    · rw[List.drop_eq_nil_of_le (by omega)]at hb;cases hb
  | k + 1,i,f,c,hi,hf,hc=>by
    obtain⟨f,rfl⟩:∃q,f=q+1:=⟨f-1,by omega⟩
    have hlt:i<d.Blocks.length:=by omega
    have hb:=h.block _ (List.getElem_mem hlt)
    by_cases c1:c<2000000
    · obtain⟨c',h1,h2,h3,h4⟩:=great_l1 h k (i+1) f (c+(d.Blocks[i]).length) (by omega) (by omega) (by omega)
      refine⟨c',?_,by omega,h3,λhc' b hb'=> ?_⟩
      · rw[run_st (s':=(((c+(d.Blocks[i]).length:Nat):Int),i+1)) (by unfold ref09_Great_l1;dsimp only;rw[decide_eq_true (by omega),cond_true,decide_eq_true (by omega),cond_true,ZW _ hlt,Zp (by omega) (by omega)];rfl)];exact h1
      · rw[List.drop_eq_getElem_cons hlt]at hb'
        rcases List.mem_cons.1 hb' with rfl|hb'
        · omega
        · exact h4 hc' b hb'
    · refine⟨c,Zl ?_,Nat.le_refl _,hc,λhc'=>absurd hc' c1⟩
      unfold ref09_Great_l1
      dsimp only
      rw[decide_eq_true (by omega),cond_true,decide_eq_false (by omega)];rfl
theorem great_l2{d:Disk}(h:FitD d):∀(k i f c:Nat),i+k=d.Waits.length→k<f→c≤140737490351232→∃c':Nat,run (ref09_Great_l2 d) f ((c:Int),i)=some (c':Int)∧c≤c'∧c'≤140737490351232∧(c'<2000000→∀w∈d.Waits.drop i,w.Data.length≤c')
  | 0,i,f,c,hi,hf,hc=>by
    obtain⟨f,rfl⟩:∃q,f=q+1:=⟨f-1,by omega⟩
    refine⟨c,Zl ?_,Nat.le_refl _,hc,λ_ b hb=> ?_⟩
    · unfold ref09_Great_l2
      dsimp only
      rw[decide_eq_false (by omega)];rfl
    · rw[List.drop_eq_nil_of_le (by omega)]at hb;cases hb
  | k + 1,i,f,c,hi,hf,hc=>by
    obtain⟨f,rfl⟩:∃q,f=q+1:=⟨f-1,by omega⟩
    have hlt:i<d.Waits.length:=by omega
    have hb:=h.wait _ (List.getElem_mem hlt)
    by_cases c1:c<2000000
    · obtain⟨c',h1,h2,h3,h4⟩:=great_l2 h k (i+1) f (c+(d.Waits[i]).Data.length) (by omega) (by omega) (by omega)
      refine⟨c',?_,by omega,h3,λhc' b hb'=> ?_⟩
      · rw[run_st (s':=(((c+(d.Waits[i]).Data.length:Nat):Int),i+1)) (by unfold ref09_Great_l2;dsimp only;rw[decide_eq_true (by omega),cond_true,decide_eq_true (by omega),cond_true,ZW _ hlt,Zp (by omega) (by omega)];rfl)];exact h1
      · rw[List.drop_eq_getElem_cons hlt]at hb'
        rcases List.mem_cons.1 hb' with rfl|hb'
        · omega
        · exact h4 hc' b hb'
    · refine⟨c,Zl ?_,Nat.le_refl _,hc,λhc'=>absurd hc' c1⟩
      unfold ref09_Great_l2
      dsimp only
      rw[decide_eq_true (by omega),cond_true,decide_eq_false (by omega)];rfl
theorem great_small{d:Disk}(h:FitD d)(hg:ref09_Great d=some false):SmallD d:=by
 have hb:=h.blocks
 have hw:=h.waits
 obtain⟨c,e1,-,e3,e4⟩:=great_l1 h d.Blocks.length 0 (d.Blocks.length+1) 0 (by omega) (by omega) (by omega)
 obtain⟨c',f1,f2,f3,f4⟩:=great_l2 h d.Waits.length 0 (d.Waits.length+1) c (by omega) (by omega) (by omega)
 have hF:FUEL=18446744073709551616:=rfl
 unfold ref09_Great at hg
 rw[show loop (ref09_Great_l1 d) (0,0)=some (c:Int)from loop_of (by omega) e1,Option.bind_some,show loop (ref09_Great_l2 d) ((c:Int),0)=some (c':Int)from loop_of (by omega) f1,Option.bind_some]at hg
 rw[List.drop_zero]at e4 f4
 have fin:∀x:Option (Unit ⊕ Unit),x=some (.inl ())∨x=some (.inr ())→(Option.bind x λt_5=>Sum.elim (λ_=>some (decide (2000000≤(c':Int)))) (λ_=>some true) t_5)=some false→x=some (.inl ())∧c'<2000000:=by
  rintro x (rfl|rfl) hx
  · refine⟨rfl,?_⟩
    have:=of_decide_eq_false (Option.some.inj hx)
    omega
  · cases hx
 by_cases k1:(500:Int)<(d.Blocks.length:Int)
 · rw[decide_eq_true k1]at hg;cases hg
 by_cases k2:(4106:Int)<(d.Waits.length:Int)
 · rw[decide_eq_false k1,decide_eq_true (show(500:Int)<(d.Waits.length:Int) by omega),decide_eq_false (show¬(d.Waits.length:Int)<4096 by omega),decide_eq_true k2]at hg;cases hg
 have hc:c'<2000000:=by
  refine(fin _ ?_ hg).2
  rw[decide_eq_false k1,cond_false,decide_eq_false k2]
  by_cases k3:(500:Int)<(d.Waits.length:Int)
  · rw[decide_eq_true k3,cond_true]
    by_cases k4:(d.Waits.length:Int)<4096
    · rw[decide_eq_true k4];exact .inr rfl
    · rw[decide_eq_false k4];exact .inl rfl
  · rw[decide_eq_false k3];exact .inl rfl
 exact⟨by omega,by omega,λb hb=>by have:=e4 (by omega) b hb;omega,λw hw=>by have:=f4 hc w hw;omega⟩
theorem great13_small{s:Store}(h:FitD s.Disk)(hg:ref13_Great s=some false):SmallS s:=by
  unfold ref13_Great at hg
  rw[show(Disk.mk s.Disk.Blocks s.Disk.Waits)=s.Disk from rfl]at hg
  cases e:ref09_Great s.Disk with
  |none=>rw[e]at hg;cases hg
  | some g=>
    rw[e]at hg
    cases g with
    |true=>cases hg
    | false=>
      refine⟨great_small h e,?_⟩
      have:decide ((10000:Int)<(s.Space.length:Int))=false:=Option.some.inj hg
      have:=of_decide_eq_false this
      omega
end Go.Ow
namespace Go.Ow
end Go.Ow
namespace Go.Ow
end Go.Ow
namespace Go.Ow
def freesL (s:List UInt8)(i k:Nat):List Int:=((List.range' i k).filter λj=>s.getD j 1==0).map fun(j:Nat)=>(j:Int)
theorem all12_run{s:List UInt8}(hs:s.length=256):∀(k i f:Nat) (acc:List Int),i+k=256→k<f→acc.length+k≤1000→run (ref12_All_l1 s) f (acc,i)=some (acc++freesL s i k)
  | 0,i,f,acc,hi,hf,ha=>by
    obtain⟨f,rfl⟩:∃q,f=q+1:=⟨f-1,by omega⟩
    refine Zl ?_
    unfold ref12_All_l1
    dsimp only
    rw[decide_eq_false (by omega),cond_false];simp[freesL]
  | k + 1,i,f,acc,hi,hf,ha=>by
    obtain⟨f,rfl⟩:∃q,f=q+1:=⟨f-1,by omega⟩
    have hlt:i<s.length:=by omega
    have hg:s.getD i 1=s[i]:=by rw[List.getD_eq_getElem?_getD,List.getElem?_eq_getElem hlt];rfl
    by_cases c:s[i]=0
    · have e:freesL s i (k+1)=(i:Int)::freesL s (i+1) k:=by
        unfold freesL;rw[List.range'_succ,List.filter_cons,hg,c];rfl
      rw[e,run_st (s':=(acc++ [(i:Int)],i+1)) (by unfold ref12_All_l1;dsimp only;rw[decide_eq_true (by omega),cond_true,ZW _ hlt,decide_eq_true c,cond_true,Zv (lim_le (by simp;omega))]),
        all12_run hs k (i+1) f _ (by omega) (by omega) (by simp;omega),List.append_assoc];rfl
    · have e:freesL s i (k+1)=freesL s (i+1) k:=by
        unfold freesL;rw[List.range'_succ,List.filter_cons,hg,if_neg (by simpa using c)]
      rw[e,run_st (s':=(acc,i+1)) (by unfold ref12_All_l1;dsimp only;rw[decide_eq_true (by omega),cond_true,ZW _ hlt,decide_eq_false c,cond_false]),
        all12_run hs k (i+1) f acc (by omega) (by omega) (by omega)]
theorem ref_all12{s:List UInt8}(hs:s.length=256):ref12_All s=some (freesL s 0 256):=by
 unfold ref12_All
 rw[show loop (ref12_All_l1 s) (([]:List Int),0)=some (freesL s 0 256)from loop_of (n:=300) (by decide) (all12_run hs 256 0 300 [] (by omega) (by omega) (by simp)),Option.bind_some]
theorem freesL_head{s:List UInt8}(hs:s.length=256):(freesL s 0 256).head? =Option.map (λj:Nat=>(j:Int)) (freeFrom s 0):=by
 unfold freesL freeFrom
 rw[List.head?_map,List.head?_filter,hs]
def putS (s:Store)(birth iv tag:UInt32)(b:List UInt8):Option (Store×Ptr):=match freeFrom s.Space 0 with
 |none=>none
 |some j=>if s.Disk.Waits.length=4096 then none else some (⟨⟨s.Disk.Blocks,s.Disk.Waits++ [⟨(j:Int),b⟩]⟩,s.Space.set j 1,s.Epoch,s.Count⟩,⟨(j:Int),birth,iv,tag,sumOf b⟩)
def endS (o:Option (Store×Ptr)):Store×Ptr×Int:=match o with
 |none=>(noS,noP,9)
 |some (t,q)=>(t,q,0)
theorem putS_ok{s:Store}(h:OKSt s){birth iv tag:UInt32}{b:List UInt8}(hb:b.length=256){t:Store}{q:Ptr}(e:putS s birth iv tag b=some (t,q)):OKSt t:=by
  unfold putS at e
  cases hf:freeFrom s.Space 0 with
  |none=>rw[hf]at e;cases e
  | some j=>
    rw[hf]at e
    dsimp only at e
    by_cases c:s.Disk.Waits.length=4096
    · rw[if_pos c]at e;cases e
    · rw[if_neg c]at e
      obtain⟨rfl,rfl⟩:=Prod.mk.injEq .. ▸(Option.some.inj e)
      exact PutAt.okt (s:=s) (p:=⟨0,birth,iv,tag,0⟩) (b:=b) (j:=j) ⟨h,hb,hf,c,rfl,rfl⟩
theorem store_put_is{s:Store}(h:OKSt s)(birth iv tag:UInt32){b:List UInt8}(hb:b.length=256):store_put s ⟨0,birth,iv,tag,0⟩ b=some (endS (putS s birth iv tag b)):=by
  unfold store_put putS
  rw[space_Take_eq,Option.bind_some]
  unfold takeS
  rw[if_pos h.2.1]
  cases hf:freeFrom s.Space 0 with
  |none=>rfl
  | some j=>
    have hp:=free_high h.2.1 (freeFrom_some hf).2.2
    dsimp only
    rw[zdec,cond_false,dev_Write_eq h.1.sized (inI64_of ⟨by omega,by omega⟩),Option.bind_some,writeD_ok h.1 hp.2 hb]
    by_cases c:s.Disk.Waits.length=4096
    · rw[if_pos c,if_pos c];rfl
    · rw[if_neg c,if_neg c]
      dsimp only
      rw[zdec,cond_false,mix_Sum_eq (by omega),Option.bind_some];rfl
theorem small_st{s:Store}(h:OKSt s):SmallS s:=
 ⟨⟨by rw[h.1.1];omega,by have:=h.1.2.1;omega,λb hb=>by rw[h.1.2.2.1 b hb];omega,λw hw=>by rw[((okW_iff w).1 (h.1.2.2.2 w hw)).2];omega⟩,by rw[h.2.1.1];omega⟩
theorem ref_put_is{s:Store}(h:OKSt s)(birth iv tag:UInt32){b:List UInt8}(hb:b.length=256):
    ref13_Put s birth iv tag b=some (match putS s birth iv tag b with|none=>(noS,noP,false)|some (t,q)=>(t,q,true)):=by
  have hl:=h.2.1.1
  have hh:=freesL_head hl
  have hw:=h.1.2.1
  unfold ref13_Put putS
  rw[ref_all12 hl,Option.bind_some]
  cases hf:freeFrom s.Space 0 with
  | none=>
    rw[hf]at hh
    rw[List.head?_eq_none_iff.1 hh];rfl
  | some j=>
    have hj:=(freeFrom_some hf).2.1
    rw[hf]at hh
    obtain⟨r,hr⟩:∃r,freesL s.Space 0 256=(j:Int)::r:=by
      cases e:freesL s.Space 0 256 with
      |nil=>rw[e]at hh;cases hh
      |cons y r=>rw[e]at hh;exact⟨r,by rw[show y=(j:Int)from Option.some.inj hh]⟩
    have hi:∀{β:Type} (k:Int→Option β),idx ((j:Int)::r) 0 k=k (j:Int):=λk=>idx_eq ⟨by omega,rfl⟩
    rw[hr,decide_eq_false (by simp only[List.length_cons];omega),cond_false]
    dsimp only
    by_cases c:s.Disk.Waits.length=4096
    · rw[decide_eq_true (by omega),if_pos c];rfl
    · rw[decide_eq_false (by omega),if_neg c,cond_false,hi]
      unfold ref12_With ref09_With
      rw[app_nil (by omega),chk_eq ⟨by omega,by rw[Int.toNat_natCast];exact hj⟩,setI_eq (by omega) (by rw[Int.toNat_natCast];exact hj),Option.bind_some,hi,show(Disk.mk s.Disk.Blocks s.Disk.Waits)=s.Disk from rfl,ref_twin9 (small_st h).disk,Option.bind_some,app_nil (by omega),Zv (lim_le (by simp only[List.length_cons,List.length_nil];omega)),Option.bind_some,hi,ref_sum_eq (by omega),Option.bind_some]
      rfl
def rawS (s:Store)(birth iv tag:UInt32)(b:List UInt8):Store×Ptr×Int:=if askErr s birth (b.length=256)=0 then endS (putS s birth iv tag b)else(noS,noP,askErr s birth (b.length=256))
theorem store_Raw_is{s:Store}(h:Sized s.Disk)(birth iv tag:UInt32)(b:List UInt8):store_Raw s birth iv tag b=some (rawS s birth iv tag b):=by
 unfold rawS
 by_cases c:askErr s birth (b.length=256)=0
 · rw [if_pos c]
   have c':=c
   unfold askErr at c'
   by_cases c1:OKSt s
   · by_cases c2:birthOk birth
     · by_cases c3:b.length=256
       · unfold store_Raw
         rw[asked_core h birth 256 [b] (b.length=256) (by rw[asked_loop1];congr 1;by_cases c:b.length=256<;>simp[c]<;>omega),Option.bind_some,c,zdec,cond_false,store_put_is c1 birth iv tag c3,Option.bind_some]
       · rw[if_pos c1,if_pos c2,if_neg c3]at c';omega
     · rw[if_pos c1,if_neg c2]at c';omega
   · rw[if_neg c1]at c';omega
 · rw[if_neg c,raw_err h birth iv tag b c]
theorem ask_none{s:Store}{birth:UInt32}{ok:Prop} [Decidable ok](h1:OKSt s)(h2:birthOk birth)(h3:ok):askErr s birth ok=0:=by unfold askErr;rw[if_pos h1,if_pos h2,if_pos h3]
theorem birth_cases (birth:UInt32):(birthOk birth∧¬birth<1∧¬16777215<birth)∨(¬birthOk birth∧(birth<1∨(¬birth<1∧16777215<birth))):=by
 by_cases c1:birth<1
 · exact .inr ⟨λh=>UInt32.not_le.2 c1 h.1,.inl c1⟩
 · by_cases c2:16777215<birth
   · exact .inr ⟨λh=>UInt32.not_le.2 c2 h.2,.inr ⟨c1,c2⟩⟩
   · exact .inl ⟨⟨UInt32.not_lt.1 c1,UInt32.not_lt.1 c2⟩,c1,c2⟩
theorem store_Lay_is{s:Store}(h:Sized s.Disk)(birth:UInt32)(b:List UInt8):store_Lay s birth b=some (rawS s birth 0 0 b):=by rw[lay_raw,store_Raw_is h]
end Go.Ow
namespace Go.Ow
end Go.Ow
namespace Go.Ow
theorem lookS_len{s:Store}{p:Ptr}(h:(lookS s p).2=0):(lookS s p).1.length=256:=by
 unfold lookS at h⊢
 by_cases c:OKSt s∧(isNone p∨okR p)
 · rw [if_pos c]at h⊢
   by_cases d:isNone p
   · rw[if_pos d]at h;cases h
   · rw[if_neg d]at h⊢
     by_cases e:sumOf ((seenB s.Disk).getD p.At.toNat [])=p.Sum
     · rw[if_pos e]
       have hr:=c.2.resolve_left d
       exact seen_mem c.1.1 (by have:=hr.1;have:=hr.2.1;omega)
     · rw[if_neg e]at h;cases h
 · rw[if_neg c]at h;cases h
end Go.Ow
namespace Go.Ow
end Go.Ow
namespace Go.Ow
end Go.Ow
namespace Go.Ow
theorem cut_big (bs:List (List UInt8))(h:bs.length≤1000)(hb:∀b∈bs,b.length≤2000000):dev_cut (bs.map λb=>(b.length:Int))=some (bs.map λb=>List.replicate b.length 0):=by
 unfold dev_cut
 have e1:(bs.map λb=>(b.length:Int)).map Int.toNat=bs.map List.length:=by rw[List.map_map];rfl
 have e2:=sum_le_mul (l:=bs.map List.length) (k:=2000000) (λx hx=>by obtain⟨b,h1,rfl⟩:=List.mem_map.1 hx;exact hb b h1)
 rw[List.length_map]at e2
 rw[if_pos ⟨λn hn=>by obtain⟨b,_,rfl⟩:=List.mem_map.1 hn;omega,by rw[e1];simp only[LIM];omega,by simp only[List.length_map,LIM];omega⟩,List.map_map]
 rfl
theorem clone_big{l:List UInt8}(h:l.length≤2000000):bytes_Clone l=some l:=by
 unfold bytes_Clone;rw[Zv (by simp only[List.length_nil,LIM];omega)];rfl
theorem twin_l3_big (d:Disk)(h:d.Waits.length≤5000)(hw:∀w∈d.Waits,w.Data.length≤2000000):loop (dev_Twin_l3 d) (([]:List Write),0)=some d.Waits:=by
 rw[loop_each d.Waits (λi (r:List Write)=>(r,i)) (λb r=>some (.inl (r++ [b]))) (λr=>r) (λi r=>r.length=i) (λi hi r hr=> ?_) (λi hi r r' hr e=> ?_) (λr _=> ?_) (small_lt (by omega)) rfl,forL_map]
 · show some _=some _
   congr 1
   suffices H:∀(l:List Write) (a:List Write),l.foldl (λr b=>r++ [b]) a=a++l by simpa using H d.Waits []
   intro l
   induction l with
   |nil=>simp
   |cons b l ih=>intro a;simp[ih]
 · unfold dev_Twin_l3
   rw[cI,if_pos hi,ZW _ hi,clone_big (hw _ (List.getElem_mem hi))]
   simp only[Option.bind_some]
   rw[Zv (by simp only[List.length_cons,List.length_nil,LIM];omega)]
   rfl
 · simp only[Option.some.injEq,Sum.inl.injEq]at e;subst e;simp[hr]
 · unfold dev_Twin_l3
   rw[cI,if_neg (by omega)]
structure Few (s:Store):Prop where
  small:SmallS s
  blocks:s.Disk.Blocks.length≤1000
  waits:s.Disk.Waits.length≤5000
  space:s.Space.length≤1000000
theorem great_few{d:Disk}(hg:ref09_Great d=some false):d.Blocks.length≤1000∧d.Waits.length≤5000:=by
 unfold ref09_Great at hg
 by_cases k1:(500:Int)<(d.Blocks.length:Int)
 · rw[decide_eq_true k1]at hg;cases hg
 by_cases k2:(4106:Int)<(d.Waits.length:Int)
 · rw[decide_eq_false k1,decide_eq_true (show(500:Int)<(d.Waits.length:Int) by omega),decide_eq_false (show¬(d.Waits.length:Int)<4096 by omega),decide_eq_true k2]at hg;cases hg
 exact⟨by omega,by omega⟩
theorem great13_few{s:Store}(h:FitD s.Disk)(hg:ref13_Great s=some false):Few s:=by
  have hs:=great13_small h hg
  unfold ref13_Great at hg
  rw[show(Disk.mk s.Disk.Blocks s.Disk.Waits)=s.Disk from rfl]at hg
  cases e:ref09_Great s.Disk with
  |none=>rw[e]at hg;cases hg
  | some g=>
    rw[e]at hg
    cases g with
    |true=>cases hg
    | false=>
      have:decide ((10000:Int)<(s.Space.length:Int))=false:=Option.some.inj hg
      have:=of_decide_eq_false this
      exact⟨hs,(great_few e).1,(great_few e).2,by omega⟩
theorem store_Twin_big{s:Store}(h:Few s):store_Twin s=some s:=by
 have hd:dev_Twin s.Disk=some s.Disk:=by
  unfold dev_Twin
  rw[twin_l1 _ h.blocks]
  simp only[Option.bind_some]
  rw[cut_big _ h.blocks h.small.disk.block]
  simp only[Option.bind_some]
  rw[twin_l2 _ h.blocks]
  simp only[Option.bind_some]
  rw[twin_l3_big _ h.waits h.small.disk.wait]
  rfl
 unfold store_Twin
 rw[show(Disk.mk s.Disk.Blocks s.Disk.Waits)=s.Disk from rfl,hd,Option.bind_some,clone_big h.small.space]
 rfl
end Go.Ow
namespace Go.Ow
theorem fuel12{n:Nat}(h:n≤1000000000000):n+2<FUEL:=Nat.lt_of_le_of_lt (Nat.add_le_add_right h 2) (by decide)
def AllOk{α:Type}(l:List α)(ok:Nat→α→Bool):Prop:=∀i (h:i<l.length),ok i l[i]=true
theorem loop_tests{α:Type}(l:List α)(ok:Nat→α→Bool){body:Nat→Option (Nat ⊕ (Unit ⊕ Unit))}
    (step:∀i (h:i<l.length),body i=some (if ok i l[i]then .inl (i+1)else .inr (.inr ())))
    (stop:body l.length=some (.inr (.inl ())))(hl:l.length≤1000000000000):
    ∃t,loop body 0=some t∧((t=.inl ()∧AllOk l ok)∨(t=.inr ()∧¬AllOk l ok)):=by
  have key:∀(k i f:Nat),i+k=l.length→k<f→(∀j (h:j<l.length),j<i→ok j l[j]=true)→∃t,run body f i=some t∧((t=.inl ()∧AllOk l ok)∨(t=.inr ()∧¬AllOk l ok)):=by
    intro k
    induction k with
    | zero=>
      intro i f hi hf hall
      obtain⟨f,rfl⟩:∃g,f=g+1:=⟨f-1,by omega⟩
      obtain rfl:i=l.length:=by omega
      exact⟨.inl (),by unfold run;rw[stop];rfl,.inl ⟨rfl,λj h=>hall j h h⟩⟩
    | succ k ih=>
      intro i f hi hf hall
      obtain⟨f,rfl⟩:∃g,f=g+1:=⟨f-1,by omega⟩
      have hlt:i<l.length:=by omega
      by_cases c:ok i l[i]=true
      · obtain⟨t,h1,h2⟩:=ih (i+1) f (by omega) (by omega) (λj h hj=>by
          rcases Nat.lt_or_ge j i with h'|h'
          · exact hall j h h'
          · obtain rfl:j=i:=by omega
            exact c)
        refine⟨t,?_,h2⟩
        unfold run;rw[step i hlt,if_pos c];exact h1
      · refine⟨.inr (),?_,.inr ⟨rfl,λh=>c (h i hlt)⟩⟩
        unfold run;rw[step i hlt,if_neg c];rfl
  exact key l.length 0 FUEL (by omega) (by have:=fuel12 hl;omega) (λj h hj=>by omega)
def sgI (a b:Int):Int:=if a<b then -1 else if b<a then 1 else 0
theorem cmp_int (a b:Int):cmp_Compare_int a b=some (sgI a b):=by
 unfold cmp_Compare_int cmp_isNaN_int sgI
 by_cases h1:a<b
 · simp[h1]
 · by_cases h2:b<a<;>simp[h1,h2]
theorem sgI_neg{a b:Int}:sgI a b<0↔a<b:=by
 unfold sgI
 by_cases h1:a<b
 · simp[h1]
 · by_cases h2:b<a<;>simp[h1,h2]
end Go.Ow
namespace Go.Ow
end Go.Ow
namespace Go.Ow
noncomputable def dec (p:Prop):Bool:=@decide p (Classical.propDecidable p)
theorem dec_t{p:Prop}(h:p):dec p=true:=by unfold dec;exact @decide_eq_true p (Classical.propDecidable p) h
theorem dec_f{p:Prop}(h:¬p):dec p=false:=by unfold dec;exact @decide_eq_false p (Classical.propDecidable p) h
theorem of_dec{p:Prop}(h:dec p=true):p:=Classical.byContradiction λc=>by rw[dec_f c]at h;cases h
theorem beq_t (i n:Nat)(h:i<n):decide ((i:Int)<(n:Int))=true:=decide_eq_true (by omega)
theorem beq_f (n:Nat):decide ((n:Int)<(n:Int))=false:=decide_eq_false (by omega)
theorem pred_int{i:Nat}(h:i≠0)(hi:i≤1000000000000):w64 ((i:Int)-1)=((i-1:Nat):Int):=by rw[Zp (by omega) (by omega)];omega
theorem pos_int{i:Nat}(h:i≠0):decide (0<(i:Int))=true:=decide_eq_true (by omega)
def okE (d:List Ptr)(i:Nat)(p:Ptr):Bool:=!decide (isNone p)&&(decide (okP p)&&(decide (i=0) ||(d[i-1]?.any λq=>decide (q.At<p.At))))
def deadOk (d:List Ptr):Prop:=d.length≤240∧AllOk d (okE d)
theorem noneB_eq (p:Ptr):(decide (p.At=0)&&(decide (p.Birth=(0:UInt32))&&(decide (p.Iv=(0:UInt32))&&(decide (p.Tag=(0:UInt32))&&(decide (p.Sum=(0:UInt32))&&true)))))=decide (isNone p):=by
 unfold isNone
 by_cases h1:p.At=0<;>by_cases h2:p.Birth=0<;>by_cases h3:p.Iv=0<;>by_cases h4:p.Tag=0<;>by_cases h5:p.Sum=0<;>simp[h1,h2,h3,h4,h5]
theorem check_okP (p:Ptr):ptr_Check p=some (if okP p then 0 else 8):=ptr_Check_eq' p
theorem dead_check (d:List Ptr):dead_Check d=some (if dec (deadOk d)then 0 else 8):=by
 unfold dead_Check
 by_cases hl:240<d.length
 · rw[decide_eq_true (show(240:Int)<(d.length:Int) by omega),cond_true,dec_f (λh=>by have:=h.1;omega)];rfl
 · rw [decide_eq_false (show¬(240:Int)<(d.length:Int) by omega),cond_false]
   obtain ⟨t,h1,h2⟩:=loop_tests d (okE d) (body:=dead_Check_l1 d) (λi h=>by
    unfold dead_Check_l1 okE
    rw[beq_t _ _ h,cond_true,ZW _ h]
    simp only[noneB_eq,check_okP,dead_order,cmp_int,Option.bind_some]
    by_cases c0:isNone d[i]
    · simp[c0]
    · by_cases c1:okP d[i]
      · by_cases c2:i=0
        · subst c2;simp[c0,c1]
        · have h3:i-1<d.length:=by omega
          simp only[pos_int c2,cond_true,pred_int c2 (by omega),ZW _ h3,List.getElem?_eq_getElem h3,Option.any_some]
          by_cases c3:d[i-1].At<d[i].At
          · simp[c0,c1,c3,sgI]
          · have:¬sgI d[i-1].At d[i].At<0:=λq=>c3 (sgI_neg.1 q)
            have:decide (0≤sgI d[i-1].At d[i].At)=true:=decide_eq_true (by omega)
            simp[c0,c1,c2,c3,this]
      · simp[c0,c1]) (by unfold dead_Check_l1;rw[beq_f,cond_false]) (by omega)
   rw[h1,Option.bind_some]
   rcases h2 with⟨rfl,h⟩|⟨rfl,h⟩
   · rw[dec_t ⟨by omega,h⟩];rfl
   · rw[dec_f (λq=>h q.2)];rfl
theorem ref_dead (d:List Ptr):ref16_May d=some (dec (deadOk d)):=by
 unfold ref16_May
 by_cases hl:240<d.length
 · rw[decide_eq_true (show(240:Int)<(d.length:Int) by omega),cond_true,dec_f (λh=>by have:=h.1;omega)]
 · rw [decide_eq_false (show¬(240:Int)<(d.length:Int) by omega),cond_false]
   obtain ⟨t,h1,h2⟩:=loop_tests d (okE d) (body:=ref16_May_l1 d) (λi h=>by
    unfold ref16_May_l1 okE ref16_one
    rw[beq_t _ _ h,cond_true,ZW _ h,ref_may10,ref_none,Option.bind_some,Option.bind_some]
    by_cases c0:isNone d[i]
    · have:okP d[i]:=.inl c0
      simp[c0,this]
    · by_cases c1:okP d[i]
      · by_cases c2:i=0
        · subst c2;simp[c0,c1]
        · have h3:i-1<d.length:=by omega
          simp only[pos_int c2,cond_true,pred_int c2 (by omega),ZW _ h3,ZW _ h,List.getElem?_eq_getElem h3,Option.any_some]
          by_cases c3:d[i-1].At<d[i].At
          · have:¬d[i].At≤d[i-1].At:=by omega
            simp[c0,c1,c3,this]
          · have:d[i].At≤d[i-1].At:=by omega
            simp[c0,c1,c2,c3,this]
      · simp[c0,c1]) (by unfold ref16_May_l1;rw[beq_f,cond_false]) (by omega)
   rw[h1,Option.bind_some]
   rcases h2 with⟨rfl,h⟩|⟨rfl,h⟩
   · rw[dec_t ⟨by omega,h⟩];rfl
   · rw[dec_f (λq=>h q.2)];rfl
end Go.Ow
namespace Go.Ow
end Go.Ow
namespace Go.Ow
def lt3 (a b c x y z:Int):Prop:=a<x∨(a=x∧(b<y∨(b=y∧c<z)))
instance (a b c x y z:Int):Decidable (lt3 a b c x y z):=by unfold lt3;infer_instance
end Go.Ow
namespace Go.Ow
end Go.Ow
namespace Go.Ow
end Go.Ow
namespace Go.Ow
end Go.Ow
namespace Go.Ow
theorem app_nil'{α β:Type}{l:List α}{k:List α→Option β}(h:l.length≤1000000):app [] l k=k l:=by rw[Zv (by simp only[List.length_nil,LIM];omega)];rfl
theorem all_loop{α:Type}(l:List α){body:Nat→Option (Nat ⊕ (Unit ⊕ Unit))}(step:∀i (h:i<l.length),body i=some (.inl (i+1)))(stop:body l.length=some (.inr (.inl ())))(hl:l.length≤1000000000000):loop body 0=some (.inl ()):=by
 obtain⟨t,h1,h2⟩:=loop_tests l (λ_ _=>true) (λi h=>by rw[step i h];rfl) stop hl
 rcases h2 with⟨rfl,-⟩|⟨-,h⟩
 · exact h1
 · exact absurd (λi h=>rfl) h
theorem refl32 (q:Ptr):(decide (q.At=q.At)&&(decide (q.Birth=q.Birth)&&(decide (q.Iv=q.Iv)&&(decide (q.Tag=q.Tag)&&(decide (q.Sum=q.Sum)&&true)))))=true:=by simp
theorem ref_same12 (l:List Int)(h:l.length≤1000000):ref12_Same l l=some true:=by
 unfold ref12_Same
 rw[nbeq rfl,cond_false,all_loop l (λi hi=>by unfold ref12_Same_l1;rw[beq_t _ _ hi,cond_true,ZW _ hi,ZW _ hi,nbeq rfl,cond_false]) (by unfold ref12_Same_l1;rw[beq_f,cond_false]) (by omega)];rfl
end Go.Ow
namespace Go.Ow
theorem first_run{α:Type}(l:List α)(t:α→Bool){body:Nat→Option (Nat ⊕ (Unit ⊕ Int))}(step:∀i (h:i<l.length),body i=some (if t l[i]then .inr (.inr (i:Int))else .inl (i+1)))
    (stop:body l.length=some (.inr (.inl ())))(hl:l.length≤1000000000000):loop body 0=some (match l.findIdx? t with|some i=>.inr (i:Int)|none=>.inl ()):=by
  have key:∀(k i f:Nat),i+k=l.length→k<f→(∀j (h:j<l.length),j<i→t l[j]=false)→run body f i=some (match l.findIdx? t with|some i=>.inr (i:Int)|none=>.inl ()):=by
    intro k
    induction k with
    | zero=>
      intro i f hi hf hall
      obtain⟨f,rfl⟩:∃g,f=g+1:=⟨f-1,by omega⟩
      obtain rfl:i=l.length:=by omega
      have:l.findIdx? t=none:=by
        rw[List.findIdx?_eq_none_iff]
        intro x hx
        obtain⟨j,hj,rfl⟩:=List.mem_iff_getElem.1 hx
        exact hall j hj hj
      rw[this];exact Zl stop
    | succ k ih=>
      intro i f hi hf hall
      obtain⟨f,rfl⟩:∃g,f=g+1:=⟨f-1,by omega⟩
      have hlt:i<l.length:=by omega
      cases q:t l[i]with
      | true=>
        have:l.findIdx? t=some i:=by
          rw[List.findIdx?_eq_some_iff_getElem]
          exact⟨hlt,q,λj hj=>by simpa using hall j (by omega) hj⟩
        rw[this]
        exact Zl (by rw[step i hlt,if_pos q])
      | false=>
        rw[run_st (s':=i+1) (by rw[step i hlt,if_neg (by rw[q];simp)])]
        refine ih (i+1) f (by omega) (by omega) (λj h hj=> ?_)
        rcases Nat.lt_or_ge j i with h'|h'
        · exact hall j h h'
        · obtain rfl:j=i:=by omega
          exact q
  exact key l.length 0 FUEL (by omega) (Nat.lt_of_le_of_lt hl (by decide)) (λj h hj=>by omega)
def noneB (p:Ptr):Bool:=decide (isNone p)
theorem index_no (l:List Ptr)(hl:l.length≤1000):slices_Index_Ptr l noP=some (match l.findIdx? noneB with|some i=>(i:Int)|none=> -1):=by
 unfold slices_Index_Ptr
 rw[first_run l noneB (body:=slices_Index_Ptr_l1 l noP) (λi h=>by
  unfold slices_Index_Ptr_l1
  rw[beq_t _ _ h,cond_true,ZW _ h,ptr_dec]
  have:decide (noP=l[i])=noneB l[i]:=by
   unfold noneB
   exact decide_eq_decide.2 ⟨λe=>by rw[←e];exact noP_none,λe=>(isNone.eq e).symm⟩
  rw[this]
  cases noneB l[i]<;>rfl) (by unfold slices_Index_Ptr_l1;rw[beq_f,cond_false]) (by omega),Option.bind_some]
 cases l.findIdx? noneB<;>rfl
theorem contains_nn (l:List Ptr)(hl:l.length≤1000):slices_ContainsFunc_Ptr_v2 l=some (l.any λp=> !noneB p):=by
  unfold slices_ContainsFunc_Ptr_v2 slices_IndexFunc_Ptr_v2
  rw[first_run l (λp=> !noneB p) (body:=slices_IndexFunc_Ptr_v2_l1 l) (λi h=>by
    unfold slices_IndexFunc_Ptr_v2_l1 dead_read_1
    rw[beq_t _ _ h,cond_true,ZW _ h,none_dec',Option.bind_some]
    show cond (!noneB l[i]) _ _=_
    cases noneB l[i]<;>rfl) (by unfold slices_IndexFunc_Ptr_v2_l1;rw[beq_f,cond_false]) (by omega),Option.bind_some]
  cases h:l.findIdx? (λp=> !noneB p)with
  | none=>
    rw[List.findIdx?_eq_none_iff]at h
    have:(l.any λp=> !noneB p)=false:=by rw[List.any_eq_false];intro x hx;simpa using h x hx
    rw[this];rfl
  | some i=>
    obtain⟨hi,h1,-⟩:=List.findIdx?_eq_some_iff_getElem.1 h
    have:(l.any λp=> !noneB p)=true:=List.any_eq_true.2 ⟨_,List.getElem_mem hi,h1⟩
    rw[this]
    show(Option.bind (some (i:Int)) λx_3=>some (decide (0≤x_3)))=some true
    rw[Option.bind_some,decide_eq_true (by omega)]
def trimS (l:List Ptr):Option (List Ptr):=match l.findIdx? noneB with
 |none=>some l
 |some k=>if(l.drop k).any (λp=> !noneB p)then none else some (l.take k)
theorem cut_take (l:List Ptr)(k:Nat):cut l 0 (k:Int)=l.take k:=by unfold cut;simp
theorem cut_drop (l:List Ptr)(k:Nat):cut l (k:Int) (l.length:Int)=l.drop k:=by
 unfold cut
 rw[Int.toNat_natCast,Int.toNat_natCast,List.take_of_length_le (by simp)]
def readS (s:Store)(p:Ptr):List Ptr ⊕ Int:=
 if(lookS s p).2=0 then(if(rowsB (lookS s p).1).2=0 then(match trimS (rowsB (lookS s p).1).1 with|some t=>if t= []then .inr 8 else .inl t|none=>.inr 8)else .inr 8)else .inr (lookS s p).2
theorem trimS_le{l t:List Ptr}(h:trimS l=some t):t.length≤l.length∧∀p∈t,p∈l:=by
 unfold trimS at h
 split at h
 · obtain rfl:=Option.some.inj h;exact⟨Nat.le_refl _,λp hp=>hp⟩
 · split at h
   · cases h
   · obtain rfl:=Option.some.inj h
     exact⟨by rw[List.length_take];omega,λp hp=>List.mem_of_mem_take hp⟩
theorem rowsB_len{b:List UInt8}(h:b.length=256)(e:(rowsB b).2=0):(rowsB b).1.length=16∧∀p∈(rowsB b).1,okP p:=by
 unfold rowsB at e⊢
 split at e
 · rename_i c;rw[if_pos c];exact⟨ptrsOf_length h,c⟩
 · cases e
theorem read_is{s:Store}(hs:Sized s.Disk)(p:Ptr):dead_read s p=some (readS s p):=by
  unfold dead_read readS
  rw[store_Look_eq hs,Option.bind_some]
  by_cases c1:(lookS s p).2=0
  · have hl:=lookS_len c1
    rw[nbeq c1,cond_false,if_pos c1,ptr_Rows_eq hl,Option.bind_some]
    by_cases c2:(rowsB (lookS s p).1).2=0
    · obtain⟨h16,-⟩:=rowsB_len hl c2
      rw[nbeq c2,cond_false,if_pos c2]
      generalize (rowsB (lookS s p).1).1=l at h16⊢
      rw[show Ptr.mk 0 (0:UInt32) (0:UInt32) (0:UInt32) (0:UInt32)=noP from rfl,index_no l (by omega),Option.bind_some]
      unfold trimS
      cases h:l.findIdx? noneB with
      | none=>
        have:l≠[]:=by intro e;rw[e]at h16;cases h16
        show cond (decide ((-1:Int)<0)) _ _=_
        rw[decide_eq_true (by omega),cond_true]
        show _=some (if l= []then Sum.inr 8 else Sum.inl l)
        rw[if_neg this]
      | some k=>
        obtain⟨hk,-,-⟩:=List.findIdx?_eq_some_iff_getElem.1 h
        show cond (decide ((k:Int)<0)) (some (.inl l):Option (List Ptr ⊕ Int)) (cond (decide ((k:Int)=0)) (cond true (some (.inr 8)) none) (slc l (k:Int) (l.length:Int) λm=>Option.bind (slices_ContainsFunc_Ptr_v2 m) λx=>cond x (some (.inr 8)) (slc l 0 (k:Int) λm=>some (.inl m))))=some (match (if(l.drop k).any (λp=> !noneB p)=true then none else some (l.take k))with|some t=>if t= []then Sum.inr 8 else Sum.inl t|none=>Sum.inr 8)
        rw[decide_eq_false (by omega),cond_false]
        by_cases k0:k=0
        · subst k0
          rw[decide_eq_true (by rfl),cond_true,cond_true,List.take_zero]
          cases(l.drop 0).any (λp=> !noneB p)<;>rfl
        · have hd:(l.drop k).length≤1000:=by rw[List.length_drop];omega
          rw[decide_eq_false (show¬(k:Int)=0 by omega),cond_false]
          rw[slc_eq (by omega) (by omega) (by omega)]
          rw[cut_drop,contains_nn _ hd,Option.bind_some]
          cases(l.drop k).any (λp=> !noneB p)with
          |true=>rfl
          | false=>
            rw[cond_false,slc_eq (by omega) (by omega) (by omega),cut_take]
            show _=some (if l.take k= []then Sum.inr 8 else Sum.inl (l.take k))
            rw[if_neg (by intro e;have:=congrArg List.length e;rw[List.length_take,List.length_nil]at this;omega)]
    · rw[nbne c2,cond_true,if_neg c2]
  · rw[nbne c1,cond_true,if_neg c1]
end Go.Ow
namespace Go.Ow
theorem ref_noneB (p:Ptr):ref10_None p=some (noneB p):=ref_none p
theorem trim1 (l:List Ptr)(hl:l.length≤1000):∀n f,n≤l.length→n<f→∃m:Nat,run (ref16_trim_l1 l) f (n:Int)=some (m:Int)∧m≤n∧(∀j (h:j<l.length),m≤j→j<n→noneB l[j]=true)∧(∀h:m-1<l.length,0<m→noneB l[m-1]=false):=by
  intro n
  induction n with
  | zero=>
    intro f hn hf
    obtain⟨f,rfl⟩:∃g,f=g+1:=⟨f-1,by omega⟩
    refine⟨0,Zl ?_,Nat.le_refl _,λj h h1 h2=>by omega,λh h0=>by omega⟩
    unfold ref16_trim_l1
    rw[decide_eq_false (by omega),cond_false]
  | succ n ih=>
    intro f hn hf
    obtain⟨f,rfl⟩:∃g,f=g+1:=⟨f-1,by omega⟩
    have e:w64 (((n+1:Nat):Int)-1)=(n:Int):=by rw[Zp (by omega) (by omega)];omega
    have hlt:n<l.length:=by omega
    cases q:noneB l[n]with
    | true=>
      obtain⟨m,h1,h2,h3,h4⟩:=ih f (by omega) (by omega)
      refine⟨m,?_,by omega,λj h a b=> ?_,h4⟩
      · rw[run_st (s':=(n:Int)) (by
          unfold ref16_trim_l1
          rw[decide_eq_true (by omega),cond_true,e,ZW _ hlt,ref_noneB,Option.bind_some,q,cond_true])]
        exact h1
      · rcases Nat.lt_or_ge j n with c|c
        · exact h3 j h a c
        · obtain rfl:j=n:=by omega
          exact q
    | false=>
      refine⟨n+1,Zl ?_,Nat.le_refl _,λj h a b=>by omega,λh _=>q⟩
      unfold ref16_trim_l1
      rw[decide_eq_true (by omega),cond_true,e,ZW _ hlt,ref_noneB,Option.bind_some,q,cond_false]
theorem trim2 (l:List Ptr)(m:Nat)(hm:m≤l.length)(hl:l.length≤1000):∀(k i f:Nat),i+k=m→k<f→(∀j (h:j<l.length),j<i→noneB l[j]=false)→
    ∃o,run (ref16_trim_l2 l (m:Int)) f (i:Int)=some o∧((o=.inl ()∧∀j (h:j<l.length),j<m→noneB l[j]=false)∨(o=.inr ()∧∃j,∃h:j<l.length,j<m∧noneB l[j]=true)):=by
  intro k
  induction k with
  | zero=>
    intro i f hi hf hall
    obtain⟨f,rfl⟩:∃g,f=g+1:=⟨f-1,by omega⟩
    obtain rfl:i=m:=by omega
    refine⟨_,Zl ?_,.inl ⟨rfl,hall⟩⟩
    unfold ref16_trim_l2
    rw[decide_eq_false (by omega),cond_false]
  | succ k ih=>
    intro i f hi hf hall
    obtain⟨f,rfl⟩:∃g,f=g+1:=⟨f-1,by omega⟩
    have hlt:i<l.length:=by omega
    have e:w64 ((i:Int)+1)=((i+1:Nat):Int):=by rw[Zp (by omega) (by omega)];omega
    cases q:noneB l[i]with
    | true=>
      refine⟨.inr (),Zl ?_,.inr ⟨rfl,i,hlt,by omega,q⟩⟩
      unfold ref16_trim_l2
      rw[decide_eq_true (by omega),cond_true,ZW _ hlt,ref_noneB,Option.bind_some,q,cond_true]
    | false=>
      rw[run_st (s':=((i+1:Nat):Int)) (by
        unfold ref16_trim_l2
        rw[decide_eq_true (by omega),cond_true,ZW _ hlt,ref_noneB,Option.bind_some,q,cond_false,e])]
      refine ih (i+1) f (by omega) (by omega) (λj h a=> ?_)
      rcases Nat.lt_or_ge j i with c|c
      · exact hall j h c
      · obtain rfl:j=i:=by omega
        exact q
theorem ref_trim (l:List Ptr)(hl:l.length≤1000):ref16_trim l=some (match trimS l with|some t=>(t,true)|none=>([],false)):=by
  obtain⟨m,h1,h2,h3,h4⟩:=trim1 l hl l.length FUEL (Nat.le_refl _) (Nat.lt_of_le_of_lt hl (by decide))
  obtain⟨o,h5,h6⟩:=trim2 l m h2 hl m 0 FUEL (by omega) (Nat.lt_of_le_of_lt (Nat.le_trans h2 hl) (by decide)) (λj h a=>by omega)
  unfold ref16_trim
  rw[show loop (ref16_trim_l1 l) (l.length:Int)=some (m:Int)from h1,Option.bind_some,show loop (ref16_trim_l2 l (m:Int)) 0=some o from h5,Option.bind_some]
  rcases h6 with⟨rfl,h6⟩|⟨rfl,j,hj,hjm,hq⟩
  · rw [Sum.elim_inl,slc_eq (by omega) (by omega) (by omega),cut_take]
    have:trimS l=some (l.take m):=by
      unfold trimS
      rcases Nat.lt_or_ge m l.length with c|c
      · have hf:l.findIdx? noneB=some m:=by
          rw[List.findIdx?_eq_some_iff_getElem]
          exact⟨c,h3 m c (Nat.le_refl _) c,λj hj=>by simpa using h6 j (by omega) hj⟩
        have ha:(l.drop m).any (λp=> !noneB p)=false:=by
          rw[List.any_eq_false]
          intro x hx
          obtain⟨i,hi,rfl⟩:=List.mem_iff_getElem.1 hx
          rw[List.length_drop]at hi
          rw[List.getElem_drop,h3 (m+i) (by omega) (by omega) (by omega)];simp
        rw[hf]
        dsimp only
        rw[ha];rfl
      · have hf:l.findIdx? noneB=none:=by
          rw[List.findIdx?_eq_none_iff]
          intro x hx
          obtain⟨i,hi,rfl⟩:=List.mem_iff_getElem.1 hx
          exact h6 i hi (by omega)
        rw[hf,List.take_of_length_le c]
    rw[this]
  · rw [Sum.elim_inr]
    have:trimS l=none:=by
      unfold trimS
      cases hf:l.findIdx? noneB with
      | none=>
        rw[List.findIdx?_eq_none_iff]at hf
        have:=hf _ (List.getElem_mem hj)
        rw[hq]at this;cases this
      | some k=>
        obtain⟨hk,hk1,hk2⟩:=List.findIdx?_eq_some_iff_getElem.1 hf
        have hkj:k≤j:=by
          rcases Nat.lt_or_ge j k with c|c
          · have:=hk2 j c;rw[hq]at this;simp at this
          · exact c
        have hm1:m-1<l.length:=by omega
        have hnn:=h4 hm1 (by omega)
        have hne:k≠m-1:=by intro e;subst e;rw[hk1]at hnn;cases hnn
        have ha:(l.drop k).any (λp=> !noneB p)=true:=by
          refine List.any_eq_true.2 ⟨l[m-1],?_,by rw[hnn];rfl⟩
          rw[List.mem_iff_getElem]
          exact⟨m-1-k,by rw[List.length_drop];omega,by rw[List.getElem_drop];congr 1;omega⟩
        dsimp only
        rw[ha];rfl
    rw[this]
def seenR (s:Store)(p:Ptr):List Ptr×Int:=if(lookS s p).2=0 then(if(rowsB (lookS s p).1).2=0 then((rowsB (lookS s p).1).1,0)else([],8))else([],(lookS s p).2)
theorem ref_seen16{s:Store}{p:Ptr}(h:OKSt s)(hp:okP p):ref16_seen s p=some (seenR s p):=by
 unfold ref16_seen seenR
 rw[ref_seen13 h hp,Option.bind_some]
 by_cases c1:(lookS s p).2=0
 · rw[nbeq c1,cond_false,if_pos c1,ref_rows10 (lookS_len c1),Option.bind_some]
   by_cases c2:(rowsB (lookS s p).1).2=0
   · rw[nbeq c2,cond_false,if_pos c2]
   · rw[nbne c2,cond_true,if_neg c2]
 · rw[nbne c1,cond_true,if_neg c1]
theorem readS_of (s:Store)(p:Ptr):readS s p=if(seenR s p).2=0 then(match trimS (seenR s p).1 with|some t=>if t= []then .inr 8 else .inl t|none=>.inr 8)else .inr (seenR s p).2:=by
 unfold readS seenR
 by_cases c1:(lookS s p).2=0
 · rw[if_pos c1,if_pos c1]
   by_cases c2:(rowsB (lookS s p).1).2=0
   · rw[if_pos c2,if_pos c2];rfl
   · rw[if_neg c2,if_neg c2];rfl
 · rw[if_neg c1,if_neg c1,if_neg c1]
theorem seenR_ok{s:Store}{p:Ptr}(h:(seenR s p).2=0):(seenR s p).1.length=16∧∀q∈(seenR s p).1,okP q:=by
 unfold seenR at h⊢
 by_cases c1:(lookS s p).2=0
 · rw[if_pos c1]at h⊢
   by_cases c2:(rowsB (lookS s p).1).2=0
   · rw[if_pos c2]at h⊢;exact rowsB_len (lookS_len c1) c2
   · rw[if_neg c2]at h;cases h
 · rw[if_neg c1]at h;exact absurd h c1
end Go.Ow
namespace Go.Ow
theorem load_run{s:Store}(hs:OKSt s)(rows:List Ptr)(hr:∀p∈rows,okP p)(h16:rows.length≤16):∀(k i f:Nat) (l:List Ptr) (own:List Int),i+k=rows.length→k<f→l.length≤16*i→own.length=i→
    ∃o1 o2,run (dead_Load_l1 s rows) f (l,own,i)=some o1∧run (ref16_Loaded_l1 s (rows,true)) f (l,own,i)=some o2∧((∃a b,o1=.inl (a,b)∧o2=.inl (a,b)∧a.length≤256∧b.length≤16)∨∃e a b,o1=.inr (e,a,b)∧o2=.inr e):=by
  intro k
  induction k with
  | zero=>
    intro i f l own hi hf hl ho
    obtain⟨f,rfl⟩:∃g,f=g+1:=⟨f-1,by omega⟩
    obtain rfl:i=rows.length:=by omega
    refine⟨.inl (l,own),.inl (l,own),Zl ?_,Zl ?_,.inl ⟨l,own,rfl,rfl,by omega,by omega⟩⟩
    · unfold dead_Load_l1;dsimp only;rw[beq_f,cond_false]
    · unfold ref16_Loaded_l1;dsimp only;rw[beq_f,cond_false]
  | succ k ih =>
    intro i f l own hi hf hl ho
    obtain⟨f,rfl⟩:∃g,f=g+1:=⟨f-1,by omega⟩
    have hlt:i<rows.length:=by omega
    have hy:=hr _ (List.getElem_mem hlt)
    have p1:dead_Load_l1 s rows (l,own,i)=pnk (readS s rows[i]) (λe_51=>some (.inr (.inr (e_51,l,own)))) λx_47=>Option.bind (cond (decide ((x_47.length:Int)<16)) (cond (decide ((i:Int)<(w64 ((rows.length:Int)-1)))) (some (.inr ())) (some (.inl ()))) (cond false (none) (some (.inl ())))) (λt_54:Unit ⊕ Unit=>Sum.elim (λt_54a=>app l x_47 λq_63=>app own ([rows[i].At]) λq_68=>some (.inl (q_63,q_68,i+1))) (λt_54b=>some (.inr (.inr (8,l,own)))) t_54):=by
      unfold dead_Load_l1
      dsimp only
      rw[beq_t _ _ hlt,cond_true,ZW _ hlt,read_is hs.1.sized,Option.bind_some]
    have w:w64 ((rows.length:Int)-1)=(rows.length:Int)-1:=Zp (by omega) (by omega)
    rw[w]at p1
    have p2:ref16_Loaded_l1 s (rows,true) (l,own,i)=cond (!decide ((seenR s rows[i]).2=0)) (some (.inr (.inr (seenR s rows[i]).2))) (Option.bind (ref16_trim (seenR s rows[i]).1) λx_49=>Option.bind (cond (!x_49.2) (some (.inr ())) (cond (decide ((x_49.1.length:Int)=0)) (some (.inr ())) (cond (decide (((i+1:Nat):Int)<(rows.length:Int))) (cond (decide ((x_49.1.length:Int)<16)) (some (.inr ())) (some (.inl ()))) (some (.inl ()))))) (λt_53:Unit ⊕ Unit=>Sum.elim (λt_53a=>app l x_49.1 λq_60=>app own ([rows[i].At]) λq_74=>some (.inl (q_60,q_74,i+1))) (λt_53b=>some (.inr (.inr 8))) t_53)):=by
      unfold ref16_Loaded_l1
      dsimp only
      rw[beq_t _ _ hlt,cond_true,ZW _ hlt,ref_seen16 hs hy,Option.bind_some]
      simp only[ZW _ hlt]
    by_cases c1:(seenR s rows[i]).2=0
    · obtain ⟨g1,g2⟩:=seenR_ok c1
      rw[readS_of,if_pos c1]at p1
      rw[nbeq c1,cond_false,ref_trim _ (by omega),Option.bind_some]at p2
      cases ht:trimS (seenR s rows[i]).1 with
      | none=>
        rw[ht]at p1 p2
        exact⟨.inr (8,l,own),.inr 8,Zl p1,Zl p2,.inr ⟨8,l,own,rfl,rfl⟩⟩
      | some t=>
        have hle:=(trimS_le ht).1
        rw[ht]at p1 p2
        dsimp only at p1 p2
        by_cases c2:t= []
        · rw[if_pos c2]at p1
          rw[show(!true)=false from rfl,cond_false,decide_eq_true (show(t.length:Int)=0 by rw[c2];rfl),cond_true]at p2
          exact⟨.inr (8,l,own),.inr 8,Zl p1,Zl p2,.inr ⟨8,l,own,rfl,rfl⟩⟩
        · have hne:¬(t.length:Int)=0:=by intro e;exact c2 (List.length_eq_zero_iff.1 (by omega))
          rw[if_neg c2,pnk_inl]at p1
          rw[show(!true)=false from rfl,cond_false,decide_eq_false hne,cond_false]at p2
          have go:∀(q1:dead_Load_l1 s rows (l,own,i)=some (.inl (l++t,own++ [rows[i].At],i+1))) (q2:ref16_Loaded_l1 s (rows,true) (l,own,i)=some (.inl (l++t,own++ [rows[i].At],i+1))),
              ∃o1 o2,run (dead_Load_l1 s rows) (f+1) (l,own,i)=some o1∧run (ref16_Loaded_l1 s (rows,true)) (f+1) (l,own,i)=some o2∧((∃a b,o1=.inl (a,b)∧o2=.inl (a,b)∧a.length≤256∧b.length≤16)∨∃e a b,o1=.inr (e,a,b)∧o2=.inr e):=λq1 q2=>by
            rw[run_st q1,run_st q2]
            exact ih (i+1) f _ _ (by omega) (by omega) (by rw[List.length_append];omega) (by rw[List.length_append,ho];rfl)
          have a1:∀{β:Type} (k:List Ptr→Option β),app l t k=k (l++t):=λk=>Zv (by simp only[LIM];omega)
          have a2:∀{β:Type} (k:List Int→Option β),app own [rows[i].At] k=k (own++ [rows[i].At]):=λk=>Zv (by simp only[List.length_cons,List.length_nil,LIM];omega)
          simp only[a1,a2]at p1 p2
          by_cases c3:(t.length:Int)<16
          · rw[decide_eq_true c3,cond_true]at p1
            rw[decide_eq_true c3]at p2
            by_cases c4:i+1<rows.length
            · rw[decide_eq_true (show(i:Int)<(rows.length:Int)-1 by omega)]at p1
              rw[decide_eq_true (show((i+1:Nat):Int)<(rows.length:Int) by omega)]at p2
              exact⟨.inr (8,l,own),.inr 8,Zl p1,Zl p2,.inr ⟨8,l,own,rfl,rfl⟩⟩
            · rw[decide_eq_false (show¬(i:Int)<(rows.length:Int)-1 by omega)]at p1
              rw[decide_eq_false (show¬((i+1:Nat):Int)<(rows.length:Int) by omega)]at p2
              exact go p1 p2
          · rw[decide_eq_false c3,cond_false,cond_false]at p1
            rw[decide_eq_false c3]at p2
            refine go p1 ?_
            cases hb:decide (((i+1:Nat):Int)<(rows.length:Int))<;>(rw[hb]at p2;exact p2)
    · rw[readS_of,if_neg c1,pnk_inr]at p1
      rw[nbne c1,cond_true]at p2
      exact⟨.inr ((seenR s rows[i]).2,l,own),.inr (seenR s rows[i]).2,Zl p1,Zl p2,.inr ⟨_,l,own,rfl,rfl⟩⟩
theorem load_both {s:Store}(hz:Sized s.Disk)(p:Ptr):∃v,dead_Load s p=some v∧ref16_Load s p=some v∧v.1.length≤256∧v.2.1.length≤17:=by
  unfold dead_Load ref16_Load
  rw[store_Check_eq hz,Option.bind_some,ref_may13,Option.bind_some]
  by_cases c1:OKSt s
  · rw [if_pos c1,zdec,cond_false,decide_eq_true c1,show(!true)=false from rfl,cond_false,ptr_Check_eq',Option.bind_some,ref_may10,Option.bind_some]
    by_cases c2:okP p
    · have c2':isNone p∨okR p:=c2
      rw[if_pos c2',zdec,cond_false,decide_eq_true c2,show(!true)=false from rfl,cond_false,none_dec']
      unfold ref16_Loaded
      rw[ref_none,Option.bind_some]
      by_cases c3:isNone p
      · rw[decide_eq_true c3]
        exact⟨([],[],0),rfl,rfl,Nat.zero_le _,Nat.zero_le _⟩
      · rw [decide_eq_false c3,cond_false,cond_false,read_is hz,Option.bind_some,ref_seen16 c1 c2,Option.bind_some,readS_of]
        by_cases c4:(seenR s p).2=0
        · obtain ⟨g1,g2⟩:=seenR_ok c4
          rw[if_pos c4,nbeq c4,cond_false,ref_trim _ (by omega),Option.bind_some]
          cases ht:trimS (seenR s p).1 with
          |none=>exact⟨([],[],8),rfl,rfl,Nat.zero_le _,Nat.zero_le _⟩
          | some t=>
            obtain⟨hle,hmem⟩:=trimS_le ht
            dsimp only
            by_cases c5:t= []
            · rw[if_pos c5,show(!true)=false from rfl,cond_false,decide_eq_true (show(t.length:Int)=0 by rw[c5];rfl),cond_true]
              exact⟨([],[],8),rfl,rfl,Nat.zero_le _,Nat.zero_le _⟩
            · have hne:¬(t.length:Int)=0:=by intro e;exact c5 (List.length_eq_zero_iff.1 (by omega))
              obtain⟨o1,o2,r1,r2,r3⟩:=load_run c1 t (λq hq=>g2 q (hmem q hq)) (by omega) t.length 0 FUEL [] [] (by omega) (Nat.lt_of_le_of_lt (show t.length≤1000000 by omega) (by decide)) (Nat.zero_le _) rfl
              rw[if_neg c5,pnk_inl,show(!true)=false from rfl,cond_false,decide_eq_false hne,cond_false,show loop (dead_Load_l1 s t) ([],[],0)=some o1 from r1,Option.bind_some,show loop (ref16_Loaded_l1 s (t,true)) ([],[],0)=some o2 from r2,Option.bind_some]
              rcases r3 with⟨a,b,rfl,rfl,ha,hb⟩|⟨e,a,b,rfl,rfl⟩
              · simp only[Sum.elim_inl]
                rw[dead_check,Option.bind_some,ref_dead,Option.bind_some]
                cases hd:dec (deadOk a)with
                | true=>
                  rw[if_pos rfl,zdec,cond_false,show(!true)=false from rfl,cond_false,Zv (by simp only[List.length_cons,List.length_nil,LIM];omega)]
                  exact⟨_,rfl,rfl,ha,by simp only[List.length_append,List.length_cons,List.length_nil];omega⟩
                |false=>exact⟨([],[],8),rfl,rfl,Nat.zero_le _,Nat.zero_le _⟩
              · exact⟨([],[],e),rfl,rfl,Nat.zero_le _,Nat.zero_le _⟩
        · rw[if_neg c4,nbne c4,cond_true,pnk_inr]
          exact⟨([],[],(seenR s p).2),rfl,rfl,Nat.zero_le _,Nat.zero_le _⟩
    · have c2':¬(isNone p∨okR p):=c2
      rw[if_neg c2',decide_eq_false c2]
      exact⟨([],[],8),rfl,rfl,Nat.zero_le _,Nat.zero_le _⟩
  · rw[if_neg c1,decide_eq_false c1]
    exact⟨([],[],8),rfl,rfl,Nat.zero_le _,Nat.zero_le _⟩
end Go.Ow
namespace Go.Ow
def fullR (l:List Ptr):List Ptr:=l++List.replicate (16-l.length) noP
theorem fullR_len{l:List Ptr}(h:l.length≤16):(fullR l).length=16:=by unfold fullR;rw[List.length_append,List.length_replicate];omega
theorem fullR_ok{l:List Ptr}(hp:∀p∈l,okP p):∀p∈fullR l,okP p:=λp h=>by
 unfold fullR at h
 rcases List.mem_append.1 h with h|h
 · exact hp p h
 · rw[(List.mem_replicate.1 h).2];exact okP_no
theorem flat_no:∀n:Nat,((List.replicate n noP).map ptrB).flatten=List.replicate (16*n) 0
  |0=>rfl
  | n+1=>by
    rw[List.replicate_succ,List.map_cons,List.flatten_cons,flat_no n,ptrB_no,List.replicate_append_replicate]
    congr 1;omega
theorem flat_full{l:List Ptr}(h:l.length≤16):((fullR l).map ptrB).flatten=rowB l:=by
 unfold fullR rowB
 rw[List.map_append,List.flatten_append,flat_no]
 congr 2;omega
theorem packed_run{l:List Ptr}(h:l.length≤16)(hp:∀p∈l,okP p):∀(k i f:Nat),i+k=16→k<f→run (ref10_Packed_l1 l) f ((((fullR l).take i).map ptrB).flatten,i)=some (rowB l):=by
  intro k
  induction k with
  | zero=>
    intro i f hi hf
    obtain⟨f,rfl⟩:∃g,f=g+1:=⟨f-1,by omega⟩
    obtain rfl:i=16:=by omega
    refine Zl ?_
    unfold ref10_Packed_l1
    dsimp only
    rw[decide_eq_false (by decide),cond_false,List.take_of_length_le (by rw[fullR_len h];exact Nat.le_refl _),flat_full h]
  | succ k ih=>
    intro i f hi hf
    obtain⟨f,rfl⟩:∃g,f=g+1:=⟨f-1,by omega⟩
    have hlt:i<(fullR l).length:=by rw[fullR_len h];omega
    have hy:=fullR_ok hp _ (List.getElem_mem hlt)
    have hget:(cond (decide (((i:Nat):Int)<(l.length:Int))) (idx l ((i:Nat):Int) λy_17=>some y_17) (some noP))=some (fullR l)[i]:=by
      rcases Nat.lt_or_ge i l.length with c|c
      · rw[beq_t _ _ c,cond_true,ZW _ c]
        congr 1
        exact(List.getElem_append_left c).symm
      · rw[decide_eq_false (by omega),cond_false]
        congr 1
        exact((List.getElem_append_right c).trans (List.getElem_replicate ..)).symm
    have hlen:((((fullR l).take i).map ptrB).flatten).length=16*i:=by rw[flat_len,List.length_take,fullR_len h];omega
    have hb:(ptrB (fullR l)[i]).length=16:=by
      have:=flat_len [(fullR l)[i]]
      simpa using this
    rw[run_st (s':=((((fullR l).take (i+1)).map ptrB).flatten,i+1)) (by
      unfold ref10_Packed_l1
      dsimp only
      rw[decide_eq_true (by omega),cond_true,show Ptr.mk 0 (0:UInt32) (0:UInt32) (0:UInt32) (0:UInt32)=noP from rfl,hget,Option.bind_some,ref_bytes hy,Option.bind_some,appN_eq (by rw[hlen,hb];omega)]
      rw[List.take_succ_eq_append_getElem hlt,List.map_append,List.flatten_append]
      simp)]
    exact ih (i+1) f (by omega) (by omega)
theorem packed_eq{l:List Ptr}(h:l.length≤16)(hp:∀p∈l,okP p):ref10_Packed l=some (rowB l):=by
 unfold ref10_Packed
 rw[show loop (ref10_Packed_l1 l) (([]:List UInt8),0)=some (rowB l)from packed_run h hp 16 0 FUEL (by omega) (by decide)];rfl
theorem putS_ptr{s:Store}(h:OKSt s){birth iv tag:UInt32}(hb:birthOk birth){b:List UInt8}{t:Store}{q:Ptr}(e:putS s birth iv tag b=some (t,q)):okP q:=by
  unfold putS at e
  cases hf:freeFrom s.Space 0 with
  |none=>rw[hf]at e;cases e
  | some j=>
    rw[hf]at e
    dsimp only at e
    have hp:=free_high h.2.1 (freeFrom_some hf).2.2
    by_cases c:s.Disk.Waits.length=4096
    · rw[if_pos c]at e;cases e
    · rw[if_neg c]at e
      obtain⟨rfl,rfl⟩:=Prod.mk.injEq .. ▸(Option.some.inj e)
      exact .inr ⟨by show(12:Int)≤(j:Int);omega,by show(j:Int)<256;omega,hb.1,hb.2⟩
def layE (birth:UInt32)(own:List Int)(o:Option (Store×Ptr)):Store×UInt32×Ptr×Int×List Int:=match o with
 |none=>(noS,birth,noP,9,own)
 |some (t,q)=>(t,birth,q,0,own++ [q.At])
theorem lay1_eq{s:Store}{l:List Ptr}(h:OKSt s){birth:UInt32}(hb:birthOk birth)(hl:l.length≤16)(hp:∀p∈l,okP p)(q0:Ptr)(e0:Int)(own:List Int)(ho:own.length≤1000):
    dead_Lay_1 l s birth q0 e0 own=some (layE birth own (putS s birth 0 0 (rowB l))):=by
  unfold dead_Lay_1
  rw[ptr_Row_eq hl,if_pos hp,Option.bind_some]
  dsimp only
  rw[store_Lay_is h.1.sized,Option.bind_some]
  unfold rawS
  rw[if_pos (ask_none h hb (rowB_length hl))]
  cases e:putS s birth 0 0 (rowB l)with
  |none=>rfl
  | some x=>
    show cond (decide ((0:Int)=0)) _ _=_
    rw[decide_eq_true rfl,cond_true,Zv (by simp only[List.length_cons,List.length_nil,LIM];omega)];rfl
end Go.Ow
namespace Go.Ow
theorem lay_run{birth:UInt32}(hb:birthOk birth)(l:List Ptr)(hl:l.length≤240)(hp:∀p∈l,okP p):∀(n:Nat) (r:List Ptr) (i f g:Nat) (s:Store) (q0:Ptr) (e0:Int) (own:List Int) (rows:List Ptr),
    r.length≤n→r=l.drop i→r.length≤f→r.length<g→i=16*rows.length→own.length=rows.length→rows.length≤15→OKSt s→(∀p∈rows,okP p)→
    ∃ o1 o2,forL dead_Lay_v2_r1 (chunks 16 f r) (s,q0,own,e0,birth,rows)=some o1∧run (ref16_Laid_l1 birth l) g (s,rows,own,(i:Int))=some o2∧
      ((∃t q e own' rows',o1=.inl (t,q,own',e,birth,rows')∧o2=.inl (t,rows',own')∧OKSt t∧(∀p∈rows',okP p)∧rows'.length≤15∧own'.length≤15)∨(o1=.inr 9∧o2=.inr ())):=by
  intro n
  induction n with
  | zero=>
    intro r i f g s q0 e0 own rows hn hr hf hg hi ho hrl hs hrp
    have r0:r= []:=List.length_eq_zero_iff.1 (by omega)
    have hge:l.length≤i:=by rw[r0]at hr;exact List.drop_eq_nil_iff.1 hr.symm
    obtain⟨g,rfl⟩:∃q,g=q+1:=⟨g-1,by omega⟩
    refine⟨.inl (s,q0,own,e0,birth,rows),.inl (s,rows,own),by rw[r0,chunks_nil];rfl,Zl ?_,.inl ⟨s,q0,e0,own,rows,rfl,rfl,hs,hrp,hrl,by omega⟩⟩
    unfold ref16_Laid_l1
    dsimp only
    rw[decide_eq_false (by omega),cond_false]
  | succ n ih=>
    intro r i f g s q0 e0 own rows hn hr hf hg hi ho hrl hs hrp
    obtain⟨g,rfl⟩:∃q,g=q+1:=⟨g-1,by omega⟩
    by_cases r0:r= []
    · have hge:l.length≤i:=by rw[r0]at hr;exact List.drop_eq_nil_iff.1 hr.symm
      refine⟨.inl (s,q0,own,e0,birth,rows),.inl (s,rows,own),by rw[r0,chunks_nil];rfl,Zl ?_,.inl ⟨s,q0,e0,own,rows,rfl,rfl,hs,hrp,hrl,by omega⟩⟩
      unfold ref16_Laid_l1
      dsimp only
      rw[decide_eq_false (by omega),cond_false]
    · have hpos:0<r.length:=List.length_pos_iff.2 r0
      have hrlen:r.length=l.length-i:=by rw[hr,List.length_drop]
      have hlt:i<l.length:=by omega
      obtain⟨f,rfl⟩:∃q,f=q+1:=⟨f-1,by omega⟩
      have ht:(r.take 16).length≤16:=by rw[List.length_take];omega
      have htp:∀p∈r.take 16,okP p:=λp h=>hp p (by have:=List.mem_of_mem_take h;rw[hr]at this;exact List.mem_of_mem_drop this)
      have hcut:cut l (i:Int) (min (l.length:Int) ((i+16:Nat):Int))=r.take 16:=by
        unfold cut
        rw[Int.toNat_natCast,←hr,show(min (l.length:Int) ((i+16:Nat):Int)).toNat=min l.length (i+16) by omega]
        rcases Nat.lt_or_ge (i+16) l.length with c|c
        · rw[Nat.min_eq_right (by omega),show i+16-i=16 by omega]
        · rw[Nat.min_eq_left (by omega),List.take_of_length_le (by omega),List.take_of_length_le (by omega)]
      have w:w64 ((i:Int)+16)=((i+16:Nat):Int):=by rw[Zp (by omega) (by omega)];omega
      have p2:ref16_Laid_l1 birth l (s,rows,own,(i:Int))=Option.bind (ref13_Put s birth (0:UInt32) (0:UInt32) (rowB (r.take 16))) λx_46=>cond (!x_46.2.2) (some (.inr (.inr ()))) (app rows ([x_46.2.1]) λq_56=>app own ([x_46.2.1.At]) λq_61=>some (.inl (x_46.1,q_56,q_61,((i+16:Nat):Int)))):=by
        unfold ref16_Laid_l1
        dsimp only
        rw[decide_eq_true (by omega),cond_true,w,slc_eq (by omega) (by omega) (by omega),hcut,packed_eq ht htp,Option.bind_some]
      have p1:dead_Lay_v2_r1 (r.take 16) (s,q0,own,e0,birth,rows)=Option.bind (some (layE birth own (putS s birth 0 0 (rowB (r.take 16))))) λx_58=>cond (!decide (x_58.2.2.2.1=0)) (some (.inr x_58.2.2.2.1)) (app rows ([x_58.2.2.1]) λq_67=>some (.inl (x_58.1,x_58.2.2.1,x_58.2.2.2.2,x_58.2.2.2.1,x_58.2.1,q_67))):=by
        unfold dead_Lay_v2_r1
        dsimp only
        rw[lay1_eq hs hb ht htp q0 e0 own (by omega)]
      rw[ref_put_is hs birth 0 0 (rowB_length ht),Option.bind_some]at p2
      rw[Option.bind_some]at p1
      rw[chunks_step r0]
      cases e:putS s birth 0 0 (rowB (r.take 16))with
      | none=>
        rw[e]at p1 p2
        exact⟨.inr 9,.inr (),forL_stop p1,Zl p2,.inr ⟨rfl,rfl⟩⟩
      | some x=>
        obtain⟨t,q⟩:=x
        have hq:=putS_ptr hs hb e
        have hok:=putS_ok hs (rowB_length ht) e
        rw[e]at p1 p2
        have a1:∀{β:Type} (k:List Ptr→Option β),app rows [q] k=k (rows++ [q]):=λk=>Zv (by simp only[List.length_cons,List.length_nil,LIM];omega)
        have a2:∀{β:Type} (k:List Int→Option β),app own [q.At] k=k (own++ [q.At]):=λk=>Zv (by simp only[List.length_cons,List.length_nil,LIM];omega)
        have p1':dead_Lay_v2_r1 (r.take 16) (s,q0,own,e0,birth,rows)=some (.inl (t,q,own++ [q.At],0,birth,rows++ [q])):=by
          rw[p1]
          show cond (!decide ((0:Int)=0)) _ (app rows [q] _)=_
          rw[zdec,cond_false,a1];rfl
        have p2':ref16_Laid_l1 birth l (s,rows,own,(i:Int))=some (.inl (t,rows++ [q],own++ [q.At],((i+16:Nat):Int))):=by
          rw[p2]
          show cond (!true) _ (app rows [q] λq_56=>app own [q.At] _)=_
          rw[show(!true)=false from rfl,cond_false,a1,a2]
        rw[forL_cons p1',run_st p2']
        refine ih (r.drop 16) (i+16) f g t q 0 _ _ (by rw[List.length_drop];omega) (by rw[hr,List.drop_drop]) (by rw[List.length_drop];omega) (by rw[List.length_drop];omega) (by rw[List.length_append,List.length_cons,List.length_nil];omega) (by rw[List.length_append,List.length_append];simp[ho]) (by rw[List.length_append,List.length_cons,List.length_nil];omega) hok (λp h=> ?_)
        rcases List.mem_append.1 h with h|h
        · exact hrp p h
        · rw[List.mem_singleton.1 h];exact hq
end Go.Ow
namespace Go.Ow
theorem dead_okP{d:List Ptr}(h:deadOk d):∀p∈d,okP p:=λp hp=>by
 obtain⟨i,hi,rfl⟩:=List.mem_iff_getElem.1 hp
 have:=h.2 i hi
 unfold okE at this
 simp only[Bool.and_eq_true,decide_eq_true_eq]at this
 exact this.2.1
def Fine (s:Store):Prop:=s.Space= []∨OKSt s
theorem noS_szd:Sized noS.Disk:=⟨by simp[noS],by simp[noS],by simp[noS]⟩
theorem lay_both{s:Store}(hf:Few s)(hz:Sized s.Disk)(birth:UInt32)(l:List Ptr)(hl:l.length≤1000):
    ∃v,dead_Lay_v2 s birth l=some v∧ref16_Lay s birth l=some v∧Fine v.1∧Sized v.1.Disk∧v.2.2.1.length≤17:=by
  unfold dead_Lay_v2 ref16_Lay
  rw[store_Check_eq hz,Option.bind_some,ref_may13,Option.bind_some]
  by_cases c1:OKSt s
  · rw [if_pos c1,zdec,cond_false,decide_eq_true c1,show(!true)=false from rfl,cond_false,dead_check,Option.bind_some,ref_dead,Option.bind_some]
    cases hd:dec (deadOk l)with
    |false=>exact⟨(noS,noP,[],8),rfl,rfl,.inl rfl,noS_szd,Nat.zero_le _⟩
    | true=>
      have hd':=of_dec hd
      rw[if_pos rfl,zdec,cond_false,show(!true)=false from rfl,cond_false]
      rcases birth_cases birth with⟨b1,b2,b3⟩|⟨b1,b2⟩
      · rw [decide_eq_false b2,cond_false,cond_false,decide_eq_false b3,cond_false,cond_false]
        unfold ref16_Laid
        by_cases c2:l.length=0
        · rw[decide_eq_true (show(l.length:Int)=0 by omega),cond_true,cond_true,store_Twin_big hf]
          exact⟨(s,noP,[],0),rfl,rfl,.inr c1,hz,Nat.zero_le _⟩
        · rw [decide_eq_false (show¬(l.length:Int)=0 by omega),cond_false,cond_false,show slices_Chunk_Ptr l 16=some ()from by unfold slices_Chunk_Ptr;rw[if_pos ⟨by decide,by decide,by simp only[LIM];omega⟩],Option.bind_some]
          obtain⟨o1,o2,r1,r2,r3⟩:=lay_run b1 l hd'.1 (dead_okP hd') l.length l 0 l.length FUEL s noP 0 [] [] (Nat.le_refl _) rfl (Nat.le_refl _) (Nat.lt_of_le_of_lt hl (by decide)) rfl rfl (Nat.zero_le _) c1 (λp h=>by cases h)
          rw[show forL dead_Lay_v2_r1 (chunks (16:Int).toNat l.length l) (s,Ptr.mk 0 (0:UInt32) (0:UInt32) (0:UInt32) (0:UInt32),([]:List Int),0,birth,([]:List Ptr))=some o1 from r1,Option.bind_some,show loop (ref16_Laid_l1 birth l) (s,([]:List Ptr),([]:List Int),0)=some o2 from r2,Option.bind_some]
          rcases r3 with⟨t,q,e,own,rows,rfl,rfl,hok,hrp,hrl,hol⟩|⟨rfl,rfl⟩
          · simp only[Sum.elim_inl]
            rw[lay1_eq hok b1 (by omega) hrp q e own (by omega),Option.bind_some,packed_eq (by omega) hrp,Option.bind_some,ref_put_is hok birth 0 0 (rowB_length (by omega)),Option.bind_some]
            cases e2:putS t birth 0 0 (rowB rows)with
            |none=>exact⟨(noS,noP,[],9),rfl,rfl,.inl rfl,noS_szd,Nat.zero_le _⟩
            | some x=>
              obtain⟨t2,q2⟩:=x
              have hok2:=putS_ok hok (rowB_length (by omega)) e2
              have a2:∀{β:Type} (k:List Int→Option β),app own [q2.At] k=k (own++ [q2.At]):=λk=>Zv (by simp only[List.length_cons,List.length_nil,LIM];omega)
              refine⟨(t2,q2,own++ [q2.At],0),rfl,?_,.inr hok2,hok2.1.sized,by simp only[List.length_append,List.length_cons,List.length_nil];omega⟩
              show Option.bind (cond (!true) _ (app own [q2.At] _)) _=_
              rw[show(!true)=false from rfl,cond_false,a2];rfl
          · exact⟨(noS,noP,[],9),rfl,rfl,.inl rfl,noS_szd,Nat.zero_le _⟩
      · refine⟨(noS,noP,[],2),?_,?_,.inl rfl,noS_szd,Nat.zero_le _⟩
        · rcases b2 with c|⟨c,c'⟩
          · rw[decide_eq_true c];rfl
          · rw[decide_eq_false c,decide_eq_true c'];rfl
        · rcases b2 with c|⟨c,c'⟩
          · rw[decide_eq_true c];rfl
          · rw[decide_eq_false c,decide_eq_true c'];rfl
  · rw[if_neg c1,decide_eq_false c1]
    exact⟨(noS,noP,[],8),rfl,rfl,.inl rfl,noS_szd,Nat.zero_le _⟩
theorem law16_l1_run (x:Store×Ptr×List Int×Int)(h:Fine x.1):∀(k i f:Nat),i+k=x.1.Space.length→k<f→run (law16_DeadBlocks_l1 x) f i=some ():=by
  intro k
  induction k with
  | zero=>
    intro i f hi hf
    obtain⟨f,rfl⟩:∃q,f=q+1:=⟨f-1,by omega⟩
    obtain rfl:i=x.1.Space.length:=by omega
    refine Zl ?_
    unfold law16_DeadBlocks_l1;rw[beq_f,cond_false]
  | succ k ih=>
    intro i f hi hf
    obtain⟨f,rfl⟩:∃q,f=q+1:=⟨f-1,by omega⟩
    have hlt:i<x.1.Space.length:=by omega
    rcases h with h|h
    · rw[h]at hlt;cases hlt
    · have h1:x.1.Disk.Blocks.length=256:=h.1.1
      have h2:x.1.Space.length=256:=h.2.1.1
      have hlt2:i<x.1.Disk.Blocks.length:=by omega
      have h3:=h.1.2.2.1 _ (List.getElem_mem hlt2)
      have h4:∀{β:Type} (k:UInt8→Option β),idx x.1.Disk.Blocks[i] 0 k=k (x.1.Disk.Blocks[i]'hlt2)[0]:=λk=>ZW (i:=0) k (by omega)
      rw[run_st (s':=i+1) (by
        unfold law16_DeadBlocks_l1
        rw[beq_t _ _ hlt,cond_true,ZW _ hlt,ZW _ hlt2,ZW _ hlt2,h4,h4])]
      exact ih (i+1) f (by omega) (by omega)
theorem law_DeadBlocks (s:Store)(birth:UInt32)(l:List Ptr)(p:Ptr)(hz:Sized s.Disk)(hF:FitD s.Disk):law16_DeadBlocks s birth l p=some true:=by
  unfold law16_DeadBlocks
  obtain⟨g,hg⟩:=great13_tot hz
  rw[hg,Option.bind_some]
  cases g with
  |true=>rfl
  | false=>
    rw[cond_false]
    by_cases k1:(1000:Int)<(l.length:Int)
    · rw[decide_eq_true k1];rfl
    have hf:=great13_few hF hg
    obtain⟨v,e1,e2,e3,e4,e5⟩:=lay_both hf hz birth l (by omega)
    obtain⟨u,e6,e7,e8,e9⟩:=load_both hz p
    have hsp:v.1.Space.length≤1000:=by
      rcases e3 with h|h
      · rw[h];exact Nat.zero_le _
      · rw[h.2.1.1];omega
    rw[decide_eq_false k1,cond_false,ref_twin hf.small,Option.bind_some,app_nil' (by omega),e1,Option.bind_some,e2,Option.bind_some,e6,Option.bind_some,e7,Option.bind_some,ref_same13 e4,Option.bind_some,Bool.not_true,cond_false,
      refl32,Bool.not_true,cond_false,ref_same12 _ (by omega),Option.bind_some,Bool.not_true,cond_false,nbeq rfl,cond_false,ref_same10 _ (by omega),Option.bind_some,Bool.not_true,cond_false,ref_same12 _ (by omega),Option.bind_some,Bool.not_true,cond_false,nbeq rfl,cond_false,
      show loop (law16_DeadBlocks_l1 v) 0=some ()from law16_l1_run v e3 v.1.Space.length 0 FUEL (by omega) (Nat.lt_of_le_of_lt hsp (by decide)),Option.bind_some,ref_same13 hz,Option.bind_some,cond_true,ref_same10 _ (by omega),Option.bind_some]
    rfl
theorem law_DeadBlocks' (s:Store)(birth:UInt32)(l:List Ptr)(p:Ptr)(hz:Sized s.Disk)(hF:FitD s.Disk)(_:InI64 p.At):law16_DeadBlocks s birth l p=some true:=law_DeadBlocks s birth l p hz hF
end Go.Ow
