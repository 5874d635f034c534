import Derived.Test.YtgiefadcpnegcaaGreatOwMb
import Derived.HandedShaped
import Derived.Test.YtgiefadcpnegcaaGreatOwMd
/-
  What is proved here: what a reading of an argument says, where no slice that is met takes more than the form's reach.
-/
set_option linter.unusedSimpArgs false
set_option linter.unusedVariables false
namespace Go.Ow
open Go.ChangeShapes Go.WideShapes Go.ChangeAt Go.RowKit
section
variable{H:Type}{enc:TypeId×Value→H}{P:Program}{W:World}{B:Bulk H}
def Fits (P:Program)(t:TypeId)(d:DataW H):Prop:=(d.weights P t).all (· ≤reachBytes)=true
def FitsEach (P:Program)(ts:List TypeId)(ds:List (DataW H)):Prop:=(DataW.weightsEach P ts ds).all (· ≤reachBytes)=true
theorem fits_cons{t:TypeId}{ts:List TypeId}{d:DataW H}{ds:List (DataW H)}(h:FitsEach P (t::ts) (d::ds)):Fits P t d∧FitsEach P ts ds:=by
 unfold FitsEach at h
 rw[DataW.weightsEach,List.all_append,Bool.and_eq_true]at h
 exact h
theorem fits_all{e:TypeId}:∀{ds:List (DataW H)},(DataW.weightsAll P e ds).all (· ≤reachBytes)=true→∀d∈ds,Fits P e d
  |[],_,d,hd=>by cases hd
  | x::r,h,d,hd=>by
    rw[DataW.weightsAll,List.all_append,Bool.and_eq_true]at h
    rcases List.mem_cons.1 hd with rfl|hd
    · exact h.1
    · exact fits_all h.2 d hd
theorem fits_slice{t e:TypeId}{a b:List (DataW H)}(ht:P.underlying t=some (.slice e))(hb:1≤P.bytesOf e)(h:Fits P t (.slice a b)):a.length≤reachBytes∧∀d∈a,Fits P e d:=by
 unfold Fits at h
 rw[DataW.weights,ht]at h
 simp only[List.all_cons,List.all_append,Bool.and_eq_true,decide_eq_true_eq]at h
 refine⟨?_,fits_all h.2.1⟩
 have:=Nat.le_mul_of_pos_right (a.length+b.length) hb
 omega
theorem fits_agg{t:TypeId}{fs:Array Field}{parts:List (DataW H)}(ht:P.underlying t=some (.struct fs))(h:Fits P t (.agg parts)):FitsEach P (fs.toList.map (·.type)) parts:=by
 unfold Fits at h
 rw[DataW.weights,ht]at h
 exact h
def ReadsF (enc:TypeId×Value→H)(P:Program)(W:World)(t:TypeId){α:Type}(R:Rep α)(size:Nat)(I:α→Prop):Prop:=
 ∀fuel cs d ps,DataW.trod enc P W 0 (λ_=>true) true fuel t cs=some (d,ps)→Fits P t d→∃x,R (HW W) cs x∧cs.length=size∧I x
theorem Reads.f{α:Type}{t:TypeId}{R:Rep α}{size:Nat}{big:α→Nat}{I:α→Prop}(h:Reads enc P W B t R size big I):ReadsF enc P W t R size I:=λfuel cs d ps e _=>by
 obtain⟨x,h1,h2,-,h3⟩:=h fuel cs d ps e;exact⟨x,h1,h2,h3⟩
theorem readsF_slice{α:Type}{t e:TypeId}{R:Rep α}{size:Nat}{I:α→Prop}(ht:P.underlying t=some (.slice e))(hc:P.cellsOf e=size)(hpos:0<size)(hb:1≤P.bytesOf e)(he:ReadsF enc P W e R size I):
    ∀fuel cs d ps,DataW.trod enc P W 0 (λ_=>true) true fuel t cs=some (d,ps)→Fits P t d→∃ao n cap,cs= [.slice ao n cap]∧∃l,IsSlice (HW W) R size (.slice ao n cap) l∧l.length≤reachBytes∧∀x∈l,I x:=λfuel cs d ps h hF=>by
  rcases DataW.trod_slice ht h with⟨rfl,hx⟩|⟨a,len,cap,elems,rst,m,_,rfl,hx,_,hlc,hcm,hlen,hel,hrest,_⟩
  · exact⟨none,0,0,rfl,[],IsSlice.nil _ _ _,Nat.zero_le _,by simp⟩
  · simp only [Prod.mk.injEq]at hx
    rw[hx.1]at hF
    obtain⟨hF1,hF2⟩:=fits_slice ht hb hF
    have hspot:cap=0∨a.spot=none:=by
      by_cases h0:cap=0
      · exact .inl h0
      right
      have hsome:∃cs',W.cells? 0 a (P.cellsOf e)=some cs':=by
        by_cases hl:len=0
        · subst hl
          obtain⟨hr1,hr2⟩:=hrest rfl
          have:=hr2 0 (by omega)
          have h3:(rst[0]?).isSome=true:=by rw[List.getElem?_eq_getElem (by omega)];rfl
          rw[←this]at h3
          cases h4:W.cells? 0 (a.add ((0+0)*P.cellsOf e)) (P.cellsOf e)with
          |none=>rw[h4]at h3;simp at h3
          |some c=>exact⟨c,by simpa[Addr.add]using h4⟩
        · have:=hel 0 (by omega)
          have h3:(elems[0]?).isSome=true:=by rw[List.getElem?_eq_getElem (by omega)];rfl
          rw[←this]at h3
          cases h4:W.cells? 0 (a.add (0*P.cellsOf e)) (P.cellsOf e)with
          |none=>rw[h4]at h3;simp at h3
          |some c=>exact⟨c,by simpa[Addr.add]using h4⟩
      obtain⟨cs',hcs'⟩:=hsome
      obtain⟨_,hl',hc'⟩:=World.cells?_some hcs'
      have:=hc' 0 (by omega)
      have h5:(cs'[0]?).isSome=true:=by rw[List.getElem?_eq_getElem (by omega)];rfl
      rw[←this]at h5
      have h6:a.add 0=a:=by simp[Addr.add]
      rw[h6]at h5
      cases hs:a.spot with
      |none=>rfl
      | some s=>
        unfold World.cell? at h5
        rw[hs]at h5
        split at h5<;>simp at h5
    have key:∀(k:Nat),k≤len→∃l:List α,l.length=k∧(∀x∈l,I x)∧
        ∀i y,l[i]? =some y→∃cs,W.cells? 0 (a.add (i*size)) size=some cs∧R (HW W) cs y∧cs.length=size:=by
      intro k
      induction k with
      |zero=>intro _;exact⟨[],rfl,by simp,by simp⟩
      | succ k ih=>
        intro hk
        obtain⟨l,hl,hI,hi⟩:=ih (by omega)
        have h1:=hel k (by omega)
        have hk':k<elems.length:=by omega
        rw[List.getElem?_eq_getElem hk']at h1
        cases h4:W.cells? 0 (a.add (k*P.cellsOf e)) (P.cellsOf e)with
        |none=>rw[h4]at h1;simp at h1
        | some c=>
          rw[h4]at h1
          simp only[Option.bind_some]at h1
          obtain⟨y,hy1,hy2,hy4⟩:=he m c elems[k].1 elems[k].2 h1 (hF2 _ (List.mem_map_of_mem (List.getElem_mem hk')))
          refine⟨l++ [y],by simp[hl],?_,?_⟩
          · intro x hx
            rcases List.mem_append.1 hx with hx|hx
            · exact hI x hx
            · simp at hx;subst hx;exact hy4
          · intro i z hz
            by_cases hi':i<k
            · rw[List.getElem?_append_left (by omega)]at hz
              exact hi i z hz
            · have hik:i=k:=by
                have:=(List.getElem?_eq_some_iff.1 hz).1
                simp at this;omega
              subst hik
              rw[List.getElem?_append_right (by omega)]at hz
              simp[hl]at hz;subst hz
              exact⟨c,by rw[←hc];exact h4,hy1,hy2⟩
    obtain⟨l,hl,hI,hi⟩:=key len (Nat.le_refl _)
    refine⟨some a,len,cap,rfl,l,⟨some a,cap,by rw[hl],by omega,hcm,λa' e'=> ?_,λe'=>(by cases e'),λi y hy=> ?_⟩,?_,hI⟩
    · cases e';exact hspot
    · have hlt:=(List.getElem?_eq_some_iff.1 hy).1
      have hsp:a.spot=none:=hspot.resolve_left (by omega)
      obtain⟨b,o,s⟩:=a
      simp at hsp;subst hsp
      obtain⟨cs,h1,h2,h3⟩:=hi i y hy
      refine⟨b,o,cs,rfl,h3,h2,λj u hu=> ?_⟩
      obtain⟨_,_,h5⟩:=World.cells?_some h1
      have hj:j<size:=by have:=(List.getElem?_eq_some_iff.1 hu).1;omega
      have h6:=h5 j hj
      rw[hu]at h6
      have e1:(Addr.add (Addr.add ⟨b,o,none⟩ (i*size)) j)=⟨b,o+i*size+j,none⟩:=by
        unfold Addr.add;split<;>split<;>simp_all
      rw[e1]at h6
      exact h6
    · rw[List.length_map]at hF1;omega
theorem readsF_sl{α:Type}{t e:TypeId}{R:Rep α}{size:Nat}{I:α→Prop}(ht:P.underlying t=some (.slice e))(hc:P.cellsOf e=size)(hpos:0<size)(hb:1≤P.bytesOf e)(he:ReadsF enc P W e R size I):
 ReadsF enc P W t (RSl R size) 1 (λl=>l.length≤reachBytes∧∀x∈l,I x):=λfuel cs d ps h hF=>by
 obtain⟨ao,n,cap,rfl,l,h1,h2,h3⟩:=readsF_slice ht hc hpos hb he fuel cs d ps h hF
 exact⟨l,⟨_,rfl,h1⟩,rfl,h2,h3⟩
def fit_Write (x:Write):Prop:=InI64 x.At∧x.Data.length≤reachBytes∧∀y∈x.Data,True
theorem readsF_Write{t:TypeId}{fs:Array Field}{f0 f1:Field}(ht:P.underlying t=some (.struct fs))(hN:P.cellsOf t=2)(hk:fs.size=2)(hl:fs.toList= [f0,f1])
 (g0:fs[0]? =some f0∧f0.offset=0∧P.cellsOf f0.type=1)(r0:ReadsF enc P W f0.type RInt 1 InI64)
 (g1:fs[1]? =some f1∧f1.offset=1∧P.cellsOf f1.type=1)(r1:ReadsF enc P W f1.type (RSl RU8 1) 1 (λl=>l.length≤reachBytes∧∀x∈l,(λ_=>True) x)):
 ReadsF enc P W t R_Write 2 fit_Write:=λfuel cs d ps h hF=>by
 obtain⟨xs,n,_,hx,hlen,hxl,hf⟩:=DataW.trod_struct ht h
 rw[hN]at hlen
 rw[hk]at hxl
 match xs,hxl with
 |[x0,x1],_=>
 match cs,hlen with
 |[c0,c1],_=>
 simp only[Prod.mk.injEq]at hx
 rw[hx.1]at hF
 have hF:=fits_agg ht hF
 rw[hl]at hF
 obtain⟨F0,hF⟩:=fits_cons hF
 obtain⟨F1,-⟩:=fits_cons hF
 obtain⟨y0,a0,_,i0⟩:=r0 n [c0] x0.1 x0.2 (by have e:=hf 0 _ g0.1;rw[g0.2.1,g0.2.2]at e;exact e) F0
 obtain rfl:c0=.int .i64 y0:=by have e: [c0]= [.int .i64 y0]:=a0;simpa using e
 obtain⟨y1,a1,_,i1⟩:=r1 n [c1] x1.1 x1.2 (by have e:=hf 1 _ g1.1;rw[g1.2.1,g1.2.2]at e;exact e) F1
 obtain⟨u1,e,a1⟩:=a1
 obtain rfl:c1=u1:=by simpa using e
 exact⟨⟨y0,y1⟩,⟨_,rfl,a1⟩,rfl,⟨i0,i1⟩⟩
def fit_Disk (x:Disk):Prop:=(x.Blocks.length≤reachBytes∧∀b∈x.Blocks,b.length≤reachBytes∧∀y∈b,True)∧(x.Waits.length≤reachBytes∧∀w∈x.Waits,fit_Write w)
theorem readsF_Disk{t:TypeId}{fs:Array Field}{f0 f1:Field}(ht:P.underlying t=some (.struct fs))(hN:P.cellsOf t=2)(hk:fs.size=2)(hl:fs.toList= [f0,f1])
 (g0:fs[0]? =some f0∧f0.offset=0∧P.cellsOf f0.type=1)(r0:ReadsF enc P W f0.type (RSl (RSl RU8 1) 1) 1 (λl=>l.length≤reachBytes∧∀x∈l,(λl=>l.length≤reachBytes∧∀x∈l,(λ_=>True) x) x))
 (g1:fs[1]? =some f1∧f1.offset=1∧P.cellsOf f1.type=1)(r1:ReadsF enc P W f1.type (RSl R_Write 2) 1 (λl=>l.length≤reachBytes∧∀x∈l,fit_Write x)):
 ReadsF enc P W t R_Disk 2 fit_Disk:=λfuel cs d ps h hF=>by
 obtain⟨xs,n,_,hx,hlen,hxl,hf⟩:=DataW.trod_struct ht h
 rw[hN]at hlen
 rw[hk]at hxl
 match xs,hxl with
 |[x0,x1],_=>
 match cs,hlen with
 |[c0,c1],_=>
 simp only[Prod.mk.injEq]at hx
 rw[hx.1]at hF
 have hF:=fits_agg ht hF
 rw[hl]at hF
 obtain⟨F0,hF⟩:=fits_cons hF
 obtain⟨F1,-⟩:=fits_cons hF
 obtain⟨y0,a0,_,i0⟩:=r0 n [c0] x0.1 x0.2 (by have e:=hf 0 _ g0.1;rw[g0.2.1,g0.2.2]at e;exact e) F0
 obtain⟨u0,e,a0⟩:=a0
 obtain rfl:c0=u0:=by simpa using e
 obtain⟨y1,a1,_,i1⟩:=r1 n [c1] x1.1 x1.2 (by have e:=hf 1 _ g1.1;rw[g1.2.1,g1.2.2]at e;exact e) F1
 obtain⟨u1,e,a1⟩:=a1
 obtain rfl:c1=u1:=by simpa using e
 exact⟨⟨y0,y1⟩,⟨_,_,rfl,a0,a1⟩,rfl,⟨i0,i1⟩⟩
def fit_Store (x:Store):Prop:=fit_Disk x.Disk∧(x.Space.length≤reachBytes∧∀y∈x.Space,True)∧True∧True
theorem readsF_Store{t:TypeId}{fs:Array Field}{f0 f1 f2 f3:Field}(ht:P.underlying t=some (.struct fs))(hN:P.cellsOf t=5)(hk:fs.size=4)(hl:fs.toList= [f0,f1,f2,f3])
 (g0:fs[0]? =some f0∧f0.offset=0∧P.cellsOf f0.type=2)(r0:ReadsF enc P W f0.type R_Disk 2 fit_Disk)
 (g1:fs[1]? =some f1∧f1.offset=2∧P.cellsOf f1.type=1)(r1:ReadsF enc P W f1.type (RSl RU8 1) 1 (λl=>l.length≤reachBytes∧∀x∈l,(λ_=>True) x))
 (g2:fs[2]? =some f2∧f2.offset=3∧P.cellsOf f2.type=1)(r2:ReadsF enc P W f2.type RU32 1 (λ_=>True))
 (g3:fs[3]? =some f3∧f3.offset=4∧P.cellsOf f3.type=1)(r3:ReadsF enc P W f3.type RU32 1 (λ_=>True)):
 ReadsF enc P W t R_Store 5 fit_Store:=λfuel cs d ps h hF=>by
 obtain⟨xs,n,_,hx,hlen,hxl,hf⟩:=DataW.trod_struct ht h
 rw[hN]at hlen
 rw[hk]at hxl
 match xs,hxl with
 |[x0,x1,x2,x3],_=>
 match cs,hlen with
 |[c0,c1,c2,c3,c4],_=>
 simp only[Prod.mk.injEq]at hx
 rw[hx.1]at hF
 have hF:=fits_agg ht hF
 rw[hl]at hF
 obtain⟨F0,hF⟩:=fits_cons hF
 obtain⟨F1,hF⟩:=fits_cons hF
 obtain⟨F2,hF⟩:=fits_cons hF
 obtain⟨F3,-⟩:=fits_cons hF
 obtain⟨y0,a0,_,i0⟩:=r0 n [c0,c1] x0.1 x0.2 (by have e:=hf 0 _ g0.1;rw[g0.2.1,g0.2.2]at e;exact e) F0
 obtain⟨w0_0,w0_1,e,h0_0,h0_1⟩:=a0
 simp only[List.cons.injEq,and_true]at e
 obtain⟨rfl,rfl⟩:=e
 obtain⟨y1,a1,_,i1⟩:=r1 n [c2] x1.1 x1.2 (by have e:=hf 1 _ g1.1;rw[g1.2.1,g1.2.2]at e;exact e) F1
 obtain⟨u1,e,a1⟩:=a1
 obtain rfl:c2=u1:=by simpa using e
 obtain⟨y2,a2,_,i2⟩:=r2 n [c3] x2.1 x2.2 (by have e:=hf 2 _ g2.1;rw[g2.2.1,g2.2.2]at e;exact e) F2
 obtain rfl:c3=.int .u32 (y2.toNat:Int):=by have e: [c3]= [.int .u32 (y2.toNat:Int)]:=a2;simpa using e
 obtain⟨y3,a3,_,i3⟩:=r3 n [c4] x3.1 x3.2 (by have e:=hf 3 _ g3.1;rw[g3.2.1,g3.2.2]at e;exact e) F3
 obtain rfl:c4=.int .u32 (y3.toNat:Int):=by have e: [c4]= [.int .u32 (y3.toNat:Int)]:=a3;simpa using e
 exact⟨⟨y0,y1,y2,y3⟩,⟨_,_,_,rfl,h0_0,h0_1,a1⟩,rfl,⟨i0,i1,i2,i3⟩⟩
theorem argF_struct{r:Reach}{b0:Nat}{t:TypeId}{v:Value}{d:DataW H}{ps:List MemPlace}{α:Type}{fs:Array Field}{R:Rep α}{size:Nat}{I:α→Prop}(ht:P.underlying t=some (.struct fs))(he:ReadsF enc P W t R size I)
 (hval:Value.okWide P W r b0 t v)(hd:DataW.Trod enc P W 0 (λ_=>true) true t v d ps)(hF:Fits P t d):
 ∃cs:Array Value,v=.agg cs∧∃x,R (HW W) cs.toList x∧I x:=by
 obtain⟨cs,rfl,_⟩:=okWide_struct ht hval
 obtain⟨fuel,hf⟩:=hd
 obtain⟨x,h1,h2,h3⟩:=he fuel _ d ps hf hF
 exact⟨cs,rfl,x,by simpa[Value.cells]using h1,h3⟩
end
end Go.Ow
namespace Go.Ow
open Go.ChangeShapes Go.WideShapes Go.ChangeAt Go.RowKit
section
variable{H:Type}{enc:TypeId×Value→H}{P:Program}{W:World}{B:Bulk H}
end
end Go.Ow
namespace Go.Ow
def ptrB (p:Ptr):List UInt8:=leB p.At.toNat 1++leB p.Birth.toNat 3++leB p.Iv.toNat 4++leB p.Tag.toNat 4++leB p.Sum.toNat 4
theorem ptrB_length (p:Ptr):(ptrB p).length=16:=by simp only[ptrB,List.length_append,leB_length]
theorem write_step (p:Ptr)(i n k:Nat)(r:List UInt8)(hs:(A5.mk (1:Int) 3 4 4 4).l[i]? =some (k:Int))(hn:(A5.mk p.At (p.Birth.toNat:Int) (p.Iv.toNat:Int) (p.Tag.toNat:Int) (p.Sum.toNat:Int)).l[i]? =some (n:Int))
 (hi:i<5)(hr:r.length≤100)(h1:1≤k)(h4:k≤4)(hlt:n<256^k):ptr_Write_l1 p (A5.mk 1 3 4 4 4) (r,i)=some (.inl (r++leB n k,i+1)):=by
 unfold ptr_Write_l1
 dsimp only
 rw[decide_eq_true (show(i:Int)<5 by omega)]
 simp only[cond_true]
 rw[idx_eq (y:=(k:Int)) ⟨by omega,hs⟩,idx_eq (y:=(n:Int)) ⟨by omega,hn⟩,code_Put_eq h1 h4 hlt]
 simp only[Option.bind_some]
 rw[app_eq (by simp only[leB_length,LIM];omega)]
theorem ptr_Write_eq{p:Ptr}(h:okR p):ptr_Write p=some (ptrB p,0):=by
 obtain⟨h1,h2,h3,h4⟩:=h
 have hb:p.Birth.toNat<256^3:=by
  have:=UInt32.le_iff_toNat_le.1 h4
  have e:(16777215:UInt32).toNat=16777215:=rfl
  rw[e]at this
  have e3:(256:Nat)^3=16777216:=by decide
  omega
 have e4:(256:Nat)^4=4294967296:=by decide
 have hloop:loop (ptr_Write_l1 p (A5.mk 1 3 4 4 4)) (([]:List UInt8),0)=some (ptrB p):=
  run5 (write_step p 0 p.At.toNat 1 [] rfl (by show some p.At=some _;rw[Int.toNat_of_nonneg (by omega)]) (by omega) (by simp) (by omega) (by omega) (by omega))
   (write_step p 1 p.Birth.toNat 3 _ rfl rfl (by omega) (by simp[leB_length]) (by omega) (by omega) hb)
   (write_step p 2 p.Iv.toNat 4 _ rfl rfl (by omega) (by simp[leB_length]) (by omega) (by omega) (by have:=u32_lt p.Iv;omega))
   (write_step p 3 p.Tag.toNat 4 _ rfl rfl (by omega) (by simp[leB_length]) (by omega) (by omega) (by have:=u32_lt p.Tag;omega))
   (write_step p 4 p.Sum.toNat 4 _ rfl rfl (by omega) (by simp[leB_length]) (by omega) (by omega) (by have:=u32_lt p.Sum;omega))
   (by unfold ptr_Write_l1;rfl)
 unfold ptr_Write
 rw[ptr_Check_eq',if_pos (.inr ⟨h1,h2,h3,h4⟩)]
 simp only[Option.bind_some,decide_true,Bool.not_true,cond_false,ptr_sizes]
 rw[hloop]
 rfl
def at5 (b:List UInt8):Ptr:=⟨(numB ((b.drop 0).take 1):Int),u32i (numB ((b.drop 1).take 3):Int),u32i (numB ((b.drop 4).take 4):Int),u32i (numB ((b.drop 8).take 4):Int),u32i (numB ((b.drop 12).take 4):Int)⟩
theorem ptr_Read_eq{b:List UInt8}(h:b.length=16):ptr_Read b=some (if isNone (at5 b)∨okR (at5 b)then(at5 b,0)else(⟨0,0,0,0,0⟩,8)):=by
 have g:∀(a k:Nat),1≤k→k≤4→a+k≤16→code_Get b (a:Int) (k:Int)=some ((numB ((b.drop a).take k):Int),0):=λa k h1 h4 h5=>code_Get_eq h1 h4 (by omega) (by omega)
 have hloop:loop (ptr_Read_l1 b (A5.mk 1 3 4 4 4)) (0,0,0,0,0,0,0)=some ((numB ((b.drop 0).take 1):Int),(numB ((b.drop 1).take 3):Int),(numB ((b.drop 4).take 4):Int),(numB ((b.drop 8).take 4):Int),(numB ((b.drop 12).take 4):Int)):=by
  have g0:=g 0 1 (by omega) (by omega) (by omega)
  have g1:=g 1 3 (by omega) (by omega) (by omega)
  have g2:=g 4 4 (by omega) (by omega) (by omega)
  have g3:=g 8 4 (by omega) (by omega) (by omega)
  have g4:=g 12 4 (by omega) (by omega) (by omega)
  generalize (numB ((b.drop 0).take 1):Int)=n0 at g0⊢
  generalize (numB ((b.drop 1).take 3):Int)=n1 at g1⊢
  generalize (numB ((b.drop 4).take 4):Int)=n2 at g2⊢
  generalize (numB ((b.drop 8).take 4):Int)=n3 at g3⊢
  generalize (numB ((b.drop 12).take 4):Int)=n4 at g4⊢
  refine run5 (s1:=(n0,0,0,0,0,1,1)) (s2:=(n0,n1,0,0,0,4,2)) (s3:=(n0,n1,n2,0,0,8,3)) (s4:=(n0,n1,n2,n3,0,12,4)) (s5:=(n0,n1,n2,n3,n4,16,5)) ?_ ?_ ?_ ?_ ?_ ?_
  · unfold ptr_Read_l1
    show Option.bind (code_Get b 0 1) _=_
    rw[show code_Get b 0 1=some (n0,0)from g0];rfl
  · unfold ptr_Read_l1
    show Option.bind (code_Get b 1 3) _=_
    rw[show code_Get b 1 3=some (n1,0)from g1];rfl
  · unfold ptr_Read_l1
    show Option.bind (code_Get b 4 4) _=_
    rw[show code_Get b 4 4=some (n2,0)from g2];rfl
  · unfold ptr_Read_l1
    show Option.bind (code_Get b 8 4) _=_
    rw[show code_Get b 8 4=some (n3,0)from g3];rfl
  · unfold ptr_Read_l1
    show Option.bind (code_Get b 12 4) _=_
    rw[show code_Get b 12 4=some (n4,0)from g4];rfl
  · unfold ptr_Read_l1;rfl
 unfold ptr_Read
 rw[decide_eq_true (show(b.length:Int)=16 by omega)]
 simp only[Bool.not_true,cond_false,ptr_sizes,Option.bind_some]
 rw[hloop]
 simp only[Option.bind_some]
 rw[show(Ptr.mk (numB ((b.drop 0).take 1):Int) (u32i (numB ((b.drop 1).take 3):Int)) (u32i (numB ((b.drop 4).take 4):Int)) (u32i (numB ((b.drop 8).take 4):Int)) (u32i (numB ((b.drop 12).take 4):Int)))=at5 b from rfl,ptr_Check_eq']
 by_cases c:isNone (at5 b)∨okR (at5 b)
 · rw[if_pos c,if_pos c];rfl
 · rw[if_neg c,if_neg c];rfl
theorem drop_app{α:Type}(a b:List α){n:Nat}(h:a.length=n):(a++b).drop n=b:=by subst h;exact List.drop_left
theorem take_app{α:Type}(a b:List α){n:Nat}(h:a.length=n):(a++b).take n=a:=by subst h;exact List.take_left
theorem u32i_num{a:UInt32}{k:Nat}(h:a.toNat<256^k):u32i (numB (leB a.toNat k):Int)=a:=by
 rw[numB_leB h]
 unfold u32i
 apply UInt32.toNat_inj.1
 rw[UInt32.toNat_ofNat']
 have:=u32_lt a
 omega
theorem at5_ptrB{p:Ptr}(h:okR p):at5 (ptrB p)=p:=by
 obtain⟨h1,h2,h3,h4⟩:=h
 have hb:p.Birth.toNat<256^3:=by
  have:=UInt32.le_iff_toNat_le.1 h4
  have e:(16777215:UInt32).toNat=16777215:=rfl
  rw[e]at this
  have e3:(256:Nat)^3=16777216:=by decide
  omega
 have e4:(256:Nat)^4=4294967296:=by decide
 have q0:ptrB p=leB p.At.toNat 1++(leB p.Birth.toNat 3++(leB p.Iv.toNat 4++(leB p.Tag.toNat 4++leB p.Sum.toNat 4))):=by simp only[ptrB,List.append_assoc]
 have q1:(ptrB p).drop 1=leB p.Birth.toNat 3++(leB p.Iv.toNat 4++(leB p.Tag.toNat 4++leB p.Sum.toNat 4)):=by rw[q0];exact drop_app _ _ (leB_length _ _)
 have q2:(ptrB p).drop 4=leB p.Iv.toNat 4++(leB p.Tag.toNat 4++leB p.Sum.toNat 4):=by rw[show 4=1+3 from rfl,←List.drop_drop,q1];exact drop_app _ _ (leB_length _ _)
 have q3:(ptrB p).drop 8=leB p.Tag.toNat 4++leB p.Sum.toNat 4:=by rw[show 8=4+4 from rfl,←List.drop_drop,q2];exact drop_app _ _ (leB_length _ _)
 have q4:(ptrB p).drop 12=leB p.Sum.toNat 4:=by rw[show 12=8+4 from rfl,←List.drop_drop,q3];exact drop_app _ _ (leB_length _ _)
 unfold at5
 rw[List.drop_zero,q1,q2,q3,q4,take_app _ _ (leB_length _ 3),take_app _ _ (leB_length _ 4),take_app _ _ (leB_length _ 4),List.take_of_length_le (l:=leB p.Sum.toNat 4) (by rw[leB_length];omega),q0,take_app _ _ (leB_length _ 1)]
 rw[u32i_num hb,u32i_num (by have:=u32_lt p.Iv;omega),u32i_num (by have:=u32_lt p.Tag;omega),u32i_num (by have:=u32_lt p.Sum;omega),numB_leB (by omega),Int.toNat_of_nonneg (by omega)]
def okP (p:Ptr):Prop:=isNone p∨okR p
instance (p:Ptr):Decidable (okP p):=by unfold okP;infer_instance
theorem isNone.eq{p:Ptr}(h:isNone p):p=noP:=by
 obtain⟨a,b,c,d,e⟩:=p
 obtain⟨h1,h2,h3,h4,h5⟩:=h
 simp only at h1 h2 h3 h4 h5
 subst h1;subst h2;subst h3;subst h4;subst h5;rfl
theorem ptrB_no:ptrB noP=List.replicate 16 0:=by decide+kernel
theorem write_no:ptr_Write noP=some (ptrB noP,0):=by decide+kernel
theorem ptr_Write_ok{p:Ptr}(h:okP p):ptr_Write p=some (ptrB p,0):=by
 rcases h with h|h
 · rw[h.eq];exact write_no
 · exact ptr_Write_eq h
theorem ptr_Write_bad{p:Ptr}(h:¬okP p):ptr_Write p=some ([],8):=by
 unfold ptr_Write
 rw[ptr_Check_eq',if_neg (show¬(isNone p∨okR p)from h)];rfl
theorem Ptr.ext_iff'{a b:Ptr}:a=b↔(a.At=b.At∧a.Birth=b.Birth∧a.Iv=b.Iv∧a.Tag=b.Tag∧a.Sum=b.Sum):=by
 constructor
 · intro h;subst h;exact⟨rfl,rfl,rfl,rfl,rfl⟩
 · intro h
   obtain⟨a1,a2,a3,a4,a5⟩:=a
   obtain⟨b1,b2,b3,b4,b5⟩:=b
   simp only at h
   obtain⟨rfl,rfl,rfl,rfl,rfl⟩:=h
   rfl
instance:DecidableEq Ptr:=λa b=>decidable_of_iff _ Ptr.ext_iff'.symm
theorem ptr_dec (a b:Ptr):(decide (a.At=b.At)&&(decide (a.Birth=b.Birth)&&(decide (a.Iv=b.Iv)&&(decide (a.Tag=b.Tag)&&(decide (a.Sum=b.Sum)&&true)))))=decide (a=b):=by
 rw[Bool.eq_iff_iff]
 simp only[Bool.and_eq_true,decide_eq_true_eq,and_true]
 exact Ptr.ext_iff'.symm
theorem at5_no:at5 (ptrB noP)=noP:=by decide+kernel
theorem at5_ptrB'{p:Ptr}(h:okP p):at5 (ptrB p)=p:=by
 rcases h with h|h
 · rw[h.eq];exact at5_no
 · exact at5_ptrB h
def rowF (y:Ptr)(r:List UInt8):Option (List UInt8 ⊕ (List UInt8 ⊕ Int)):=Option.bind (ptr_Write y) λx=>cond (!decide (x.2=0)) (some (.inr (.inr x.2))) (appN 256 r x.1 λq=>some (.inl q))
theorem flat_len (l:List Ptr):((l.map ptrB).flatten).length=16*l.length:=by
 induction l with
 |nil=>rfl
 |cons p r ih=>rw[List.map_cons,List.flatten_cons,List.length_append,ih,ptrB_length,List.length_cons];omega
theorem row_fold:∀(l:List Ptr) (r:List UInt8),r.length+16*l.length≤256→
    forL rowF l r=some (if∀p∈l,okP p then .inl (r++(l.map ptrB).flatten)else .inr (.inr 8))
  |[],r,_=>by simp[forL]
  | p ::l,r,h=>by
    rw[List.length_cons]at h
    by_cases hp:okP p
    · rw[forL_cons (s':=r++ptrB p) (by unfold rowF;rw[ptr_Write_ok hp,Option.bind_some,zdec,cond_false,appN_eq (by rw[ptrB_length];omega)]),row_fold l _ (by rw[List.length_append,ptrB_length];omega)]
      by_cases hl:∀q∈l,okP q
      · rw[if_pos hl,if_pos (λq hq=>by rcases List.mem_cons.1 hq with rfl|h;exact hp;exact hl q h)]
        simp
      · rw[if_neg hl,if_neg (λh=>hl (λq hq=>h q (by simp[hq])))]
    · rw[forL_stop (e:=.inr 8) (by unfold rowF;rw[ptr_Write_bad hp];rfl),if_neg (λh=>hp (h p (by simp)))]
def rowB (l:List Ptr):List UInt8:=(l.map ptrB).flatten++List.replicate (256-16*l.length) 0
theorem rowB_length{l:List Ptr}(h:l.length≤16):(rowB l).length=256:=by rw[rowB,List.length_append,flat_len,List.length_replicate];omega
theorem ptr_Row_eq{l:List Ptr}(h:l.length≤16):ptr_Row l=some (if∀p∈l,okP p then(rowB l,0)else([],8)):=by
  unfold ptr_Row
  rw[decide_eq_false (by omega),cond_false]
  rw [loop_each' l (λi r=>(r,i)) rowF (λr=>.inl r) (λi hi r=>by
    unfold ptr_Row_l1
    dsimp only
    rw[decide_eq_true (by omega),cond_true,Zg _ hi]
    unfold rowF
    cases ptr_Write l[i]with
    |none=>rfl
    | some x=>
      rw[Option.bind_some,Option.bind_some]
      cases hb:(!decide (x.2=0))with
      |true=>rfl
      | false=>
        rw[cond_false,cond_false]
        unfold appN
        split<;>rfl) (λr=>by
    unfold ptr_Row_l1
    dsimp only
    rw[decide_eq_false (by omega)];rfl) (lt_fuel h (by decide)) [],row_fold l [] (by simp;omega)]
  by_cases hl:∀q∈l,okP q
  · rw[if_pos hl,if_pos hl,Option.bind_some]
    show Option.bind (some (Sum.inl _)) _=_
    rw[Option.bind_some,Sum.elim_inl,List.nil_append,extO_eq (by rw[flat_len];omega)]
    unfold rowB
    rw[flat_len];rfl
  · rw[if_neg hl,if_neg hl];rfl
def rowsF (y:List UInt8)(s:List Ptr):Option (List Ptr ⊕ Int):=some (if okP (at5 y)then .inl (s++ [at5 y])else .inr 8)
theorem rows_r1{y:List UInt8}(h:y.length=16){s:List Ptr}(hs:s.length≤100):ptr_Rows_r1 y s=rowsF y s:=by
 unfold ptr_Rows_r1 rowsF
 rw[ptr_Read_eq h,Option.bind_some]
 by_cases c:okP (at5 y)
 · rw[if_pos (show isNone (at5 y)∨okR (at5 y)from c),if_pos c,zdec,cond_false,app_eq (lim_le (by simp;omega))]
 · rw[if_neg (show¬(isNone (at5 y)∨okR (at5 y))from c),if_neg c];rfl
theorem rows_fold:∀(ys:List (List UInt8)) (s:List Ptr),(∀y∈ys,y.length=16)→s.length+ys.length≤100→
    forL ptr_Rows_r1 ys s=some (if∀y∈ys,okP (at5 y)then .inl (s++ys.map at5)else .inr 8)
  |[],s,_,_=>by simp[forL]
  | y ::ys,s,hy,hs=>by
    rw[List.length_cons]at hs
    have h1:=rows_r1 (hy y (by simp)) (s:=s) (by omega)
    by_cases c:okP (at5 y)
    · rw[forL_cons (s':=s++ [at5 y]) (by rw[h1];unfold rowsF;rw[if_pos c]),rows_fold ys _ (λz hz=>hy z (by simp[hz])) (by simp;omega)]
      by_cases hl:∀q∈ys,okP (at5 q)
      · rw[if_pos hl,if_pos (λq hq=>by rcases List.mem_cons.1 hq with rfl|h;exact c;exact hl q h)];simp
      · rw[if_neg hl,if_neg (λh=>hl (λq hq=>h q (by simp[hq])))]
    · rw[forL_stop (e:=8) (by rw[h1];unfold rowsF;rw[if_neg c]),if_neg (λh=>c (h y (by simp)))]
def ptrsOf (b:List UInt8):List Ptr:=(chunks 16 b.length b).map at5
def rowsB (b:List UInt8):List Ptr×Int:=if∀p∈ptrsOf b,okP p then(ptrsOf b,0)else([],8)
theorem chunks_count:∀(f:Nat) (b:List UInt8) (n:Nat),b.length≤f→b.length=16*n→(chunks 16 f b).length=n
  |0,b,n,h,e=>by simp[chunks];omega
  | f +1,b,n,h,e=>by
    by_cases hb:b= []
    · subst hb;rw[chunks_nil];simp at e⊢;omega
    · have:=List.length_pos_iff.2 hb
      obtain⟨n,rfl⟩:∃m,n=m+1:=⟨n-1,by omega⟩
      rw[chunks_step hb,List.length_cons,chunks_count f (b.drop 16) n (by rw[List.length_drop];omega) (by rw[List.length_drop];omega)]
theorem ptrsOf_length{b:List UInt8}(h:b.length=256):(ptrsOf b).length=16:=by unfold ptrsOf;rw[List.length_map,chunks_count _ b 16 (Nat.le_refl _) (by omega)]
theorem ptr_Rows_eq{b:List UInt8}(h:b.length=256):ptr_Rows b=some (rowsB b):=by
 unfold ptr_Rows
 rw[decide_eq_true (show(b.length:Int)=256 by omega)]
 rw[show(!true)=false from rfl,cond_false]
 unfold slices_Chunk_byte
 rw[if_pos ⟨by omega,by omega,lim_le (by omega)⟩,Option.bind_some,show(16:Int).toNat=16 from rfl,rows_fold _ [] (chunks_len (by omega) _ _ (Nat.le_refl _) (by omega)) (by rw[chunks_count _ b 16 (Nat.le_refl _) (by omega)];simp)]
 unfold rowsB ptrsOf
 by_cases hl:∀y∈chunks 16 b.length b,okP (at5 y)
 · rw[if_pos hl,if_pos (λp hp=>by obtain⟨y,hy,rfl⟩:=List.mem_map.1 hp;exact hl y hy)];rfl
 · rw[if_neg hl,if_neg (λh=>hl (λy hy=>h _ (List.mem_map_of_mem hy)))];rfl
theorem chunks_row:∀(l:List Ptr) (k f:Nat),16*l.length+16*k≤f→chunks 16 f ((l.map ptrB).flatten++List.replicate (16*k) 0)=l.map ptrB++List.replicate k (ptrB noP)
  |[],0,f,_=>by simp[chunks_nil]
  |[],k+1,0,h=>by omega
  | [],k+1,f+1,h=>by
    have e:List.replicate (16*(k+1)) (0:UInt8)=List.replicate 16 0++List.replicate (16*k) 0:=by rw[List.replicate_append_replicate];congr 1;omega
    have ih:=chunks_row [] k f (by simp at h⊢;omega)
    simp only[List.map_nil,List.flatten_nil,List.nil_append]at ih⊢
    rw[e,chunks_step (by simp),take_app _ _ (by simp),drop_app _ _ (by simp),ih,ptrB_no];rfl
  |p::l,k,0,h=>by simp at h
  | p ::l,k,f+1,h=>by
    have ih:=chunks_row l k f (by simp at h;omega)
    rw[List.map_cons,List.flatten_cons,List.append_assoc]
    have hne:ptrB p++((l.map ptrB).flatten++List.replicate (16*k) 0)≠[]:=by
      intro e
      have:=congrArg List.length e
      rw[List.length_append,ptrB_length]at this
      simp at this
    rw[chunks_step hne,take_app _ _ (ptrB_length p),drop_app _ _ (ptrB_length p),ih];rfl
theorem okP_no:okP noP:=.inl noP_none
end Go.Ow
namespace Go.Ow
def okO (o:Object):Prop:=((1:Int)≤(o.Kind.toNat:Int)∧(o.Kind.toNat:Int)≤7)∧(0≤o.Links∧o.Links≤255)∧(0≤o.Size∧o.Size≤3840)∧o.Data.length=15∧∀p∈o.Data,okP p
instance (o:Object):Decidable (okO o):=by unfold okO;infer_instance
def objB (o:Object):List UInt8:=([o.Kind,u8i o.Links]++leB o.Size.toNat 2)++List.replicate 12 0++(rowB o.Data).take 240
end Go.Ow
namespace Go.Ow
end Go.Ow
namespace Go.Ow
theorem PutAt.space{s:Store}{p:Ptr}{b:List UInt8}{t:Store}{q:Ptr}{j:Nat}(h:PutAt s p b t q j):t.Space=s.Space.set j 1:=by rw[h.out]
theorem PutAt.at_{s:Store}{p:Ptr}{b:List UInt8}{t:Store}{q:Ptr}{j:Nat}(h:PutAt s p b t q j):q.At.toNat=j:=by rw[h.ptr];simp
def dataM (p q:Ptr):List Ptr:=[p,noP,noP,noP,q,noP,noP,noP,noP,noP,noP,noP,noP,noP,noP]
structure Made (s:Store) (root at' p q:Ptr):Prop where
  ok:OKSt s
  hr:okR root
  ha:okR at'
  hp:okR p
  hq:okR q
  rb:root.Birth=5
  ab:at'.Birth=5
  pb:p.Birth=3
  qb:q.Birth=5
  lr:lookS s root=(rowB [noP,noP,at'],0)
  la:lookS s at'=(objB ⟨1,0,0,dataM p q⟩,0)
section told
variable{s:Store}{root at' p q:Ptr}(h:Made s root at' p q)
include h
end told
end Go.Ow
namespace Go.Ow
end Go.Ow
namespace Go.Ow
end Go.Ow
namespace Go.Ow
end Go.Ow
namespace Go.Ow
section
variable{s:Store}{p:Ptr}{b:List UInt8}{t:Store}{q:Ptr}{j:Nat}
end
end Go.Ow
namespace Go.Ow
end Go.Ow
namespace Go.Ow
end Go.Ow
namespace Go.Ow
structure SmallD (d:Disk):Prop where
  blocks:d.Blocks.length≤2000000
  waits:d.Waits.length≤2000000
  block:∀b∈d.Blocks,b.length≤2000000
  wait:∀w∈d.Waits,w.Data.length≤2000000
structure SmallS (s:Store):Prop where
  disk:SmallD s.Disk
  space:s.Space.length≤2000000
end Go.Ow
namespace Go.Ow
end Go.Ow
namespace Go.Ow
end Go.Ow
namespace Go.Ow
end Go.Ow
namespace Go.Ow
end Go.Ow
namespace Go.Ow
theorem same09_l1 (d:Disk):∀(k i n:Nat),i+k=d.Blocks.length→k<n→run (ref09_Same_l1 d d) n ((0:Int),i)=some 0
  | 0,i,n,hi,hn=>by
    obtain⟨n,rfl⟩:∃m,n=m+1:=⟨n-1,by omega⟩
    exact run_en (by unfold ref09_Same_l1;dsimp only;rw[decide_eq_false (by omega)];rfl)
  | k+1,i,n,hi,hn=>by
    obtain⟨n,rfl⟩:∃m,n=m+1:=⟨n-1,by omega⟩
    rw[run_go (s':=((0:Int),i+1)) (by unfold ref09_Same_l1;dsimp only;rw[decide_eq_true (by omega),cond_true,Zg _ (show i<d.Blocks.length by omega),Zg _ (show i<d.Blocks.length by omega),nbeq rfl,cond_false])]
    exact same09_l1 d k (i+1) n (by omega) (by omega)
theorem same09_l2 (d:Disk):∀(k i n:Nat),i+k=d.Waits.length→k<n→run (ref09_Same_l2 d d) n ((0:Int),i)=some 0
  | 0,i,n,hi,hn=>by
    obtain⟨n,rfl⟩:∃m,n=m+1:=⟨n-1,by omega⟩
    exact run_en (by unfold ref09_Same_l2;dsimp only;rw[decide_eq_false (by omega)];rfl)
  | k+1,i,n,hi,hn=>by
    obtain⟨n,rfl⟩:∃m,n=m+1:=⟨n-1,by omega⟩
    rw[run_go (s':=((0:Int),i+1)) (by unfold ref09_Same_l2;dsimp only;rw[decide_eq_true (by omega),cond_true,Zg _ (show i<d.Waits.length by omega),Zg _ (show i<d.Waits.length by omega),nbeq rfl,cond_false,nbeq rfl,cond_false])]
    exact same09_l2 d k (i+1) n (by omega) (by omega)
theorem ref_same09{d:Disk}(hs:Sized d):ref09_Same d d=some true:=by
 unfold ref09_Same
 rw[nbeq rfl,cond_false,nbeq rfl,cond_false,show loop (ref09_Same_l1 d d) (0,0)=some 0 from same09_l1 d d.Blocks.length 0 FUEL (by omega) (Nat.lt_of_le_of_lt hs.blocks (by decide)),Option.bind_some,show loop (ref09_Same_l2 d d) (0,0)=some 0 from same09_l2 d d.Waits.length 0 FUEL (by omega) (Nat.lt_of_le_of_lt hs.waits (by decide)),Option.bind_some]
 rfl
structure FitD (d:Disk):Prop where
  blocks:d.Blocks.length≤140737488351232
  waits:d.Waits.length≤140737488351232
  block:∀b∈d.Blocks,b.length≤140737488351232
  wait:∀w∈d.Waits,w.Data.length≤140737488351232
theorem great_l1{d:Disk}(h:FitD d):∀(k i f c:Nat),i+k=d.Blocks.length→k<f→c≤140737490351232→∃c':Nat,run (ref09_Great_l1 d) f ((c:Int),i)=some (c':Int)∧c≤c'∧c'≤140737490351232∧(c'<2000000→∀b∈d.Blocks.drop i,b.length≤c')
  | 0,i,f,c,hi,hf,hc=>by
    obtain⟨f,rfl⟩:∃q,f=q+1:=⟨f-1,by omega⟩
    refine⟨c,run_en ?_,Nat.le_refl _,hc,λ_ b hb=> ?_⟩
    · unfold ref09_Great_l1
      dsimp only
      rw[decide_eq_false (by omega)];rfl
    · rw[List.drop_eq_nil_of_le (by omega)]at hb;cases hb
  | k + 1,i,f,c,hi,hf,hc=>by
    obtain⟨f,rfl⟩:∃q,f=q+1:=⟨f-1,by omega⟩
    have hlt:i<d.Blocks.length:=by omega
    have hb:=h.block _ (List.getElem_mem hlt)
    by_cases c1:c<2000000
    · obtain⟨c',h1,h2,h3,h4⟩:=great_l1 h k (i+1) f (c+(d.Blocks[i]).length) (by omega) (by omega) (by omega)
      refine⟨c',?_,by omega,h3,λhc' b hb'=> ?_⟩
      · rw[run_st (s':=(((c+(d.Blocks[i]).length:Nat):Int),i+1)) (by unfold ref09_Great_l1;dsimp only;rw[decide_eq_true (by omega),cond_true,decide_eq_true (by omega),cond_true,Zg _ hlt,Zj (by omega) (by omega)];rfl)];exact h1
      · rw[List.drop_eq_getElem_cons hlt]at hb'
        rcases List.mem_cons.1 hb' with rfl|hb'
        · omega
        · exact h4 hc' b hb'
    · refine⟨c,run_en ?_,Nat.le_refl _,hc,λhc'=>absurd hc' c1⟩
      unfold ref09_Great_l1
      dsimp only
      rw[decide_eq_true (by omega),cond_true,decide_eq_false (by omega)];rfl
theorem great_l2{d:Disk}(h:FitD d):∀(k i f c:Nat),i+k=d.Waits.length→k<f→c≤140737490351232→∃c':Nat,run (ref09_Great_l2 d) f ((c:Int),i)=some (c':Int)∧c≤c'∧c'≤140737490351232∧(c'<2000000→∀w∈d.Waits.drop i,w.Data.length≤c')
  | 0,i,f,c,hi,hf,hc=>by
    obtain⟨f,rfl⟩:∃q,f=q+1:=⟨f-1,by omega⟩
    refine⟨c,run_en ?_,Nat.le_refl _,hc,λ_ b hb=> ?_⟩
    · unfold ref09_Great_l2
      dsimp only
      rw[decide_eq_false (by omega)];rfl
    · rw[List.drop_eq_nil_of_le (by omega)]at hb;cases hb
  | k + 1,i,f,c,hi,hf,hc=>by
    obtain⟨f,rfl⟩:∃q,f=q+1:=⟨f-1,by omega⟩
    have hlt:i<d.Waits.length:=by omega
    have hb:=h.wait _ (List.getElem_mem hlt)
    by_cases c1:c<2000000
    · obtain⟨c',h1,h2,h3,h4⟩:=great_l2 h k (i+1) f (c+(d.Waits[i]).Data.length) (by omega) (by omega) (by omega)
      refine⟨c',?_,by omega,h3,λhc' b hb'=> ?_⟩
      · rw[run_st (s':=(((c+(d.Waits[i]).Data.length:Nat):Int),i+1)) (by unfold ref09_Great_l2;dsimp only;rw[decide_eq_true (by omega),cond_true,decide_eq_true (by omega),cond_true,Zg _ hlt,Zj (by omega) (by omega)];rfl)];exact h1
      · rw[List.drop_eq_getElem_cons hlt]at hb'
        rcases List.mem_cons.1 hb' with rfl|hb'
        · omega
        · exact h4 hc' b hb'
    · refine⟨c,run_en ?_,Nat.le_refl _,hc,λhc'=>absurd hc' c1⟩
      unfold ref09_Great_l2
      dsimp only
      rw[decide_eq_true (by omega),cond_true,decide_eq_false (by omega)];rfl
theorem great_small{d:Disk}(h:FitD d)(hg:ref09_Great d=some false):SmallD d:=by
 have hb:=h.blocks
 have hw:=h.waits
 obtain⟨c,e1,-,e3,e4⟩:=great_l1 h d.Blocks.length 0 (d.Blocks.length+1) 0 (by omega) (by omega) (by omega)
 obtain⟨c',f1,f2,f3,f4⟩:=great_l2 h d.Waits.length 0 (d.Waits.length+1) c (by omega) (by omega) (by omega)
 have hF:FUEL=18446744073709551616:=rfl
 unfold ref09_Great at hg
 rw[show loop (ref09_Great_l1 d) (0,0)=some (c:Int)from loop_of (by omega) e1,Option.bind_some,show loop (ref09_Great_l2 d) ((c:Int),0)=some (c':Int)from loop_of (by omega) f1,Option.bind_some]at hg
 rw[List.drop_zero]at e4 f4
 have fin:∀x:Option (Unit ⊕ Unit),x=some (.inl ())∨x=some (.inr ())→(Option.bind x λt_5=>Sum.elim (λ_=>some (decide (2000000≤(c':Int)))) (λ_=>some true) t_5)=some false→x=some (.inl ())∧c'<2000000:=by
  rintro x (rfl|rfl) hx
  · refine⟨rfl,?_⟩
    have:=of_decide_eq_false (Option.some.inj hx)
    omega
  · cases hx
 by_cases k1:(500:Int)<(d.Blocks.length:Int)
 · rw[decide_eq_true k1]at hg;cases hg
 by_cases k2:(4106:Int)<(d.Waits.length:Int)
 · rw[decide_eq_false k1,decide_eq_true (show(500:Int)<(d.Waits.length:Int) by omega),decide_eq_false (show¬(d.Waits.length:Int)<4096 by omega),decide_eq_true k2]at hg;cases hg
 have hc:c'<2000000:=by
  refine(fin _ ?_ hg).2
  rw[decide_eq_false k1,cond_false,decide_eq_false k2]
  by_cases k3:(500:Int)<(d.Waits.length:Int)
  · rw[decide_eq_true k3,cond_true]
    by_cases k4:(d.Waits.length:Int)<4096
    · rw[decide_eq_true k4];exact .inr rfl
    · rw[decide_eq_false k4];exact .inl rfl
  · rw[decide_eq_false k3];exact .inl rfl
 exact⟨by omega,by omega,λb hb=>by have:=e4 (by omega) b hb;omega,λw hw=>by have:=f4 hc w hw;omega⟩
theorem great13_small{s:Store}(h:FitD s.Disk)(hg:ref13_Great s=some false):SmallS s:=by
  unfold ref13_Great at hg
  rw[show(Disk.mk s.Disk.Blocks s.Disk.Waits)=s.Disk from rfl]at hg
  cases e:ref09_Great s.Disk with
  |none=>rw[e]at hg;cases hg
  | some g=>
    rw[e]at hg
    cases g with
    |true=>cases hg
    | false=>
      refine⟨great_small h e,?_⟩
      have:decide ((10000:Int)<(s.Space.length:Int))=false:=Option.some.inj hg
      have:=of_decide_eq_false this
      omega
end Go.Ow
namespace Go.Ow
end Go.Ow
namespace Go.Ow
end Go.Ow
namespace Go.Ow
def putS (s:Store)(birth iv tag:UInt32)(b:List UInt8):Option (Store×Ptr):=match freeFrom s.Space 0 with
 |none=>none
 |some j=>if s.Disk.Waits.length=4096 then none else some (⟨⟨s.Disk.Blocks,s.Disk.Waits++ [⟨(j:Int),b⟩]⟩,s.Space.set j 1,s.Epoch,s.Count⟩,⟨(j:Int),birth,iv,tag,sumOf b⟩)
def endS (o:Option (Store×Ptr)):Store×Ptr×Int:=match o with
 |none=>(noS,noP,9)
 |some (t,q)=>(t,q,0)
theorem store_put_is{s:Store}(h:OKSt s)(birth iv tag:UInt32){b:List UInt8}(hb:b.length=256):store_put s ⟨0,birth,iv,tag,0⟩ b=some (endS (putS s birth iv tag b)):=by
  unfold store_put putS
  rw[space_Take_eq,Option.bind_some]
  unfold takeS
  rw[if_pos h.2.1]
  cases hf:freeFrom s.Space 0 with
  |none=>rfl
  | some j=>
    have hp:=free_high h.2.1 (freeFrom_some hf).2.2
    dsimp only
    rw[zdec,cond_false,dev_Write_eq h.1.sized (inI64_of ⟨by omega,by omega⟩),Option.bind_some,writeD_ok h.1 hp.2 hb]
    by_cases c:s.Disk.Waits.length=4096
    · rw[if_pos c,if_pos c];rfl
    · rw[if_neg c,if_neg c]
      dsimp only
      rw[zdec,cond_false,mix_Sum_eq (by omega),Option.bind_some];rfl
def rawS (s:Store)(birth iv tag:UInt32)(b:List UInt8):Store×Ptr×Int:=if askErr s birth (b.length=256)=0 then endS (putS s birth iv tag b)else(noS,noP,askErr s birth (b.length=256))
theorem store_Raw_is{s:Store}(h:Sized s.Disk)(birth iv tag:UInt32)(b:List UInt8):store_Raw s birth iv tag b=some (rawS s birth iv tag b):=by
 unfold rawS
 by_cases c:askErr s birth (b.length=256)=0
 · rw [if_pos c]
   have c':=c
   unfold askErr at c'
   by_cases c1:OKSt s
   · by_cases c2:birthOk birth
     · by_cases c3:b.length=256
       · unfold store_Raw
         rw[asked_core h birth 256 [b] (b.length=256) (by rw[asked_loop1];congr 1;by_cases c:b.length=256<;>simp[c]<;>omega),Option.bind_some,c,zdec,cond_false,store_put_is c1 birth iv tag c3,Option.bind_some]
       · rw[if_pos c1,if_pos c2,if_neg c3]at c';omega
     · rw[if_pos c1,if_neg c2]at c';omega
   · rw[if_neg c1]at c';omega
 · rw[if_neg c,raw_err h birth iv tag b c]
theorem ask_none{s:Store}{birth:UInt32}{ok:Prop} [Decidable ok](h1:OKSt s)(h2:birthOk birth)(h3:ok):askErr s birth ok=0:=by unfold askErr;rw[if_pos h1,if_pos h2,if_pos h3]
theorem birth_cases (birth:UInt32):(birthOk birth∧¬birth<1∧¬16777215<birth)∨(¬birthOk birth∧(birth<1∨(¬birth<1∧16777215<birth))):=by
 by_cases c1:birth<1
 · exact .inr ⟨λh=>UInt32.not_le.2 c1 h.1,.inl c1⟩
 · by_cases c2:16777215<birth
   · exact .inr ⟨λh=>UInt32.not_le.2 c2 h.2,.inr ⟨c1,c2⟩⟩
   · exact .inl ⟨⟨UInt32.not_lt.1 c1,UInt32.not_lt.1 c2⟩,c1,c2⟩
theorem store_Lay_is{s:Store}(h:Sized s.Disk)(birth:UInt32)(b:List UInt8):store_Lay s birth b=some (rawS s birth 0 0 b):=by rw[lay_raw,store_Raw_is h]
end Go.Ow
namespace Go.Ow
end Go.Ow
namespace Go.Ow
theorem lookS_len{s:Store}{p:Ptr}(h:(lookS s p).2=0):(lookS s p).1.length=256:=by
 unfold lookS at h⊢
 by_cases c:OKSt s∧(isNone p∨okR p)
 · rw [if_pos c]at h⊢
   by_cases d:isNone p
   · rw[if_pos d]at h;cases h
   · rw[if_neg d]at h⊢
     by_cases e:sumOf ((seenB s.Disk).getD p.At.toNat [])=p.Sum
     · rw[if_pos e]
       have hr:=c.2.resolve_left d
       exact seen_mem c.1.1 (by have:=hr.1;have:=hr.2.1;omega)
     · rw[if_neg e]at h;cases h
 · rw[if_neg c]at h;cases h
end Go.Ow
namespace Go.Ow
end Go.Ow
namespace Go.Ow
end Go.Ow
namespace Go.Ow
theorem cut_big (bs:List (List UInt8))(h:bs.length≤1000)(hb:∀b∈bs,b.length≤2000000):dev_cut (bs.map λb=>(b.length:Int))=some (bs.map λb=>List.replicate b.length 0):=by
 unfold dev_cut
 have e1:(bs.map λb=>(b.length:Int)).map Int.toNat=bs.map List.length:=by rw[List.map_map];rfl
 have e2:=sum_le_mul (l:=bs.map List.length) (k:=2000000) (λx hx=>by obtain⟨b,h1,rfl⟩:=List.mem_map.1 hx;exact hb b h1)
 rw[List.length_map]at e2
 rw[if_pos ⟨λn hn=>by obtain⟨b,_,rfl⟩:=List.mem_map.1 hn;omega,by rw[e1];simp only[LIM];omega,by simp only[List.length_map,LIM];omega⟩,List.map_map]
 rfl
theorem clone_big{l:List UInt8}(h:l.length≤2000000):bytes_Clone l=some l:=by
 unfold bytes_Clone;rw[app_eq (by simp only[List.length_nil,LIM];omega)];rfl
theorem twin_l3_big (d:Disk)(h:d.Waits.length≤5000)(hw:∀w∈d.Waits,w.Data.length≤2000000):loop (dev_Twin_l3 d) (([]:List Write),0)=some d.Waits:=by
 rw[loop_each d.Waits (λi (r:List Write)=>(r,i)) (λb r=>some (.inl (r++ [b]))) (λr=>r) (λi r=>r.length=i) (λi hi r hr=> ?_) (λi hi r r' hr e=> ?_) (λr _=> ?_) (small_lt (by omega)) rfl,forL_map]
 · show some _=some _
   congr 1
   suffices H:∀(l:List Write) (a:List Write),l.foldl (λr b=>r++ [b]) a=a++l by simpa using H d.Waits []
   intro l
   induction l with
   |nil=>simp
   |cons b l ih=>intro a;simp[ih]
 · unfold dev_Twin_l3
   rw[cI,if_pos hi,Zg _ hi,clone_big (hw _ (List.getElem_mem hi))]
   simp only[Option.bind_some]
   rw[app_eq (by simp only[List.length_cons,List.length_nil,LIM];omega)]
   rfl
 · simp only[Option.some.injEq,Sum.inl.injEq]at e;subst e;simp[hr]
 · unfold dev_Twin_l3
   rw[cI,if_neg (by omega)]
structure Few (s:Store):Prop where
  small:SmallS s
  blocks:s.Disk.Blocks.length≤1000
  waits:s.Disk.Waits.length≤5000
  space:s.Space.length≤1000000
theorem great_few{d:Disk}(hg:ref09_Great d=some false):d.Blocks.length≤1000∧d.Waits.length≤5000:=by
 unfold ref09_Great at hg
 by_cases k1:(500:Int)<(d.Blocks.length:Int)
 · rw[decide_eq_true k1]at hg;cases hg
 by_cases k2:(4106:Int)<(d.Waits.length:Int)
 · rw[decide_eq_false k1,decide_eq_true (show(500:Int)<(d.Waits.length:Int) by omega),decide_eq_false (show¬(d.Waits.length:Int)<4096 by omega),decide_eq_true k2]at hg;cases hg
 exact⟨by omega,by omega⟩
theorem great13_few{s:Store}(h:FitD s.Disk)(hg:ref13_Great s=some false):Few s:=by
  have hs:=great13_small h hg
  unfold ref13_Great at hg
  rw[show(Disk.mk s.Disk.Blocks s.Disk.Waits)=s.Disk from rfl]at hg
  cases e:ref09_Great s.Disk with
  |none=>rw[e]at hg;cases hg
  | some g=>
    rw[e]at hg
    cases g with
    |true=>cases hg
    | false=>
      have:decide ((10000:Int)<(s.Space.length:Int))=false:=Option.some.inj hg
      have:=of_decide_eq_false this
      exact⟨hs,(great_few e).1,(great_few e).2,by omega⟩
theorem store_Twin_big{s:Store}(h:Few s):store_Twin s=some s:=by
 have hd:dev_Twin s.Disk=some s.Disk:=by
  unfold dev_Twin
  rw[twin_l1 _ h.blocks]
  simp only[Option.bind_some]
  rw[cut_big _ h.blocks h.small.disk.block]
  simp only[Option.bind_some]
  rw[twin_l2 _ h.blocks]
  simp only[Option.bind_some]
  rw[twin_l3_big _ h.waits h.small.disk.wait]
  rfl
 unfold store_Twin
 rw[show(Disk.mk s.Disk.Blocks s.Disk.Waits)=s.Disk from rfl,hd,Option.bind_some,clone_big h.small.space]
 rfl
end Go.Ow
namespace Go.Ow
theorem fuel12{n:Nat}(h:n≤1000000000000):n+2<FUEL:=Nat.lt_of_le_of_lt (Nat.add_le_add_right h 2) (by decide)
def AllOk{α:Type}(l:List α)(ok:Nat→α→Bool):Prop:=∀i (h:i<l.length),ok i l[i]=true
theorem loop_tests{α:Type}(l:List α)(ok:Nat→α→Bool){body:Nat→Option (Nat ⊕ (Unit ⊕ Unit))}
    (step:∀i (h:i<l.length),body i=some (if ok i l[i]then .inl (i+1)else .inr (.inr ())))
    (stop:body l.length=some (.inr (.inl ())))(hl:l.length≤1000000000000):
    ∃t,loop body 0=some t∧((t=.inl ()∧AllOk l ok)∨(t=.inr ()∧¬AllOk l ok)):=by
  have key:∀(k i f:Nat),i+k=l.length→k<f→(∀j (h:j<l.length),j<i→ok j l[j]=true)→∃t,run body f i=some t∧((t=.inl ()∧AllOk l ok)∨(t=.inr ()∧¬AllOk l ok)):=by
    intro k
    induction k with
    | zero=>
      intro i f hi hf hall
      obtain⟨f,rfl⟩:∃g,f=g+1:=⟨f-1,by omega⟩
      obtain rfl:i=l.length:=by omega
      exact⟨.inl (),by unfold run;rw[stop];rfl,.inl ⟨rfl,λj h=>hall j h h⟩⟩
    | succ k ih=>
      intro i f hi hf hall
      obtain⟨f,rfl⟩:∃g,f=g+1:=⟨f-1,by omega⟩
      have hlt:i<l.length:=by omega
      by_cases c:ok i l[i]=true
      · obtain⟨t,h1,h2⟩:=ih (i+1) f (by omega) (by omega) (λj h hj=>by
          rcases Nat.lt_or_ge j i with h'|h'
          · exact hall j h h'
          · obtain rfl:j=i:=by omega
            exact c)
        refine⟨t,?_,h2⟩
        unfold run;rw[step i hlt,if_pos c];exact h1
      · refine⟨.inr (),?_,.inr ⟨rfl,λh=>c (h i hlt)⟩⟩
        unfold run;rw[step i hlt,if_neg c];rfl
  exact key l.length 0 FUEL (by omega) (by have:=fuel12 hl;omega) (λj h hj=>by omega)
def sgI (a b:Int):Int:=if a<b then -1 else if b<a then 1 else 0
theorem cmp_int (a b:Int):cmp_Compare_int a b=some (sgI a b):=by
 unfold cmp_Compare_int cmp_isNaN_int sgI
 by_cases h1:a<b
 · simp[h1]
 · by_cases h2:b<a<;>simp[h1,h2]
theorem sgI_neg{a b:Int}:sgI a b<0↔a<b:=by
 unfold sgI
 by_cases h1:a<b
 · simp[h1]
 · by_cases h2:b<a<;>simp[h1,h2]
end Go.Ow
namespace Go.Ow
end Go.Ow
namespace Go.Ow
noncomputable def dec (p:Prop):Bool:=@decide p (Classical.propDecidable p)
theorem dec_t{p:Prop}(h:p):dec p=true:=by unfold dec;exact @decide_eq_true p (Classical.propDecidable p) h
theorem dec_f{p:Prop}(h:¬p):dec p=false:=by unfold dec;exact @decide_eq_false p (Classical.propDecidable p) h
theorem of_dec{p:Prop}(h:dec p=true):p:=Classical.byContradiction λc=>by rw[dec_f c]at h;cases h
theorem beq_t (i n:Nat)(h:i<n):decide ((i:Int)<(n:Int))=true:=decide_eq_true (by omega)
theorem beq_f (n:Nat):decide ((n:Int)<(n:Int))=false:=decide_eq_false (by omega)
theorem pred_int{i:Nat}(h:i≠0)(hi:i≤1000000000000):w64 ((i:Int)-1)=((i-1:Nat):Int):=by rw[Zj (by omega) (by omega)];omega
theorem pos_int{i:Nat}(h:i≠0):decide (0<(i:Int))=true:=decide_eq_true (by omega)
def okE (d:List Ptr)(i:Nat)(p:Ptr):Bool:=!decide (isNone p)&&(decide (okP p)&&(decide (i=0) ||(d[i-1]?.any λq=>decide (q.At<p.At))))
def deadOk (d:List Ptr):Prop:=d.length≤240∧AllOk d (okE d)
theorem noneB_eq (p:Ptr):(decide (p.At=0)&&(decide (p.Birth=(0:UInt32))&&(decide (p.Iv=(0:UInt32))&&(decide (p.Tag=(0:UInt32))&&(decide (p.Sum=(0:UInt32))&&true)))))=decide (isNone p):=by
 unfold isNone
 by_cases h1:p.At=0<;>by_cases h2:p.Birth=0<;>by_cases h3:p.Iv=0<;>by_cases h4:p.Tag=0<;>by_cases h5:p.Sum=0<;>simp[h1,h2,h3,h4,h5]
theorem check_okP (p:Ptr):ptr_Check p=some (if okP p then 0 else 8):=ptr_Check_eq' p
theorem dead_check (d:List Ptr):dead_Check d=some (if dec (deadOk d)then 0 else 8):=by
 unfold dead_Check
 by_cases hl:240<d.length
 · rw[decide_eq_true (show(240:Int)<(d.length:Int) by omega),cond_true,dec_f (λh=>by have:=h.1;omega)];rfl
 · rw [decide_eq_false (show¬(240:Int)<(d.length:Int) by omega),cond_false]
   obtain ⟨t,h1,h2⟩:=loop_tests d (okE d) (body:=dead_Check_l1 d) (λi h=>by
    unfold dead_Check_l1 okE
    rw[beq_t _ _ h,cond_true,Zg _ h]
    simp only[noneB_eq,check_okP,dead_order,cmp_int,Option.bind_some]
    by_cases c0:isNone d[i]
    · simp[c0]
    · by_cases c1:okP d[i]
      · by_cases c2:i=0
        · subst c2;simp[c0,c1]
        · have h3:i-1<d.length:=by omega
          simp only[pos_int c2,cond_true,pred_int c2 (by omega),Zg _ h3,List.getElem?_eq_getElem h3,Option.any_some]
          by_cases c3:d[i-1].At<d[i].At
          · simp[c0,c1,c3,sgI]
          · have:¬sgI d[i-1].At d[i].At<0:=λq=>c3 (sgI_neg.1 q)
            have:decide (0≤sgI d[i-1].At d[i].At)=true:=decide_eq_true (by omega)
            simp[c0,c1,c2,c3,this]
      · simp[c0,c1]) (by unfold dead_Check_l1;rw[beq_f,cond_false]) (by omega)
   rw[h1,Option.bind_some]
   rcases h2 with⟨rfl,h⟩|⟨rfl,h⟩
   · rw[dec_t ⟨by omega,h⟩];rfl
   · rw[dec_f (λq=>h q.2)];rfl
end Go.Ow
namespace Go.Ow
end Go.Ow
namespace Go.Ow
def lt3 (a b c x y z:Int):Prop:=a<x∨(a=x∧(b<y∨(b=y∧c<z)))
instance (a b c x y z:Int):Decidable (lt3 a b c x y z):=by unfold lt3;infer_instance
end Go.Ow
namespace Go.Ow
end Go.Ow
namespace Go.Ow
end Go.Ow
namespace Go.Ow
end Go.Ow
namespace Go.Ow
theorem all_loop{α:Type}(l:List α){body:Nat→Option (Nat ⊕ (Unit ⊕ Unit))}(step:∀i (h:i<l.length),body i=some (.inl (i+1)))(stop:body l.length=some (.inr (.inl ())))(hl:l.length≤1000000000000):loop body 0=some (.inl ()):=by
 obtain⟨t,h1,h2⟩:=loop_tests l (λ_ _=>true) (λi h=>by rw[step i h];rfl) stop hl
 rcases h2 with⟨rfl,-⟩|⟨-,h⟩
 · exact h1
 · exact absurd (λi h=>rfl) h
theorem refl32 (q:Ptr):(decide (q.At=q.At)&&(decide (q.Birth=q.Birth)&&(decide (q.Iv=q.Iv)&&(decide (q.Tag=q.Tag)&&(decide (q.Sum=q.Sum)&&true)))))=true:=by simp
end Go.Ow
namespace Go.Ow
theorem first_run{α:Type}(l:List α)(t:α→Bool){body:Nat→Option (Nat ⊕ (Unit ⊕ Int))}(step:∀i (h:i<l.length),body i=some (if t l[i]then .inr (.inr (i:Int))else .inl (i+1)))
    (stop:body l.length=some (.inr (.inl ())))(hl:l.length≤1000000000000):loop body 0=some (match l.findIdx? t with|some i=>.inr (i:Int)|none=>.inl ()):=by
  have key:∀(k i f:Nat),i+k=l.length→k<f→(∀j (h:j<l.length),j<i→t l[j]=false)→run body f i=some (match l.findIdx? t with|some i=>.inr (i:Int)|none=>.inl ()):=by
    intro k
    induction k with
    | zero=>
      intro i f hi hf hall
      obtain⟨f,rfl⟩:∃g,f=g+1:=⟨f-1,by omega⟩
      obtain rfl:i=l.length:=by omega
      have:l.findIdx? t=none:=by
        rw[List.findIdx?_eq_none_iff]
        intro x hx
        obtain⟨j,hj,rfl⟩:=List.mem_iff_getElem.1 hx
        exact hall j hj hj
      rw[this];exact run_en stop
    | succ k ih=>
      intro i f hi hf hall
      obtain⟨f,rfl⟩:∃g,f=g+1:=⟨f-1,by omega⟩
      have hlt:i<l.length:=by omega
      cases q:t l[i]with
      | true=>
        have:l.findIdx? t=some i:=by
          rw[List.findIdx?_eq_some_iff_getElem]
          exact⟨hlt,q,λj hj=>by simpa using hall j (by omega) hj⟩
        rw[this]
        exact run_en (by rw[step i hlt,if_pos q])
      | false=>
        rw[run_st (s':=i+1) (by rw[step i hlt,if_neg (by rw[q];simp)])]
        refine ih (i+1) f (by omega) (by omega) (λj h hj=> ?_)
        rcases Nat.lt_or_ge j i with h'|h'
        · exact hall j h h'
        · obtain rfl:j=i:=by omega
          exact q
  exact key l.length 0 FUEL (by omega) (Nat.lt_of_le_of_lt hl (by decide)) (λj h hj=>by omega)
def noneB (p:Ptr):Bool:=decide (isNone p)
theorem index_no (l:List Ptr)(hl:l.length≤1000):slices_Index_Ptr l noP=some (match l.findIdx? noneB with|some i=>(i:Int)|none=> -1):=by
 unfold slices_Index_Ptr
 rw[first_run l noneB (body:=slices_Index_Ptr_l1 l noP) (λi h=>by
  unfold slices_Index_Ptr_l1
  rw[beq_t _ _ h,cond_true,Zg _ h,ptr_dec]
  have:decide (noP=l[i])=noneB l[i]:=by
   unfold noneB
   exact decide_eq_decide.2 ⟨λe=>by rw[←e];exact noP_none,λe=>(isNone.eq e).symm⟩
  rw[this]
  cases noneB l[i]<;>rfl) (by unfold slices_Index_Ptr_l1;rw[beq_f,cond_false]) (by omega),Option.bind_some]
 cases l.findIdx? noneB<;>rfl
theorem contains_nn (l:List Ptr)(hl:l.length≤1000):slices_ContainsFunc_Ptr_v2 l=some (l.any λp=> !noneB p):=by
  unfold slices_ContainsFunc_Ptr_v2 slices_IndexFunc_Ptr_v2
  rw[first_run l (λp=> !noneB p) (body:=slices_IndexFunc_Ptr_v2_l1 l) (λi h=>by
    unfold slices_IndexFunc_Ptr_v2_l1 dead_read_1
    rw[beq_t _ _ h,cond_true,Zg _ h,none_dec',Option.bind_some]
    show cond (!noneB l[i]) _ _=_
    cases noneB l[i]<;>rfl) (by unfold slices_IndexFunc_Ptr_v2_l1;rw[beq_f,cond_false]) (by omega),Option.bind_some]
  cases h:l.findIdx? (λp=> !noneB p)with
  | none=>
    rw[List.findIdx?_eq_none_iff]at h
    have:(l.any λp=> !noneB p)=false:=by rw[List.any_eq_false];intro x hx;simpa using h x hx
    rw[this];rfl
  | some i=>
    obtain⟨hi,h1,-⟩:=List.findIdx?_eq_some_iff_getElem.1 h
    have:(l.any λp=> !noneB p)=true:=List.any_eq_true.2 ⟨_,List.getElem_mem hi,h1⟩
    rw[this]
    show(Option.bind (some (i:Int)) λx_3=>some (decide (0≤x_3)))=some true
    rw[Option.bind_some,decide_eq_true (by omega)]
def trimS (l:List Ptr):Option (List Ptr):=match l.findIdx? noneB with
 |none=>some l
 |some k=>if(l.drop k).any (λp=> !noneB p)then none else some (l.take k)
theorem cut_take (l:List Ptr)(k:Nat):cut l 0 (k:Int)=l.take k:=by unfold cut;simp
theorem cut_drop (l:List Ptr)(k:Nat):cut l (k:Int) (l.length:Int)=l.drop k:=by
 unfold cut
 rw[Int.toNat_natCast,Int.toNat_natCast,List.take_of_length_le (by simp)]
def readS (s:Store)(p:Ptr):List Ptr ⊕ Int:=
 if(lookS s p).2=0 then(if(rowsB (lookS s p).1).2=0 then(match trimS (rowsB (lookS s p).1).1 with|some t=>if t= []then .inr 8 else .inl t|none=>.inr 8)else .inr 8)else .inr (lookS s p).2
theorem rowsB_len{b:List UInt8}(h:b.length=256)(e:(rowsB b).2=0):(rowsB b).1.length=16∧∀p∈(rowsB b).1,okP p:=by
 unfold rowsB at e⊢
 split at e
 · rename_i c;rw[if_pos c];exact⟨ptrsOf_length h,c⟩
 · cases e
theorem read_is{s:Store}(hs:Sized s.Disk)(p:Ptr):dead_read s p=some (readS s p):=by
  unfold dead_read readS
  rw[store_Look_eq hs,Option.bind_some]
  by_cases c1:(lookS s p).2=0
  · have hl:=lookS_len c1
    rw[nbeq c1,cond_false,if_pos c1,ptr_Rows_eq hl,Option.bind_some]
    by_cases c2:(rowsB (lookS s p).1).2=0
    · obtain⟨h16,-⟩:=rowsB_len hl c2
      rw[nbeq c2,cond_false,if_pos c2]
      generalize (rowsB (lookS s p).1).1=l at h16⊢
      rw[show Ptr.mk 0 (0:UInt32) (0:UInt32) (0:UInt32) (0:UInt32)=noP from rfl,index_no l (by omega),Option.bind_some]
      unfold trimS
      cases h:l.findIdx? noneB with
      | none=>
        have:l≠[]:=by intro e;rw[e]at h16;cases h16
        show cond (decide ((-1:Int)<0)) _ _=_
        rw[decide_eq_true (by omega),cond_true]
        show _=some (if l= []then Sum.inr 8 else Sum.inl l)
        rw[if_neg this]
      | some k=>
        obtain⟨hk,-,-⟩:=List.findIdx?_eq_some_iff_getElem.1 h
        show cond (decide ((k:Int)<0)) (some (.inl l):Option (List Ptr ⊕ Int)) (cond (decide ((k:Int)=0)) (cond true (some (.inr 8)) none) (slc l (k:Int) (l.length:Int) λm=>Option.bind (slices_ContainsFunc_Ptr_v2 m) λx=>cond x (some (.inr 8)) (slc l 0 (k:Int) λm=>some (.inl m))))=some (match (if(l.drop k).any (λp=> !noneB p)=true then none else some (l.take k))with|some t=>if t= []then Sum.inr 8 else Sum.inl t|none=>Sum.inr 8)
        rw[decide_eq_false (by omega),cond_false]
        by_cases k0:k=0
        · subst k0
          rw[decide_eq_true (by rfl),cond_true,cond_true,List.take_zero]
          cases(l.drop 0).any (λp=> !noneB p)<;>rfl
        · have hd:(l.drop k).length≤1000:=by rw[List.length_drop];omega
          rw[decide_eq_false (show¬(k:Int)=0 by omega),cond_false]
          rw[slc_eq (by omega) (by omega) (by omega)]
          rw[cut_drop,contains_nn _ hd,Option.bind_some]
          cases(l.drop k).any (λp=> !noneB p)with
          |true=>rfl
          | false=>
            rw[cond_false,slc_eq (by omega) (by omega) (by omega),cut_take]
            show _=some (if l.take k= []then Sum.inr 8 else Sum.inl (l.take k))
            rw[if_neg (by intro e;have:=congrArg List.length e;rw[List.length_take,List.length_nil]at this;omega)]
    · rw[nbne c2,cond_true,if_neg c2]
  · rw[nbne c1,cond_true,if_neg c1]
end Go.Ow
namespace Go.Ow
end Go.Ow
namespace Go.Ow
end Go.Ow
namespace Go.Ow
def fullR (l:List Ptr):List Ptr:=l++List.replicate (16-l.length) noP
theorem fullR_len{l:List Ptr}(h:l.length≤16):(fullR l).length=16:=by unfold fullR;rw[List.length_append,List.length_replicate];omega
theorem fullR_ok{l:List Ptr}(hp:∀p∈l,okP p):∀p∈fullR l,okP p:=λp h=>by
 unfold fullR at h
 rcases List.mem_append.1 h with h|h
 · exact hp p h
 · rw[(List.mem_replicate.1 h).2];exact okP_no
def layE (birth:UInt32)(own:List Int)(o:Option (Store×Ptr)):Store×UInt32×Ptr×Int×List Int:=match o with
 |none=>(noS,birth,noP,9,own)
 |some (t,q)=>(t,birth,q,0,own++ [q.At])
theorem lay1_eq{s:Store}{l:List Ptr}(h:OKSt s){birth:UInt32}(hb:birthOk birth)(hl:l.length≤16)(hp:∀p∈l,okP p)(q0:Ptr)(e0:Int)(own:List Int)(ho:own.length≤1000):
    dead_Lay_1 l s birth q0 e0 own=some (layE birth own (putS s birth 0 0 (rowB l))):=by
  unfold dead_Lay_1
  rw[ptr_Row_eq hl,if_pos hp,Option.bind_some]
  dsimp only
  rw[store_Lay_is h.1.sized,Option.bind_some]
  unfold rawS
  rw[if_pos (ask_none h hb (rowB_length hl))]
  cases e:putS s birth 0 0 (rowB l)with
  |none=>rfl
  | some x=>
    show cond (decide ((0:Int)=0)) _ _=_
    rw[decide_eq_true rfl,cond_true,app_eq (by simp only[List.length_cons,List.length_nil,LIM];omega)];rfl
end Go.Ow
namespace Go.Ow
end Go.Ow
namespace Go.Ow
theorem dead_okP{d:List Ptr}(h:deadOk d):∀p∈d,okP p:=λp hp=>by
 obtain⟨i,hi,rfl⟩:=List.mem_iff_getElem.1 hp
 have:=h.2 i hi
 unfold okE at this
 simp only[Bool.and_eq_true,decide_eq_true_eq]at this
 exact this.2.1
end Go.Ow
namespace Go.Ow.Dd
open Go.Sort Go.Proofs
def okP (p:Ptr):Bool:=decide (12≤p.At)&&decide (p.At<256)&&decide ((1:UInt32)≤p.Birth)&&decide (p.Birth≤(16777215:UInt32))
def Valid (l:List Ptr):Prop:=l.length≤240∧(∀i p,l[i]? =some p→okP p=true∧∀q,0<i→l[i-1]? =some q→q.At<p.At)
theorem ptr_Check_eq (p:Ptr)(h:(decide (p.At=0)&&(decide (p.Birth=(0:UInt32))&&(decide (p.Iv=(0:UInt32))&&(decide (p.Tag=(0:UInt32))&&(decide (p.Sum=(0:UInt32))&&true)))))=false):
 ptr_Check p=some (if okP p then 0 else 8):=by
 unfold ptr_Check okP
 rw[h]
 simp only[cond_false]
 by_cases h1:p.At<12
 · have:¬(12≤p.At):=by omega
   simp[h1,this]
 · by_cases h2:256≤p.At
   · have:¬(p.At<256):=by omega
     simp[h1,h2,this]
   · by_cases h3:p.Birth<1
     · have:¬((1:UInt32)≤p.Birth):=by rw[UInt32.not_le];exact h3
       simp[h1,h2,h3,this]
     · have h3':(1:UInt32)≤p.Birth:=by rw[←UInt32.not_lt];exact h3
       by_cases h4:(16777215:UInt32)<p.Birth
       · have:¬(p.Birth≤(16777215:UInt32)):=by rw[UInt32.not_le];exact h4
         simp[h1,h2,h3,h4,this]
       · have h4':p.Birth≤(16777215:UInt32):=by rw[←UInt32.not_lt];exact h4
         have h5:12≤p.At:=by omega
         have h6:p.At<256:=by omega
         simp[h1,h2,h3,h4,h5,h6,h3',h4']
theorem okP_zero (p:Ptr)(h:(decide (p.At=0)&&(decide (p.Birth=(0:UInt32))&&(decide (p.Iv=(0:UInt32))&&(decide (p.Tag=(0:UInt32))&&(decide (p.Sum=(0:UInt32))&&true)))))=true):okP p=false:=by
 simp only[Bool.and_eq_true,decide_eq_true_eq]at h
 unfold okP
 simp[h.1]
theorem dead_Check_spec (l:List Ptr):(dead_Check l=some 0∧Valid l)∨(dead_Check l=some 8∧¬Valid l):=by
  unfold dead_Check
  by_cases hl:240<l.length
  · right
    have:(240:Int)<l.length:=by omega
    simp only[this,decide_true,cond_true]
    exact⟨trivial,λh=>by have:=h.1;omega⟩
  · have hl' : ¬ ((240:Int)<l.length):=by omega
    simp only[hl',decide_false,cond_false]
    obtain ⟨t,ht,hR⟩:=loop_rule (body:=dead_Check_l1 l) (λs=>s≤l.length∧∀i p,i<s→l[i]? =some p→okP p=true∧∀q,0<i→l[i-1]? =some q→q.At<p.At) (λs=>l.length-s)
      (λt => match t with| .inl _=>Valid l| .inr _=>¬Valid l) (by
        rintro s ⟨hs,hI⟩
        unfold dead_Check_l1
        by_cases hlt:s<l.length
        · have h1 : ((s:Nat):Int)<(l.length:Int):=by omega
          simp only[h1,decide_true,cond_true]
          rw[Zg _ hlt]
          have hp:l[s]? =some l[s]:=List.getElem?_eq_getElem hlt
          generalize hy:l[s]=y at hp
          have bad:okP y=false→¬Valid l:=λh hv=>by
            have:=(hv.2 s y hp).1;rw[h]at this;cases this
          cases hz:(decide (y.At=0)&&(decide (y.Birth=(0:UInt32))&&(decide (y.Iv=(0:UInt32))&&(decide (y.Tag=(0:UInt32))&&(decide (y.Sum=(0:UInt32))&&true)))))with
          |true=>exact .inr ⟨_,rfl,bad (okP_zero y hz)⟩
          | false =>
            simp only[cond_false]
            rw[ptr_Check_eq y hz]
            cases ho:okP y with
            |false=>exact .inr ⟨.inr (),by simp,bad ho⟩
            | true=>
              simp only[Option.bind_some,if_true,decide_true,Bool.not_true,cond_false]
              by_cases h0:0<s
              · have h0':(0:Int)<((s:Nat):Int):=by omega
                have hw:w64 (((s:Nat):Int)-1)=((s-1:Nat):Int):=by rw[Zj (by omega) (by omega)];omega
                simp only[h0',decide_true,cond_true]
                rw[hw,Zg _ (by omega:s-1<l.length),dead_order_eq]
                have hq:l[s-1]? =some l[s-1]:=List.getElem?_eq_getElem (by omega)
                generalize l[s-1]=q at hq
                simp only[Option.bind_some]
                by_cases hc:q.At<y.At
                · left
                  have:¬(0≤cmpI q.At y.At):=by simp[cmpI,hc]
                  simp only[this,decide_false,cond_false]
                  refine⟨_,rfl,⟨hlt,λi p hi hip=> ?_⟩,by omega⟩
                  by_cases his:i<s
                  · exact hI i p his hip
                  · obtain rfl:i=s:=by omega
                    rw[hp]at hip;cases hip
                    exact⟨ho,λq' _ hq'=>by rw[hq]at hq';cases hq';exact hc⟩
                · right
                  have:0≤cmpI q.At y.At:=by unfold cmpI;split<;>(try split)<;>simp_all
                  simp only[this,decide_true,cond_true]
                  exact⟨_,rfl,λhv=>hc ((hv.2 s y hp).2 q h0 hq)⟩
              · left
                have h0':¬((0:Int)<((s:Nat):Int)):=by omega
                simp only[h0',decide_false,cond_false]
                refine⟨_,rfl,⟨hlt,λi p hi hip=> ?_⟩,by omega⟩
                obtain rfl:i=s:=by omega
                rw[hp]at hip;cases hip
                exact⟨ho,λq hi0=>absurd hi0 h0⟩
        · right
          have h1:¬(((s:Nat):Int)<(l.length:Int)):=by omega
          simp only[h1,decide_false,cond_false]
          exact⟨_,rfl,⟨by omega,λi p hip=>hI i p (by have:=(List.getElem?_eq_some_iff.1 hip).1;omega) hip⟩⟩)
      (s:=0) ⟨Nat.zero_le _,λi p h=>absurd h (by omega)⟩ (by unfold FUEL;omega)
    rw[ht]
    cases t with
    |inl u=>exact .inl ⟨rfl,hR⟩
    |inr u=>exact .inr ⟨rfl,hR⟩
end Go.Ow.Dd
namespace Go.Ow.Dd
theorem run_step{σ τ:Type}{body:σ→Option (σ ⊕ τ)}{n:Nat}{s s':σ}(h:body s=some (.inl s')):run body (n+1) s=run body n s':=by
 show Option.bind (body s) _=_
 rw[h];rfl
theorem run_end{σ τ:Type}{body:σ→Option (σ ⊕ τ)}{n:Nat}{s:σ}{t:τ}(h:body s=some (.inr t)):run body (n+1) s=some t:=by
 show Option.bind (body s) _=_
 rw[h];rfl
theorem three_fuel:3≤FUEL:=by decide
theorem run3{σ τ:Type}{body:σ→Option (σ ⊕ τ)}{s s1 s2:σ}{t:τ}(h0:body s=some (.inl s1))(h1:body s1=some (.inl s2))(h2:body s2=some (.inr t)):loop body s=some t:=
 loop_of three_fuel ((run_step (n:=2) h0).trans ((run_step (n:=1) h1).trans (run_end (n:=0) h2)))
theorem concat_l1_step (l:List (List Ptr))(n i:Nat)(y:List Ptr)(hy:l[i]? =some y)(hn:n+y.length<1000):slices_Concat_Ptr_l1 l ((n:Int),i)=some (.inl (((n+y.length:Nat):Int),i+1)):=by
 unfold slices_Concat_Ptr_l1
 dsimp only
 have hlt:=(List.getElem?_eq_some_iff.1 hy).1
 rw[show decide ((i:Int)<(l.length:Int))=true from decide_eq_true (by omega),cond_true,idx_eq (y:=y) ⟨by omega,by simpa using hy⟩]
 rw[Zj (n:=(n:Int)+(y.length:Int)) (by omega) (by omega),show decide ((n:Int)+(y.length:Int)<0)=false from decide_eq_false (by omega),cond_false,Int.natCast_add]
theorem concat_l1 (a b:List Ptr)(ha:a.length≤240)(hb:b.length≤240):loop (slices_Concat_Ptr_l1 [a,b]) (0,0)=some ((a.length:Int)+(b.length:Int)):=by
 refine run3 (s1:=(((0+a.length:Nat):Int),1)) (s2:=(((0+a.length+b.length:Nat):Int),2)) (concat_l1_step [a,b] 0 0 a rfl (by omega)) (concat_l1_step [a,b] (0+a.length) 1 b rfl (by omega)) ?_
 unfold slices_Concat_Ptr_l1
 dsimp only
 rw[show decide (((2:Nat):Int)<([a,b].length:Int))=false from decide_eq_false (by simp),cond_false,Nat.zero_add,Int.natCast_add]
theorem concat_l2 (a b:List Ptr)(ha:a.length≤240)(hb:b.length≤240):loop (slices_Concat_Ptr_l2 [a,b]) ([],0)=some (a++b):=by
 have l1:a.length≤LIM:=Nat.le_trans ha (by decide)
 have l2:a.length+b.length≤LIM:=Nat.le_trans (Nat.add_le_add ha hb) (by decide)
 refine run3 (s1:=(a,1)) (s2:=(a++b,2)) ?_ ?_ ?_
 · simp[slices_Concat_Ptr_l2,idx,app,l1]
 · simp[slices_Concat_Ptr_l2,idx,app,l2]
 · simp[slices_Concat_Ptr_l2]
theorem grow_eq (n:Nat)(hn:n≤480):slices_Grow_Ptr (n:Int)=some []:=by
 unfold slices_Grow_Ptr
 have n2:¬((n:Int)<0):=by omega
 have w3:w64 ((n:Int)-0)=(n:Int):=by rw[Zj (by omega) (by omega)];omega
 simp only[n2,decide_false,cond_false,w3]
 by_cases h0:(0:Int)<(n:Int)
 · simp only[h0,decide_true,cond_true]
   rw[mks_eq (Nat.le_trans hn (by decide)),slc_eq (by omega) (by omega) (by omega)]
   simp[cut]
 · simp only[h0,decide_false,cond_false,Option.bind_some]
theorem slices_Concat_two (a b:List Ptr)(ha:a.length≤240)(hb:b.length≤240):slices_Concat_Ptr [a,b]=some (a++b):=by
 have h:=grow_eq (a.length+b.length) (by omega)
 have h1:=concat_l1 a b ha hb
 have h2:=concat_l2 a b ha hb
 rw[Int.natCast_add]at h
 unfold slices_Concat_Ptr
 generalize (a.length:Int)+(b.length:Int)=n at h h1
 rw[h1,Option.bind_some,h,Option.bind_some,h2,Option.bind_some]
end Go.Ow.Dd
namespace Go.Ow.Dd
open Go.Sort Go.Proofs
theorem slices_Clone_eq (a:List Ptr)(ha:a.length≤1000):slices_Clone_Ptr a=some a:=by
 unfold slices_Clone_Ptr
 rw[app_eq (Nat.le_trans (by simpa using ha) (by decide))]
 rfl
def sortP (l:List Ptr):List Ptr:=sortL (λx y=>(dead_order x y).getD 0) l
theorem slices_SortFunc_eq (l:List Ptr)(hl:l.length≤1000):slices_SortFunc_Ptr_dead_order l=some (sortP l):=by
 unfold slices_SortFunc_Ptr_dead_order
 rw[if_pos (Nat.lt_of_le_of_lt hl (by decide))]
 rfl
theorem sortP_length (l:List Ptr):(sortP l).length=l.length:=sortL_length dead_order_swo l
theorem sortP_spec (l:List Ptr):(sortP l).Perm l∧(sortP l).Pairwise (λp q=>p.At≤q.At):=by
 have h:=pdq_sorts (ltOf λx y=>(dead_order x y).getD 0) dead_order_swo l.toArray 0 l.toArray.size (Lib.bitLen l.toArray.size) true true (Nat.zero_le _) (Nat.le_refl _) (Or.inl rfl)
 have e:(pdq (ltOf λx y=>(dead_order x y).getD 0) l.toArray 0 l.toArray.size (Lib.bitLen l.toArray.size) true true)=(sortP l).toArray:=by
  have e:(ltOf λx y=>(dead_order x y).getD 0)=λx y=>decide ((dead_order x y).getD 0<0):=rfl
  rw[e];simp[sortP,sortL]
 rw[e]at h
 have hl:=sortP_length l
 obtain⟨⟨_,_,hp⟩,hs⟩:=h
 refine⟨?_,?_⟩
 · have e1:((sortP l).toArray.extract 0 l.toArray.size).toList=sortP l:=by simp[←hl]
   have e2:(l.toArray.extract 0 l.toArray.size).toList=l:=by simp
   rw[e1,e2]at hp
   exact hp
 · rw[List.pairwise_iff_getElem]
   intro i j hi hj hij
   have:=hs i j (Nat.zero_le _) hij (by simpa[←hl]using hj)
   rw[dead_order_lt]at this
   simp only[decide_eq_false_iff_not,Int.not_lt]at this
   have ei:(sortP l).toArray[i]! =(sortP l)[i]:=by simp[hi]
   have ej:(sortP l).toArray[j]! =(sortP l)[j]:=by simp[hj]
   rw[ei,ej]at this
   exact this
end Go.Ow.Dd
namespace Go.Ow.Dd
theorem nth_of{α:Type}{l:List α}{i:Int}(h0:0≤i)(h1:i<l.length):∃y,Nth l i y:=⟨l[i.toNat]'(by omega),h0,List.getElem?_eq_getElem _⟩
theorem compact_l1 (l:List Ptr)(k:Nat)(hk:1≤k)(hkl:k<l.length)(hl:l.length≤1000):
    ∃t,loop (slices_CompactFunc_Ptr_l1 l k) (l,(k:Int),1)=some t∧(t.1.length=l.length∧0≤t.2∧t.2<l.length):=by
  refine loop_rule (fun(s:List Ptr×Int×Int)=>s.1.length=l.length∧0≤s.2.1∧s.2.1≤(k:Int)+s.2.2-1∧1≤s.2.2∧s.2.2≤(l.length:Int)-k) (λs=>((l.length:Int)-k-s.2.2).toNat) (fun(t:List Ptr×Int)=>t.1.length=l.length∧0≤t.2∧t.2<l.length) ?_ (s:=(l,(k:Int),1)) ⟨rfl,by show(0:Int)≤k;omega,by show(k:Int)≤k+1-1;omega,by show(1:Int)≤1;omega,by show(1:Int)≤l.length-k;omega⟩ ?_
  · rintro⟨l',i,j⟩ ⟨h1,h2,h3,h4,h5⟩
    dsimp only at h1 h2 h3 h4 h5
    unfold slices_CompactFunc_Ptr_l1
    dsimp only
    by_cases hj:j<(l.length:Int)-(k:Int)
    · left
      obtain⟨y,hy⟩:=nth_of (l:=l') (i:=(k:Int)+j) (by omega) (by omega)
      obtain⟨z,hz⟩:=nth_of (l:=l') (i:=(k:Int)+(j-1)) (by omega) (by omega)
      rw[show decide (j<(l.length:Int)-(k:Int))=true from decide_eq_true hj,cond_true,chk_eq ⟨by omega,hj⟩,idx_eq hy,Zj (n:=j-1) (by omega) (by omega),chk_eq ⟨by omega,by omega⟩,idx_eq hz]
      unfold dead_Join_1
      rw[Option.bind_some]
      cases decide (y.At=z.At)with
      |true=>exact⟨_,rfl,⟨h1,h2,by dsimp only;rw[Zj (by omega) (by omega)];omega,by dsimp only;rw[Zj (by omega) (by omega)];omega,by dsimp only;rw[Zj (by omega) (by omega)];omega⟩,by dsimp only;rw[Zj (n:=j+1) (by omega) (by omega)];omega⟩
      | false=>
        rw[Bool.not_false,cond_true,chk_eq ⟨by omega,hj⟩,idx_eq hy,chk_eq ⟨by omega,by omega⟩,setI_eq (by omega) (by omega)]
        exact⟨_,rfl,⟨by simpa using h1,by dsimp only;rw[Zj (by omega) (by omega)];omega,by dsimp only;rw[Zj (n:=i+1) (by omega) (by omega),Zj (n:=j+1) (by omega) (by omega)];omega,by dsimp only;rw[Zj (by omega) (by omega)];omega,by dsimp only;rw[Zj (by omega) (by omega)];omega⟩,by dsimp only;rw[Zj (n:=j+1) (by omega) (by omega)];omega⟩
    · right
      rw[show decide (j<(l.length:Int)-(k:Int))=false from decide_eq_false hj,cond_false]
      exact⟨_,rfl,h1,h2,by dsimp only;omega⟩
  · show((l.length:Int)-k-1).toNat<FUEL
    exact Nat.lt_of_le_of_lt (m:=1000) (by omega) (by decide)
def Twice (l:List Ptr):Prop:=∃i p q,l[i]? =some p∧l[i+1]? =some q∧p.At=q.At
theorem compact_spec (l:List Ptr)(hl:l.length≤1000):∃m,slices_CompactFunc_Ptr l=some m∧(m.length<l.length↔Twice l):=by
 unfold slices_CompactFunc_Ptr
 by_cases h2:l.length<2
 · rw[show decide ((l.length:Int)<2)=true from decide_eq_true (by omega),cond_true]
   refine⟨_,rfl,λh=>absurd h (Nat.lt_irrefl _),fun⟨i,p,q,h1,h3,_⟩=> ?_⟩
   have:=(List.getElem?_eq_some_iff.1 h3).1
   omega
 · rw [show decide ((l.length:Int)<2)=false from decide_eq_false (by omega),cond_false]
   obtain ⟨t,ht,hR⟩:=loop_rule (body:=slices_CompactFunc_Ptr_l2 l) (λs=>1≤s∧s≤l.length∧∀i p q,i+1<s→l[i]? =some p→l[i+1]? =some q→p.At≠q.At) (λs=>l.length-s)
    (λt =>match t with| .inl _=>¬Twice l| .inr m=>m.length<l.length∧Twice l) (by
     rintro s ⟨hs1,hs,hI⟩
     unfold slices_CompactFunc_Ptr_l2
     by_cases hlt:s<l.length
     · have hw:w64 (((s:Nat):Int)-1)=((s-1:Nat):Int):=by rw[Zj (by omega) (by omega)];omega
       rw[show decide (((s:Nat):Int)<(l.length:Int))=true from decide_eq_true (by omega),cond_true,Zg _ hlt,hw,Zg _ (by omega:s-1<l.length)]
       have hp:l[s]? =some l[s]:=List.getElem?_eq_getElem hlt
       have hq:l[s-1]? =some l[s-1]:=List.getElem?_eq_getElem (by omega)
       generalize l[s]=y at hp
       generalize l[s-1]=z at hq
       unfold dead_Join_1
       rw[Option.bind_some]
       by_cases hc:y.At=z.At
       · right
         rw[show decide (y.At=z.At)=true from decide_eq_true hc,cond_true,chk_eq ⟨by omega,by omega,by omega⟩]
         obtain⟨t,ht,t1,t2,t3⟩:=compact_l1 l s hs1 hlt hl
         rw[ht,Option.bind_some,chk_eq ⟨t2,by omega,by omega⟩]
         unfold clrO
         dsimp only
         have hlen:(clr t.1 t.2.toNat (t.2.toNat+(((t.1.length:Int)).toNat-t.2.toNat)) (Ptr.mk 0 (0:UInt32) (0:UInt32) (0:UInt32) (0:UInt32))).length=t.1.length:=by
          unfold clr;simp;omega
         rw[slc_eq (by omega) t2 (by rw[hlen];omega)]
         refine⟨_,rfl,?_,s-1,z,y,hq,by rw[show s-1+1=s by omega];exact hp,hc.symm⟩
         have:=cut_length (l:=clr t.1 t.2.toNat (t.2.toNat+(((t.1.length:Int)).toNat-t.2.toNat)) (Ptr.mk 0 (0:UInt32) (0:UInt32) (0:UInt32) (0:UInt32))) (a:=0) (b:=t.2) (by omega) t2 (by rw[hlen];omega)
         omega
       · left
         rw[show decide (y.At=z.At)=false from decide_eq_false hc,cond_false]
         refine⟨_,rfl,⟨by omega,hlt,λi p q hi hpi hqi=> ?_⟩,by omega⟩
         by_cases his:i+1<s
         · exact hI i p q his hpi hqi
         · obtain rfl:s=i+1:=by omega
           rw[hp]at hqi;cases hqi
           rw[show i+1-1=i by omega]at hq
           rw[hq]at hpi;cases hpi
           exact λe=>hc e.symm
     · right
       rw[show decide (((s:Nat):Int)<(l.length:Int))=false from decide_eq_false (by omega),cond_false]
       refine⟨_,rfl,fun⟨i,p,q,h1,h3,h4⟩=> ?_⟩
       have:=(List.getElem?_eq_some_iff.1 h3).1
       exact hI i p q (by omega) h1 h3 h4) (s:=1) ⟨by omega,by omega,λi p q h=>absurd h (by omega)⟩ (Nat.lt_of_le_of_lt (Nat.sub_le _ _) (Nat.lt_of_le_of_lt hl (by decide)))
   rw[ht]
   cases t with
   |inl u=>exact⟨l,rfl,λh=>absurd h (Nat.lt_irrefl _),λh=>absurd h hR⟩
   |inr m=>exact⟨m,rfl,λ_=>hR.2,λ_=>hR.1⟩
end Go.Ow.Dd
namespace Go.Ow.Dd
theorem pairwise_of_next (l:List Ptr)(h:∀i p q,l[i]? =some p→l[i+1]? =some q→p.At<q.At):l.Pairwise (λp q=>p.At<q.At):=by
  rw[List.pairwise_iff_getElem]
  have key:∀(d i:Nat) (hi:i<l.length) (hj:i+d+1<l.length),(l[i]).At<(l[i+d+1]).At:=by
    intro d
    induction d with
    |zero=>intro i hi hj;exact h i _ _ (List.getElem?_eq_getElem hi) (List.getElem?_eq_getElem hj)
    | succ d ih=>
      intro i hi hj
      have h1:=ih i hi (by omega)
      have h2:=h (i+d+1) _ _ (List.getElem?_eq_getElem (by omega)) (List.getElem?_eq_getElem (by omega:i+d+1+1<l.length))
      have h3:l[i+(d+1)+1]=l[i+d+1+1]:=rfl
      rw[h3];omega
  intro i j hi hj hij
  obtain⟨d,rfl⟩:∃d,j=i+d+1:=⟨j-i-1,by omega⟩
  exact key d i hi hj
theorem sortP_pairwise{l:List Ptr}(h:¬Twice (sortP l)):(sortP l).Pairwise (λp q=>p.At<q.At):=
 pairwise_of_next _ λi p q h1 h2=>by
  have hs:=(sortP_spec l).2
  rw[List.pairwise_iff_getElem]at hs
  obtain⟨i1,e1⟩:=List.getElem?_eq_some_iff.1 h1
  obtain⟨i2,e2⟩:=List.getElem?_eq_some_iff.1 h2
  have h3:=hs i (i+1) i1 i2 (by omega)
  rw[e1,e2]at h3
  have h4:p.At≠q.At:=λe=>h ⟨i,p,q,h1,h2,e⟩
  omega
theorem join_core{a b c s m:List Ptr}(va:Valid a)(vb:Valid b)(ca:dead_Check a=some 0)(cb:dead_Check b=some 0)(e0:slices_Concat_Ptr [a,b]=some c)(e1:slices_SortFunc_Ptr_dead_order c=some s)
 (e2:slices_Clone_Ptr s=some s)(hm:slices_CompactFunc_Ptr s=some m)(hmt:m.length<s.length↔Twice s)(e3:s.length=c.length):
 (Valid a∧Valid b∧Twice s∧dead_Join a b=some ([],2))∨(Valid a∧Valid b∧¬Twice s∧240<c.length∧dead_Join a b=some ([],9))∨(Valid a∧Valid b∧¬Twice s∧c.length≤240∧dead_Join a b=some (s,0)):=by
 have hj:dead_Join a b=cond (decide ((m.length:Int)<(s.length:Int))) (some (([]:List Ptr),2)) (cond (decide (240<(s.length:Int))) (some (([]:List Ptr),9)) (some (s,0))):=by
  unfold dead_Join
  rw[ca,Option.bind_some,show decide ((0:Int)=0)=true from rfl,Bool.not_true,cond_false,cb,Option.bind_some,show decide ((0:Int)=0)=true from rfl,Bool.not_true,cond_false,e0,Option.bind_some,e1,Option.bind_some,e2,Option.bind_some,hm,Option.bind_some]
 by_cases ht:Twice s
 · left
   have:=hmt.2 ht
   rw[decide_eq_true (show(m.length:Int)<(s.length:Int) by omega),cond_true]at hj
   exact⟨va,vb,ht,hj⟩
 · right
   have h1:¬(m.length<s.length):=λh=>ht (hmt.1 h)
   rw[decide_eq_false (show¬((m.length:Int)<(s.length:Int)) by omega),cond_false]at hj
   by_cases h2:240<c.length
   · left
     rw[decide_eq_true (show(240:Int)<(s.length:Int) by omega),cond_true]at hj
     exact⟨va,vb,ht,h2,hj⟩
   · right
     rw[decide_eq_false (show¬((240:Int)<(s.length:Int)) by omega),cond_false]at hj
     exact⟨va,vb,ht,by omega,hj⟩
theorem dead_Join_spec (a b:List Ptr):
 (¬(Valid a∧Valid b)∧dead_Join a b=some ([],8))∨
 (Valid a∧Valid b∧Twice (sortP (a++b))∧dead_Join a b=some ([],2))∨
 (Valid a∧Valid b∧¬Twice (sortP (a++b))∧240<(a++b).length∧dead_Join a b=some ([],9))∨
 (Valid a∧Valid b∧¬Twice (sortP (a++b))∧(a++b).length≤240∧dead_Join a b=some (sortP (a++b),0)):=by
 rcases dead_Check_spec a with⟨ca,va⟩|⟨ca,va⟩
 · rcases dead_Check_spec b with⟨cb,vb⟩|⟨cb,vb⟩
   · right
     have hl:(a++b).length≤480:=by have:=va.1;have:=vb.1;simp;omega
     obtain⟨m,hm,hmt⟩:=compact_spec (sortP (a++b)) (by rw[sortP_length];omega)
     have e0:=slices_Concat_two a b va.1 vb.1
     have e1:=slices_SortFunc_eq (a++b) (by omega)
     have e2:=slices_Clone_eq (sortP (a++b)) (by rw[sortP_length];omega)
     have e3:=sortP_length (a++b)
     generalize sortP (a++b)=s at hm hmt e1 e2 e3⊢
     generalize a++b=c at hl e0 e1 e3⊢
     refine join_core va vb ca cb e0 e1 e2 hm hmt e3
   · left
     refine⟨λh=>vb h.2,?_⟩
     unfold dead_Join;rw[ca,cb];simp
 · left
   refine⟨λh=>va h.1,?_⟩
   unfold dead_Join;rw[ca];simp
end Go.Ow.Dd
namespace Go.Ow.Dd
theorem strict_unique:∀{l m:List Ptr},l.Perm m→l.Pairwise (λp q=>p.At<q.At)→m.Pairwise (λp q=>p.At<q.At)→l=m
  |[],m,h,_,_=>(List.nil_perm.1 h).symm
  |x::l,[],h,_,_=>by have:=h.length_eq;simp at this
  | x ::l,y::m,h,h1,h2=>by
    rw[List.pairwise_cons]at h1 h2
    have hx:x=y:=by
      have hxm:x∈y::m:=h.subset (by simp)
      have hyl:y∈x::l:=h.symm.subset (by simp)
      rcases List.mem_cons.1 hxm with e|hxm
      · exact e
      · rcases List.mem_cons.1 hyl with e|hyl
        · exact e.symm
        · have a1:=h1.1 y hyl
          have a2:=h2.1 x hxm
          omega
    subst hx
    rw[strict_unique (List.perm_cons _ |>.1 h) h1.2 h2.2]
def ND (l:List Ptr):Prop:=(l.map (·.At)).Nodup
theorem ND.perm{l m:List Ptr}(h:l.Perm m):ND l↔ND m:=(h.map _).nodup_iff
theorem ND.of_pairwise{l:List Ptr}(h:l.Pairwise (λp q=>p.At<q.At)):ND l:=by
 unfold ND
 rw[List.Nodup,List.pairwise_map]
 exact h.imp λh=>by omega
theorem twice_iff (l:List Ptr):Twice (sortP l)↔¬ND l:=by
 rw[←ND.perm (sortP_spec l).1]
 constructor
 · rintro⟨i,p,q,h1,h2,h3⟩ hn
   unfold ND at hn
   rw[List.Nodup,List.pairwise_map,List.pairwise_iff_getElem]at hn
   obtain⟨i1,e1⟩:=List.getElem?_eq_some_iff.1 h1
   obtain⟨i2,e2⟩:=List.getElem?_eq_some_iff.1 h2
   have:=hn i (i+1) i1 i2 (by omega)
   rw[e1,e2]at this
   exact this h3
 · intro h
   by_cases ht:Twice (sortP l)
   · exact ht
   · exact absurd (ND.of_pairwise (sortP_pairwise ht)) h
theorem sortP_unique{l m:List Ptr}(h:l.Perm m)(hn:ND l):sortP l=sortP m:=
 strict_unique ((sortP_spec l).1.trans (h.trans (sortP_spec m).1.symm)) (sortP_pairwise λht=>(twice_iff l).1 ht hn) (sortP_pairwise λht=>(twice_iff m).1 ht ((ND.perm h).1 hn))
theorem sortP_self{l:List Ptr}(h:l.Pairwise (λp q=>p.At<q.At)):sortP l=l:=
 strict_unique (sortP_spec l).1 (sortP_pairwise λht=>(twice_iff l).1 ht (ND.of_pairwise h)) h
end Go.Ow.Dd
namespace Go.Ow.Dd
open Classical in
noncomputable def J (a b:List Ptr):List Ptr×Int:=
 if Valid a∧Valid b then if ND (a++b)then if(a++b).length≤240 then(sortP (a++b),0)else([],9)else([],2)else([],8)
theorem join_eq (a b:List Ptr):dead_Join a b=some (J a b):=by
 unfold J
 rcases dead_Join_spec a b with⟨h,e⟩|⟨va,vb,ht,e⟩|⟨va,vb,ht,hl,e⟩|⟨va,vb,ht,hl,e⟩
 · rw[if_neg h,e]
 · rw[if_pos ⟨va,vb⟩,if_neg ((twice_iff _).1 ht),e]
 · have hn:ND (a++b):=by
    by_cases h:ND (a++b)
    · exact h
    · exact absurd ((twice_iff _).2 h) ht
   rw[if_pos ⟨va,vb⟩,if_pos hn,if_neg (by omega),e]
 · have hn:ND (a++b):=by
    by_cases h:ND (a++b)
    · exact h
    · exact absurd ((twice_iff _).2 h) ht
   rw[if_pos ⟨va,vb⟩,if_pos hn,if_pos hl,e]
end Go.Ow.Dd
namespace Go.Ow.Dd
theorem check_valid{l:List Ptr}(h:Valid l):dead_Check l=some 0:=by
 rcases dead_Check_spec l with⟨e,_⟩|⟨_,hn⟩
 · exact e
 · exact absurd h hn
theorem valid_of{l:List Ptr}(h0:l.length≤240)(h1:∀p∈l,okP p=true)(h2:l.Pairwise (λp q=>p.At<q.At)):Valid l:=by
 refine⟨h0,λi p hi=>⟨h1 p (List.mem_of_getElem? hi),λq h hq=> ?_⟩⟩
 rw[List.pairwise_iff_getElem]at h2
 obtain⟨i1,e1⟩:=List.getElem?_eq_some_iff.1 hi
 obtain⟨i2,e2⟩:=List.getElem?_eq_some_iff.1 hq
 have:=h2 (i-1) i i2 i1 (by omega)
 rw[e1,e2]at this
 exact this
theorem alive_eq:law16_alive=some true:=by
 have v1:Valid [Ptr.mk 20 1 0 0 0,Ptr.mk 30 1 0 0 0]:=valid_of (by decide) (by decide) (by decide)
 have v2:Valid [Ptr.mk 25 1 0 0 0]:=valid_of (by decide) (by decide) (by decide)
 have hp:([Ptr.mk 20 1 0 0 0,Ptr.mk 30 1 0 0 0]++ [Ptr.mk 25 1 0 0 0]).Perm [Ptr.mk 20 1 0 0 0,Ptr.mk 25 1 0 0 0,Ptr.mk 30 1 0 0 0]:=List.Perm.cons _ (List.Perm.swap _ _ _)
 have hs: [Ptr.mk 20 1 0 0 0,Ptr.mk 25 1 0 0 0,Ptr.mk 30 1 0 0 0].Pairwise (λp q=>p.At<q.At):=by decide
 have hn:ND ([Ptr.mk 20 1 0 0 0,Ptr.mk 30 1 0 0 0]++ [Ptr.mk 25 1 0 0 0]):=(ND.perm hp).2 (ND.of_pairwise hs)
 have hj:J [Ptr.mk 20 1 0 0 0,Ptr.mk 30 1 0 0 0] [Ptr.mk 25 1 0 0 0]=([Ptr.mk 20 1 0 0 0,Ptr.mk 25 1 0 0 0,Ptr.mk 30 1 0 0 0],0):=by
  unfold J
  rw[if_pos ⟨v1,v2⟩,if_pos hn,if_pos (by decide),sortP_unique hp hn,sortP_self hs]
 unfold law16_alive law16_at
 simp only[Option.bind_some]
 have ha:dead_Add [Ptr.mk 20 1 0 0 0,Ptr.mk 30 1 0 0 0] (Ptr.mk 25 1 0 0 0)=some ([Ptr.mk 20 1 0 0 0,Ptr.mk 25 1 0 0 0,Ptr.mk 30 1 0 0 0],0):=by
  unfold dead_Add
  rw[check_valid v2,Option.bind_some,join_eq,hj]
  rfl
 rw[ha]
 rfl
end Go.Ow.Dd
namespace Go.Ow
theorem rows_row{r:List Ptr}(h:r.length≤16)(hp:∀p∈r,okP p):rowsB (rowB r)=(fullR r,0):=by
 have e:ptrsOf (rowB r)=fullR r:=by
  unfold ptrsOf
  rw[rowB_length h,show rowB r=(r.map ptrB).flatten++List.replicate (16*(16-r.length)) 0 from by unfold rowB;congr 2;omega,chunks_row r (16-r.length) 256 (by omega),List.map_append,List.map_map,List.map_replicate,at5_no]
  unfold fullR
  congr 1
  rw[show r=r.map id from(List.map_id r).symm]
  simp only[List.map_map]
  refine List.map_congr_left (λp hp'=> ?_)
  exact at5_ptrB' (hp p hp')
 unfold rowsB
 rw[e,if_pos (fullR_ok hp)]
theorem trim_full{r:List Ptr}(h:r.length≤16)(hn:∀p∈r,¬isNone p):trimS (fullR r)=some r:=by
 unfold trimS
 have hr:∀i (hi:i<(fullR r).length),i<r.length→noneB (fullR r)[i]=false:=λi hi c=>by
  have:(fullR r)[i]=r[i]:=List.getElem_append_left c
  rw[this];unfold noneB;exact decide_eq_false (hn _ (List.getElem_mem c))
 rcases Nat.lt_or_ge r.length 16 with c|c
 · have hl:=fullR_len h
   have hf:(fullR r).findIdx? noneB=some r.length:=by
    rw[List.findIdx?_eq_some_iff_getElem]
    refine⟨by omega,?_,λj hj=>by simpa using hr j (by omega) hj⟩
    have:(fullR r)[r.length]'(by omega)=noP:=(List.getElem_append_right (Nat.le_refl _)).trans (List.getElem_replicate ..)
    rw[this];exact decide_eq_true noP_none
   rw[hf]
   have hd:(fullR r).drop r.length=List.replicate (16-r.length) noP:=by unfold fullR;rw[List.drop_left]
   have ht:(fullR r).take r.length=r:=by unfold fullR;rw[List.take_left]
   dsimp only
   rw[hd,ht,show(List.replicate (16-r.length) noP).any (λp=> !noneB p)=false from by
    rw[List.any_eq_false];intro x hx;rw[(List.mem_replicate.1 hx).2];decide]
   rfl
 · have e:fullR r=r:=by unfold fullR;rw[show 16-r.length=0 by omega];simp
   have hf:(fullR r).findIdx? noneB=none:=by
    rw[List.findIdx?_eq_none_iff]
    intro x hx
    rw[e]at hx
    unfold noneB;exact decide_eq_false (hn x hx)
   rw[hf,e]
theorem readS_row{s:Store}{p:Ptr}{r:List Ptr}(h:r.length≤16)(hr:r≠[])(hp:∀p∈r,okP p)(hn:∀p∈r,¬isNone p)(hl:lookS s p=(rowB r,0)):readS s p=.inl r:=by
 unfold readS
 rw[hl]
 dsimp only
 rw[if_pos rfl,rows_row h hp]
 dsimp only
 rw[if_pos rfl,trim_full h hn]
 dsimp only
 rw[if_neg hr]
end Go.Ow
namespace Go.Ow
theorem putS_at{s:Store}(h:OKSt s){birth iv tag:UInt32}{b:List UInt8}(hb:b.length=256){t:Store}{q:Ptr}(e:putS s birth iv tag b=some (t,q)):∃j,PutAt s ⟨0,birth,iv,tag,0⟩ b t q j:=by
  unfold putS at e
  cases hf:freeFrom s.Space 0 with
  |none=>rw[hf]at e;cases e
  | some j=>
    rw[hf]at e
    dsimp only at e
    by_cases c:s.Disk.Waits.length=4096
    · rw[if_pos c]at e;cases e
    · rw[if_neg c]at e
      obtain⟨rfl,rfl⟩:=Prod.mk.injEq .. ▸(Option.some.inj e)
      exact⟨j,h,hb,hf,c,rfl,rfl⟩
structure LaidR (s0 t:Store) (birth:UInt32) (l rows:List Ptr) (own:List Int):Prop where
  ok:OKSt t
  own_eq:own=rows.map (·.At)
  bir:∀q∈rows,q.Birth=birth
  place:∀q∈rows,12≤q.At∧q.At<256
  was:∀q∈rows,s0.Space[q.At.toNat]? =some 0
  now:∀q∈rows,t.Space[q.At.toNat]? =some 1
  keep:∀i:Nat,t.Space[i]? =some 0→s0.Space[i]? =some 0
  look:∀j (h:j<rows.length),lookS t rows[j]=(rowB ((l.drop (16*j)).take 16),0)
theorem LaidR.nil{s0:Store}(h:OKSt s0)(birth:UInt32)(l:List Ptr):LaidR s0 s0 birth l [] []:=
 ⟨h,rfl,λq h=>(by cases h),λq h=>(by cases h),λq h=>(by cases h),λq h=>(by cases h),λi h=>h,λj h=>(by cases h)⟩
theorem LaidR.put{s0 t:Store}{birth:UInt32}{l rows:List Ptr}{own:List Int}(L:LaidR s0 t birth l rows own)(hb:birthOk birth){b:List UInt8}(hl:b.length=256){t2:Store}{q:Ptr}(e:putS t birth 0 0 b=some (t2,q)):
 OKSt t2∧lookS t2 q=(b,0)∧q.Birth=birth∧(12≤q.At∧q.At<256)∧s0.Space[q.At.toNat]? =some 0∧t2.Space[q.At.toNat]? =some 1∧(∀i:Nat,t2.Space[i]? =some 0→s0.Space[i]? =some 0)∧
  (∀x∈rows,t2.Space[x.At.toNat]? =some 1)∧∀j (h:j<rows.length),lookS t2 rows[j]=(rowB ((l.drop (16*j)).take 16),0):=by
 obtain⟨j,P⟩:=putS_at L.ok hl e
 have hj:=P.place
 have hfree:=(freeFrom_some P.free).2
 have hat:=P.at_
 have hlen:t.Space.length=256:=L.ok.2.1.1
 have hne:∀x∈rows,x.At.toNat≠j:=λx hx c=>by
  have:=L.now x hx
  rw[c,hfree.2]at this;cases this
 refine⟨P.okt,P.look hb,by rw[P.ptr],by rw[P.ptr];show 12≤(j:Int)∧(j:Int)<256;omega,by rw[hat];exact L.keep j hfree.2,?_,λi hi=> ?_,λx hx=> ?_,λi h=> ?_⟩
 · rw[hat,P.space,List.getElem?_set_self (by omega)]
 · rw[P.space]at hi
   by_cases c:j=i
   · subst c;rw[List.getElem?_set_self (by omega)]at hi;cases hi
   · rw[List.getElem?_set_ne c]at hi;exact L.keep i hi
 · rw[P.space,List.getElem?_set_ne (Ne.symm (hne x hx))];exact L.now x hx
 · have h1:=L.look i h
   rw[P.other (by rw[h1]) (hne _ (List.getElem_mem h)),h1]
theorem LaidR.step{s0 t:Store}{birth:UInt32}{l rows:List Ptr}{own:List Int}(L:LaidR s0 t birth l rows own)(hb:birthOk birth){t2:Store}{q:Ptr}(e:putS t birth 0 0 (rowB ((l.drop (16*rows.length)).take 16))=some (t2,q)):
 LaidR s0 t2 birth l (rows++ [q]) (own++ [q.At]):=by
 obtain⟨h1,h2,h3,h4,h5,h6,h7,h8,h9⟩:=L.put hb (rowB_length (by rw[List.length_take];omega)) e
 have mem:∀{P:Ptr→Prop},(∀x∈rows,P x)→P q→∀x∈rows++ [q],P x:=λa b x hx=>by
  rcases List.mem_append.1 hx with hx|hx
  · exact a x hx
  · rw[List.mem_singleton.1 hx];exact b
 refine⟨h1,by rw[L.own_eq];simp,mem L.bir h3,mem L.place h4,mem L.was h5,mem h8 h6,h7,λj h=> ?_⟩
 rcases Nat.lt_or_ge j rows.length with c|c
 · rw[List.getElem_append_left c];exact h9 j c
 · have:j=rows.length:=by rw[List.length_append]at h;simp at h;omega
   subst this
   rw[List.getElem_append_right c]
   simpa using h2
end Go.Ow
namespace Go.Ow
theorem lay_laid{birth:UInt32}(hb:birthOk birth)(l:List Ptr)(hl:l.length≤240)(hp:∀p∈l,okP p)(s0:Store):∀(n:Nat) (r:List Ptr) (i f:Nat) (s:Store) (q0:Ptr) (e0:Int) (own:List Int) (rows:List Ptr),
    r.length≤n→r=l.drop i→r.length≤f→i=16*rows.length→rows.length≤15→i<l.length+16→LaidR s0 s birth l rows own→
    ∃ o1,forL dead_Lay_v2_r1 (chunks 16 f r) (s,q0,own,e0,birth,rows)=some o1∧
      ((∃t q e own' rows',o1=.inl (t,q,own',e,birth,rows')∧LaidR s0 t birth l rows' own'∧rows'.length≤15∧l.length≤16*rows'.length∧16*rows'.length<l.length+16)∨o1=.inr 9):=by
  intro n
  induction n with
  | zero=>
    intro r i f s q0 e0 own rows hn hr hf hi hrl hi2 L
    have r0:r= []:=List.length_eq_zero_iff.1 (by omega)
    have hge:l.length≤i:=by rw[r0]at hr;exact List.drop_eq_nil_iff.1 hr.symm
    exact⟨.inl (s,q0,own,e0,birth,rows),by rw[r0,chunks_nil];rfl,.inl ⟨s,q0,e0,own,rows,rfl,L,hrl,by omega,by omega⟩⟩
  | succ n ih=>
    intro r i f s q0 e0 own rows hn hr hf hi hrl hi2 L
    by_cases r0:r= []
    · have hge:l.length≤i:=by rw[r0]at hr;exact List.drop_eq_nil_iff.1 hr.symm
      exact⟨.inl (s,q0,own,e0,birth,rows),by rw[r0,chunks_nil];rfl,.inl ⟨s,q0,e0,own,rows,rfl,L,hrl,by omega,by omega⟩⟩
    · have hpos:0<r.length:=List.length_pos_iff.2 r0
      have hrlen:r.length=l.length-i:=by rw[hr,List.length_drop]
      obtain⟨f,rfl⟩:∃q,f=q+1:=⟨f-1,by omega⟩
      have ht:(r.take 16).length≤16:=by rw[List.length_take];omega
      have htp:∀p∈r.take 16,okP p:=λp h=>hp p (by have:=List.mem_of_mem_take h;rw[hr]at this;exact List.mem_of_mem_drop this)
      have hol:own.length≤1000:=by rw[L.own_eq,List.length_map];omega
      have p1:dead_Lay_v2_r1 (r.take 16) (s,q0,own,e0,birth,rows)=Option.bind (some (layE birth own (putS s birth 0 0 (rowB (r.take 16))))) λx_58=>cond (!decide (x_58.2.2.2.1=0)) (some (.inr x_58.2.2.2.1)) (app rows ([x_58.2.2.1]) λq_67=>some (.inl (x_58.1,x_58.2.2.1,x_58.2.2.2.2,x_58.2.2.2.1,x_58.2.1,q_67))):=by
        unfold dead_Lay_v2_r1
        dsimp only
        rw[lay1_eq L.ok hb ht htp q0 e0 own hol]
      rw[Option.bind_some]at p1
      rw[chunks_step r0]
      cases e:putS s birth 0 0 (rowB (r.take 16))with
      | none=>
        rw[e]at p1
        exact⟨.inr 9,forL_stop p1,.inr rfl⟩
      | some x=>
        obtain⟨t,q⟩:=x
        have L2:=L.step hb (t2:=t) (q:=q) (by rw[←hi,←hr];exact e)
        rw[e]at p1
        have a1:∀{β:Type} (k:List Ptr→Option β),app rows [q] k=k (rows++ [q]):=λk=>app_eq (by simp only[List.length_cons,List.length_nil,LIM];omega)
        have p1':dead_Lay_v2_r1 (r.take 16) (s,q0,own,e0,birth,rows)=some (.inl (t,q,own++ [q.At],0,birth,rows++ [q])):=by
          rw[p1]
          show cond (!decide ((0:Int)=0)) _ (app rows [q] _)=_
          rw[zdec,cond_false,a1];rfl
        rw[forL_cons p1']
        exact ih (r.drop 16) (i+16) f t q 0 _ _ (by rw[List.length_drop];omega) (by rw[hr,List.drop_drop]) (by rw[List.length_drop];omega) (by rw[List.length_append,List.length_cons,List.length_nil];omega) (by rw[List.length_append,List.length_cons,List.length_nil];omega) (by omega) L2
end Go.Ow
namespace Go.Ow
theorem back_run{s:Store}(hs:OKSt s)(l rows:List Ptr)(hl:l.length≤240)(hp:∀p∈l,okP p)(hn:∀p∈l,¬isNone p)(h1:l.length≤16*rows.length)(h2:16*rows.length<l.length+16)
    (hk:∀j (h:j<rows.length),lookS s rows[j]=(rowB ((l.drop (16*j)).take 16),0)):∀(k i f:Nat),i+k=rows.length→k<f→
    run (dead_Load_l1 s rows) f (l.take (16*i),(rows.map (·.At)).take i,i)=some (.inl (l,rows.map (·.At))):=by
  intro k
  induction k with
  | zero=>
    intro i f hi hf
    obtain⟨f,rfl⟩:∃g,f=g+1:=⟨f-1,by omega⟩
    obtain rfl:i=rows.length:=by omega
    refine run_en ?_
    unfold dead_Load_l1
    dsimp only
    rw[beq_f,cond_false,List.take_of_length_le h1,List.take_of_length_le (by simp)]
  | succ k ih=>
    intro i f hi hf
    obtain⟨f,rfl⟩:∃g,f=g+1:=⟨f-1,by omega⟩
    have hlt:i<rows.length:=by omega
    have hc:((l.drop (16*i)).take 16).length=min 16 (l.length-16*i):=by rw[List.length_take,List.length_drop]
    have sub:∀p∈(l.drop (16*i)).take 16,p∈l:=λp h=>List.mem_of_mem_drop (List.mem_of_mem_take h)
    have hr:=readS_row (s:=s) (p:=rows[i]) (r:=(l.drop (16*i)).take 16) (by omega) (by intro e;have:=congrArg List.length e;rw[hc,List.length_nil]at this;omega) (λp h=>hp p (sub p h)) (λp h=>hn p (sub p h)) (hk i hlt)
    have w:w64 ((rows.length:Int)-1)=(rows.length:Int)-1:=Zj (by omega) (by omega)
    have e1:l.take (16*i)++(l.drop (16*i)).take 16=l.take (16*(i+1)):=by rw[show 16*(i+1)=16*i+16 by omega,List.take_add]
    have e2:(rows.map (·.At)).take i++ [rows[i].At]=(rows.map (·.At)).take (i+1):=by
      rw[List.take_succ_eq_append_getElem (by rw[List.length_map];exact hlt),List.getElem_map]
    rw[run_st (s':=(l.take (16*(i+1)),(rows.map (·.At)).take (i+1),i+1)) (by
      unfold dead_Load_l1
      dsimp only
      rw[beq_t _ _ hlt,cond_true,Zg _ hlt,read_is hs.1.sized,Option.bind_some,hr,pnk_inl,w]
      have a1:∀{β:Type} (k:List Ptr→Option β),app (l.take (16*i)) ((l.drop (16*i)).take 16) k=k (l.take (16*(i+1))):=λk=>by rw[app_eq (by rw[hc,List.length_take];simp only[LIM];omega),e1]
      have a2:∀{β:Type} (k:List Int→Option β),app ((rows.map (·.At)).take i) [rows[i].At] k=k ((rows.map (·.At)).take (i+1)):=λk=>by rw[app_eq (by simp only[List.length_take,List.length_map,List.length_cons,List.length_nil,LIM];omega),e2]
      simp only[a1,a2]
      by_cases c:(((l.drop (16*i)).take 16).length:Int)<16
      · rw[decide_eq_true c,cond_true,decide_eq_false (show¬(i:Int)<(rows.length:Int)-1 by omega)];rfl
      · rw[decide_eq_false c];rfl)]
    exact ih (i+1) f (by omega) (by omega)
end Go.Ow
namespace Go.Ow
theorem lay_v3 (s:Store)(birth:UInt32)(l:List Ptr):dead_Lay_v3 s birth l=dead_Lay_v2 s birth l:=rfl
theorem same16 (l:List Ptr)(h:l.length≤1000):law16_same l l=some true:=by
 unfold law16_same
 rw[all_loop l (λi hi=>by unfold law16_same_l1;rw[beq_t _ _ hi,cond_true,cond_true,Zg _ hi,Zg _ hi,refl32,Bool.not_true,cond_false]) (by unfold law16_same_l1;rw[beq_f,cond_false]) (by omega),Option.bind_some,Sum.elim_inl,decide_eq_true rfl]
theorem rows16{n m:Nat}(h0:n≠0)(hn:n≤1000)(h1:n≤16*m)(h2:16*m<n+16):law16_rows (n:Int)=some ((m:Int)+1):=by
 unfold law16_rows
 rw[decide_eq_false (show¬(n:Int)=0 by omega),cond_false,Zj (n:=(n:Int)+15) (by omega) (by omega),Int.tdiv_eq_ediv_of_nonneg (by omega),Zj (n:=((n:Int)+15)/16) (by omega) (by omega),Zj (by omega) (by omega)]
 congr 2
 omega
end Go.Ow
namespace Go.Ow
def Laid3 (s:Store)(birth:UInt32)(l:List Ptr)(v:Store×Ptr×List Int×Int):Prop:=
 (v.2.2.2≠0∧v.1.Space= []∧v.2.2.1= [])∨(OKSt s∧deadOk l∧((l= []∧v=(s,noP,[],0))∨
  (l≠[]∧birthOk birth∧∃t rows own q t2,LaidR s t birth l rows own∧rows.length≤15∧l.length≤16*rows.length∧16*rows.length<l.length+16∧putS t birth 0 0 (rowB rows)=some (t2,q)∧v=(t2,q,own++ [q.At],0))))
theorem lay_three{s:Store}(hf:Few s)(hz:Sized s.Disk)(birth:UInt32)(l:List Ptr)(hl:l.length≤1000):
    ∃v,dead_Lay_v3 s birth l=some v∧Laid3 s birth l v:=by
  rw[lay_v3]
  unfold dead_Lay_v2
  rw[store_Check_eq hz,Option.bind_some]
  by_cases c1:OKSt s
  · rw [if_pos c1,zdec,cond_false,dead_check,Option.bind_some]
    cases hd:dec (deadOk l)with
    |false=>exact⟨(noS,noP,[],8),rfl,.inl ⟨by decide,rfl,rfl⟩⟩
    | true=>
      have hd':=of_dec hd
      rw[if_pos rfl,zdec,cond_false]
      rcases birth_cases birth with⟨b1,b2,b3⟩|⟨b1,b2⟩
      · rw [decide_eq_false b2,cond_false,decide_eq_false b3,cond_false]
        by_cases c2:l.length=0
        · rw[decide_eq_true (show(l.length:Int)=0 by omega),cond_true,store_Twin_big hf]
          exact⟨(s,noP,[],0),rfl,.inr ⟨c1,hd',.inl ⟨List.length_eq_zero_iff.1 c2,rfl⟩⟩⟩
        · rw [decide_eq_false (show¬(l.length:Int)=0 by omega),cond_false,show slices_Chunk_Ptr l 16=some ()from by unfold slices_Chunk_Ptr;rw[if_pos ⟨by decide,by decide,by simp only[LIM];omega⟩],Option.bind_some]
          obtain⟨o1,r1,r3⟩:=lay_laid b1 l hd'.1 (dead_okP hd') s l.length l 0 FUEL s noP 0 [] [] (Nat.le_refl _) rfl (Nat.le_of_lt (Nat.lt_of_le_of_lt hl (by decide))) rfl (Nat.zero_le _) (by omega) (LaidR.nil c1 birth l)
          obtain⟨o1,r1,r3⟩:=lay_laid b1 l hd'.1 (dead_okP hd') s l.length l 0 l.length s noP 0 [] [] (Nat.le_refl _) rfl (Nat.le_refl _) rfl (Nat.zero_le _) (by omega) (LaidR.nil c1 birth l)
          rw[show forL dead_Lay_v2_r1 (chunks (16:Int).toNat l.length l) (s,Ptr.mk 0 (0:UInt32) (0:UInt32) (0:UInt32) (0:UInt32),([]:List Int),0,birth,([]:List Ptr))=some o1 from r1,Option.bind_some]
          rcases r3 with⟨t,q,e,own,rows,rfl,hL,hrl,h1,h2⟩|rfl
          · simp only[Sum.elim_inl]
            have hrp:∀p∈rows,okP p:=λp hp=>.inr ⟨(hL.place p hp).1,(hL.place p hp).2,by rw[hL.bir p hp];exact b1.1,by rw[hL.bir p hp];exact b1.2⟩
            rw[lay1_eq hL.ok b1 (by omega) hrp q e own (by rw[hL.own_eq,List.length_map];omega),Option.bind_some]
            cases e2:putS t birth 0 0 (rowB rows)with
            |none=>exact⟨(noS,noP,[],9),rfl,.inl ⟨by decide,rfl,rfl⟩⟩
            | some x=>
              obtain⟨t2,q2⟩:=x
              exact⟨(t2,q2,own++ [q2.At],0),rfl,.inr ⟨c1,hd',.inr ⟨λc=>c2 (by rw[c];rfl),b1,t,rows,own,q2,t2,hL,hrl,h1,h2,e2,rfl⟩⟩⟩
          · exact⟨(noS,noP,[],9),rfl,.inl ⟨by decide,rfl,rfl⟩⟩
      · refine⟨(noS,noP,[],2),?_,.inl ⟨by decide,rfl,rfl⟩⟩
        rcases b2 with c|⟨c,c'⟩
        · rw[decide_eq_true c];rfl
        · rw[decide_eq_false c,decide_eq_true c'];rfl
  · rw[if_neg c1]
    exact⟨(noS,noP,[],8),rfl,.inl ⟨by decide,rfl,rfl⟩⟩
theorem idx_at{α β:Type}{l:List α}{y:Int}{v:α}(k:α→Option β)(h0:0≤y)(h:l[y.toNat]? =some v):idx l y k=k v:=by
 have:=idx_get k h
 rwa[Int.toNat_of_nonneg h0]at this
theorem back_loop (s t2:Store)(p:Ptr)(xs:List Ptr)(m:List Ptr)(h1:∀x∈xs,(12≤x.At∧x.At<256)∧s.Space[x.At.toNat]? =some 0∧t2.Space[x.At.toNat]? =some 1)(hx:xs.length≤1000):
 loop (law16_DeadBack_l1 s (t2,p,xs.map (·.At),0) (m,xs.map (·.At),0)) 0=some (.inl ()):=by
 refine all_loop (xs.map (·.At)) (λi hi=> ?_) ?_ (by rw[List.length_map];omega)
 · have hi':i<xs.length:=by rwa[List.length_map]at hi
   have e:(xs.map (·.At))[i]=xs[i].At:=List.getElem_map ..
   obtain⟨⟨a,b⟩,c,d⟩:=h1 xs[i] (List.getElem_mem hi')
   unfold law16_DeadBack_l1
   dsimp only
   have ix:∀{β:Type} (k:Int→Option β),idx (xs.map (·.At)) (i:Int) k=k xs[i].At:=λk=>by rw[Zg _ hi,e]
   rw[beq_t _ _ hi,cond_true,ix,ix,nbeq rfl,cond_false,ix,decide_eq_false (show¬xs[i].At<12 by omega),cond_false,ix,decide_eq_false (show¬255<xs[i].At by omega),cond_false,ix,idx_at _ (by omega) c,nbeq rfl,cond_false,ix,idx_at _ (by omega) d,nbeq rfl,cond_false]
 · unfold law16_DeadBack_l1
   dsimp only
   rw[beq_f,cond_false]
theorem load_back{s t:Store}{birth:UInt32}{l rows:List Ptr}{own:List Int}(hd:deadOk l)(hb:birthOk birth)(L:LaidR s t birth l rows own)(hr:rows.length≤15)(h0:l≠[])(h1:l.length≤16*rows.length)(h2:16*rows.length<l.length+16){q t2}(e:putS t birth 0 0 (rowB rows)=some (t2,q)):
 dead_Load t2 q=some (l,own++ [q.At],0)∧q.Birth=birth∧(own++ [q.At])=(rows++ [q]).map (·.At)∧(∀x∈rows++ [q],(12≤x.At∧x.At<256)∧s.Space[x.At.toNat]? =some 0∧t2.Space[x.At.toNat]? =some 1):=by
 obtain⟨k1,k2,k3,k4,k5,k6,k7,k8,k9⟩:=L.put hb (rowB_length (by omega)) e
 have okn:∀p:Ptr,12≤p.At∧p.At<256→p.Birth=birth→okP p∧¬isNone p:=λp h hp=>⟨.inr ⟨h.1,h.2,by rw[hp];exact hb.1,by rw[hp];exact hb.2⟩,λc=>by have:=c.1;omega⟩
 have hrp:∀p∈rows,okP p∧¬isNone p:=λp hp=>okn p (L.place p hp) (L.bir p hp)
 have hq:=okn q k4 k3
 have hne:rows≠[]:=λc=>by rw[c]at h1;exact h0 (List.length_eq_zero_iff.1 (by simpa using h1))
 have hnn:∀p∈l,¬isNone p:=λp hp=>by
  obtain⟨i,hi,rfl⟩:=List.mem_iff_getElem.1 hp
  have:=hd.2 i hi
  unfold okE at this
  simp only[Bool.and_eq_true,Bool.not_eq_true',decide_eq_false_iff_not]at this
  exact this.1
 refine⟨?_,k3,by rw[L.own_eq];simp,λx hx=> ?_⟩
 · unfold dead_Load
   rw[store_Check_eq k1.1.sized,Option.bind_some,if_pos k1,zdec,cond_false,ptr_Check_eq',Option.bind_some,if_pos (show isNone q∨okR q from hq.1),zdec,cond_false,none_dec',decide_eq_false hq.2,cond_false,read_is k1.1.sized,Option.bind_some,
    readS_row (r:=rows) (by omega) hne (λp hp=>(hrp p hp).1) (λp hp=>(hrp p hp).2) k2,pnk_inl,
    show loop (dead_Load_l1 t2 rows) ([],[],0)=some (.inl (l,rows.map (·.At)))from back_run k1 l rows hd.1 (dead_okP hd) hnn h1 h2 k9 rows.length 0 FUEL (by omega) (Nat.lt_of_le_of_lt hr (by decide)),Option.bind_some,Sum.elim_inl,dead_check,Option.bind_some,dec_t hd,if_pos rfl,zdec,cond_false,
    app_eq (by simp only[List.length_map,List.length_cons,List.length_nil,LIM];omega),L.own_eq]
 · rcases List.mem_append.1 hx with hx|hx
   · exact⟨L.place x hx,L.was x hx,k8 x hx⟩
   · rw[List.mem_singleton.1 hx];exact⟨k4,k5,k6⟩
theorem law_DeadBack (s:Store)(birth:UInt32)(l:List Ptr)(hz:Sized s.Disk)(hF:FitD s.Disk):law16_DeadBack s birth l=some true:=by
  unfold law16_DeadBack
  obtain⟨g,hg⟩:=great13_tot hz
  rw[Dd.alive_eq,Option.bind_some,hg,Option.bind_some]
  cases g with
  |true=>rfl
  | false=>
    rw[cond_false]
    by_cases k1:(1000:Int)<(l.length:Int)
    · rw[decide_eq_true k1];rfl
    have hl:l.length≤1000:=by omega
    obtain⟨v,e1,h⟩:=lay_three (great13_few hF hg) hz birth l hl
    rw[decide_eq_false k1,cond_false,e1,Option.bind_some]
    rcases h with⟨h1,h2,h3⟩|⟨h1,h2,h3⟩
    · rw[nbne h1,cond_true,h2,h3];rfl
    rcases h3 with⟨rfl,rfl⟩|⟨h0,hb,t,rows,own,q,t2,L,hr,a1,a2,e,rfl⟩
    · have hn:dead_Load s noP=some ([],[],0):=by
        unfold dead_Load
        rw[store_Check_eq hz,Option.bind_some,if_pos h1,zdec,cond_false,ptr_Check_eq',Option.bind_some,if_pos (.inl noP_none),zdec,cond_false,none_dec',decide_eq_true noP_none,cond_true]
      dsimp only
      rw[zdec,cond_false,hn,Option.bind_some]
      dsimp only
      rw[zdec,cond_false,same16 [] (Nat.zero_le _),Option.bind_some,Bool.not_true,cond_false,nbeq rfl,cond_false,show law16_rows (([]:List Ptr).length:Int)=some 0 from rfl,Option.bind_some,show(!decide ((([]:List Int).length:Int)=0))=false from rfl,cond_false,show loop (law16_DeadBack_l1 s (s,noP,[],0) ([],[],0)) 0=some (.inl ())from back_loop s s noP [] [] (λx hx=>by cases hx) (Nat.zero_le _),Option.bind_some]
      rfl
    · obtain⟨m1,m2,m3,m4⟩:=load_back h2 hb L hr h0 a1 a2 e
      have hll:(rows++ [q]).length=rows.length+1:=by rw[List.length_append];rfl
      have hlen:(((rows++ [q]).map (·.At)).length:Int)=(rows.length:Int)+1:=by rw[List.length_map,hll];omega
      have hl0:l.length≠0:=λc=>h0 (List.length_eq_zero_iff.1 c)
      dsimp only
      rw[zdec,cond_false,m1,Option.bind_some]
      dsimp only
      rw[zdec,cond_false,same16 l hl,Option.bind_some,Bool.not_true,cond_false,nbeq rfl,cond_false,rows16 hl0 hl a1 a2,Option.bind_some,m3,nbeq hlen,cond_false,back_loop s t2 q (rows++ [q]) l m4 (by omega),Option.bind_some,Sum.elim_inl,cond_true,hlen,decide_eq_false (show¬(rows.length:Int)+1=0 by omega),cond_false,
        Zj (show -9223372036854775808≤(rows.length:Int)+1-1 by omega) (by omega),show(rows.length:Int)+1-1=(rows.length:Int) by omega,
        idx_get (y:=q.At) _ (by simp),decide_eq_true rfl,cond_true,m2,decide_eq_true rfl,Option.bind_some]
theorem law_DeadBack' (s:Store)(birth:UInt32)(l:List Ptr)(hz:Sized s.Disk)(hF:FitD s.Disk):law16_DeadBack s birth l=some true:=law_DeadBack s birth l hz hF
end Go.Ow
