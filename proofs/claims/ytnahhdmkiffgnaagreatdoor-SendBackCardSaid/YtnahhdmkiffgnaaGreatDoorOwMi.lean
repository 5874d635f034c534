import Derived.Test.YtnahhdmkiffgnaaGreatDoorOwMa
import Derived.Carry
import Derived.WalkKit
import Derived.ProofKit
import Derived.OpenShut
import Derived.JoinedCond
/-
  What is proved here: what a reading of an argument says, as a datum that lies in the memory at the law's beginning; the lift of a law's walk to its contract.
-/
set_option linter.unusedSimpArgs false
set_option linter.unusedVariables false
namespace Go.Ow
open Go.ChangeShapes Go.WideShapes Go.ChangeAt Go.RowKit
def HW (W:World):Heaplet:=λb o=>W.cell? ⟨b,o,none⟩
theorem agrees_HW (W:World):Agrees (HW W) W:=λ_ _ _ h=>h
structure Bulk (H:Type) where
  one:DataW H→Nat
  all:List (DataW H)→Nat
  hstr:∀l:List UInt8,one (.lit (.string l))=l.length+1
  hsl:∀a b,one (.slice a b)=all a+all b+1
  hagg:∀a,one (.agg a)=all a+1
  hnil:all []=0
  hcons:∀d r,all (d::r)=one d+all r
  hone:∀d,1≤one d
section
variable{H:Type}{enc:TypeId×Value→H}{P:Program}{W:World}{B:Bulk H}
theorem Bulk.append (l r:List (DataW H)):B.all (l++r)=B.all l+B.all r:=by
 induction l with
 |nil=>simp[B.hnil]
 |cons x l ih=>simp only[List.cons_append,B.hcons,ih];omega
def Reads (enc:TypeId×Value→H)(P:Program)(W:World)(B:Bulk H)(t:TypeId){α:Type}(R:Rep α)(size:Nat)(big:α→Nat)(I:α→Prop):Prop:=
 ∀fuel cs d ps,DataW.trod enc P W 0 (λ_=>true) true fuel t cs=some (d,ps)→∃x,R (HW W) cs x∧cs.length=size∧big x≤B.one d∧I x
theorem has_iff{k:IntKind}{n:Int}(h:(Lit.int k n).wf=true):k.min≤n∧n≤k.max:=by
 simpa[Lit.wf]using h
theorem reads_int{t:TypeId}(ht:P.underlying t=some (.int .i64)):Reads enc P W B t RInt 1 (λ_=>1) InI64:=λfuel cs d ps h=>by
 obtain⟨n,rfl,hx,hw⟩:=DataW.trod_int ht h
 exact⟨n,rfl,rfl,B.hone _,by simpa[InI64,IntKind.min,IntKind.max,IntKind.signed,IntKind.bits]using has_iff hw⟩
theorem reads_u8{t:TypeId}(ht:P.underlying t=some (.int .u8)):Reads enc P W B t RU8 1 (λ_=>1) (λ_=>True):=λfuel cs d ps h=>by
 obtain⟨n,rfl,hx,hw⟩:=DataW.trod_int ht h
 have:=has_iff hw
 simp only[IntKind.min,IntKind.max,IntKind.signed,IntKind.bits]at this
 refine⟨UInt8.ofNat n.toNat,?_,rfl,B.hone _,trivial⟩
 show [Value.int .u8 n]= [.int .u8 (UInt8.ofNat n.toNat).toNat]
 have h2:n.toNat<256:=by simp at this;omega
 rw[UInt8.toNat_ofNat_of_lt' (by simpa[UInt8.size]using h2)]
 simp at this
 congr 2;omega
theorem reads_u32{t:TypeId}(ht:P.underlying t=some (.int .u32)):Reads enc P W B t RU32 1 (λ_=>1) (λ_=>True):=λfuel cs d ps h=>by
 obtain⟨n,rfl,hx,hw⟩:=DataW.trod_int ht h
 have:=has_iff hw
 simp only[IntKind.min,IntKind.max,IntKind.signed,IntKind.bits]at this
 refine⟨UInt32.ofNat n.toNat,?_,rfl,B.hone _,trivial⟩
 show [Value.int .u32 n]= [.int .u32 (UInt32.ofNat n.toNat).toNat]
 have h2:n.toNat<4294967296:=by simp at this;omega
 rw[UInt32.toNat_ofNat_of_lt' (by simpa[UInt32.size]using h2)]
 simp at this
 congr 2;omega
def bigs{α:Type}(big:α→Nat)(l:List α):Nat:=(l.map big).sum+1
theorem reads_slice{α:Type}{t e:TypeId}{R:Rep α}{size:Nat}{big:α→Nat}{I:α→Prop}(ht:P.underlying t=some (.slice e))(hc:P.cellsOf e=size)(hpos:0<size)(he:Reads enc P W B e R size big I):
    ∀fuel cs d ps,DataW.trod enc P W 0 (λ_=>true) true fuel t cs=some (d,ps)→∃ao n cap,cs= [.slice ao n cap]∧∃l,IsSlice (HW W) R size (.slice ao n cap) l∧bigs big l≤B.one d∧∀x∈l,I x:=λfuel cs d ps h=>by
  rcases DataW.trod_slice ht h with⟨rfl,hx⟩|⟨a,len,cap,elems,rst,m,_,rfl,hx,_,hlc,hcm,hlen,hel,hrest,_⟩
  · exact⟨none,0,0,rfl,[],IsSlice.nil _ _ _,by simp[bigs];exact B.hone _,by simp⟩
  · have hspot:cap=0∨a.spot=none:=by
      by_cases h0:cap=0
      · exact .inl h0
      right
      have hsome:∃cs',W.cells? 0 a (P.cellsOf e)=some cs':=by
        by_cases hl:len=0
        · subst hl
          obtain⟨hr1,hr2⟩:=hrest rfl
          have:=hr2 0 (by omega)
          have h3:(rst[0]?).isSome=true:=by rw[List.getElem?_eq_getElem (by omega)];rfl
          rw[←this]at h3
          cases h4:W.cells? 0 (a.add ((0+0)*P.cellsOf e)) (P.cellsOf e)with
          |none=>rw[h4]at h3;simp at h3
          |some c=>exact⟨c,by simpa[Addr.add]using h4⟩
        · have:=hel 0 (by omega)
          have h3:(elems[0]?).isSome=true:=by rw[List.getElem?_eq_getElem (by omega)];rfl
          rw[←this]at h3
          cases h4:W.cells? 0 (a.add (0*P.cellsOf e)) (P.cellsOf e)with
          |none=>rw[h4]at h3;simp at h3
          |some c=>exact⟨c,by simpa[Addr.add]using h4⟩
      obtain⟨cs',hcs'⟩:=hsome
      obtain⟨_,hl',hc'⟩:=World.cells?_some hcs'
      have:=hc' 0 (by omega)
      have h5:(cs'[0]?).isSome=true:=by rw[List.getElem?_eq_getElem (by omega)];rfl
      rw[←this]at h5
      have h6:a.add 0=a:=by simp[Addr.add]
      rw[h6]at h5
      cases hs:a.spot with
      |none=>rfl
      | some s=>
        unfold World.cell? at h5
        rw[hs]at h5
        split at h5<;>simp at h5
    have key:∀(k:Nat),k≤len→∃l:List α,l.length=k∧(l.map big).sum≤B.all ((elems.take k).map (·.1))∧(∀x∈l,I x)∧
        ∀i y,l[i]? =some y→∃cs,W.cells? 0 (a.add (i*size)) size=some cs∧R (HW W) cs y∧cs.length=size:=by
      intro k
      induction k with
      |zero=>intro _;exact⟨[],rfl,by simp,by simp,by simp⟩
      | succ k ih=>
        intro hk
        obtain⟨l,hl,hb,hI,hi⟩:=ih (by omega)
        have h1:=hel k (by omega)
        have hk':k<elems.length:=by omega
        rw[List.getElem?_eq_getElem hk']at h1
        cases h4:W.cells? 0 (a.add (k*P.cellsOf e)) (P.cellsOf e)with
        |none=>rw[h4]at h1;simp at h1
        | some c=>
          rw[h4]at h1
          simp only[Option.bind_some]at h1
          obtain⟨y,hy1,hy2,hy3,hy4⟩:=he m c elems[k].1 elems[k].2 h1
          refine⟨l++ [y],by simp[hl],?_,?_,?_⟩
          · rw[List.map_append,List.sum_append,List.take_succ_eq_append_getElem hk',List.map_append,B.append]
            simp only[List.map_cons,List.map_nil,List.sum_cons,List.sum_nil,B.hcons,B.hnil]
            omega
          · intro x hx
            rcases List.mem_append.1 hx with hx|hx
            · exact hI x hx
            · simp at hx;subst hx;exact hy4
          · intro i z hz
            by_cases hi':i<k
            · rw[List.getElem?_append_left (by omega)]at hz
              exact hi i z hz
            · have hik:i=k:=by
                have:=(List.getElem?_eq_some_iff.1 hz).1
                simp at this;omega
              subst hik
              rw[List.getElem?_append_right (by omega)]at hz
              simp[hl]at hz;subst hz
              exact⟨c,by rw[←hc];exact h4,hy1,hy2⟩
    obtain⟨l,hl,hb,hI,hi⟩:=key len (Nat.le_refl _)
    refine⟨some a,len,cap,rfl,l,⟨some a,cap,by rw[hl],by omega,hcm,λa' e'=> ?_,λe'=>(by cases e'),λi y hy=> ?_⟩,?_,hI⟩
    · cases e';exact hspot
    · have hlt:=(List.getElem?_eq_some_iff.1 hy).1
      have hsp:a.spot=none:=hspot.resolve_left (by omega)
      obtain⟨b,o,s⟩:=a
      simp at hsp;subst hsp
      obtain⟨cs,h1,h2,h3⟩:=hi i y hy
      refine⟨b,o,cs,rfl,h3,h2,λj u hu=> ?_⟩
      obtain⟨_,_,h5⟩:=World.cells?_some h1
      have hj:j<size:=by have:=(List.getElem?_eq_some_iff.1 hu).1;omega
      have h6:=h5 j hj
      rw[hu]at h6
      have e1:(Addr.add (Addr.add ⟨b,o,none⟩ (i*size)) j)=⟨b,o+i*size+j,none⟩:=by
        unfold Addr.add;split<;>split<;>simp_all
      rw[e1]at h6
      exact h6
    · simp only[Prod.mk.injEq]at hx
      rw[hx.1,B.hsl]
      rw[List.take_of_length_le (by omega)]at hb
      unfold bigs;omega
theorem reads_sl{α:Type}{t e:TypeId}{R:Rep α}{size:Nat}{big:α→Nat}{I:α→Prop}(ht:P.underlying t=some (.slice e))(hc:P.cellsOf e=size)(hpos:0<size)(he:Reads enc P W B e R size big I):
 Reads enc P W B t (RSl R size) 1 (bigs big) (λl=>∀x∈l,I x):=λfuel cs d ps h=>by
 obtain⟨ao,n,cap,rfl,l,h1,h2,h3⟩:=reads_slice ht hc hpos he fuel cs d ps h
 exact⟨l,⟨_,rfl,h1⟩,rfl,h2,h3⟩
end
end Go.Ow
namespace Go.Ow
open Go.ChangeShapes Go.WideShapes Go.ChangeAt Go.RowKit
section
variable{H:Type}{enc:TypeId×Value→H}{P:Program}{W:World}{B:Bulk H}
def big_Ptr (x:Ptr):Nat:=1+1+1+1+1+1
def ok_Ptr (x:Ptr):Prop:=InI64 x.At∧True∧True∧True∧True
theorem reads_Ptr{t:TypeId}{fs:Array Field}{f0 f1 f2 f3 f4:Field}(ht:P.underlying t=some (.struct fs))(hN:P.cellsOf t=5)(hk:fs.size=5)
 (g0:fs[0]? =some f0∧f0.offset=0∧P.cellsOf f0.type=1)(r0:Reads enc P W B f0.type RInt 1 (λ_=>1) InI64)
 (g1:fs[1]? =some f1∧f1.offset=1∧P.cellsOf f1.type=1)(r1:Reads enc P W B f1.type RU32 1 (λ_=>1) (λ_=>True))
 (g2:fs[2]? =some f2∧f2.offset=2∧P.cellsOf f2.type=1)(r2:Reads enc P W B f2.type RU32 1 (λ_=>1) (λ_=>True))
 (g3:fs[3]? =some f3∧f3.offset=3∧P.cellsOf f3.type=1)(r3:Reads enc P W B f3.type RU32 1 (λ_=>1) (λ_=>True))
 (g4:fs[4]? =some f4∧f4.offset=4∧P.cellsOf f4.type=1)(r4:Reads enc P W B f4.type RU32 1 (λ_=>1) (λ_=>True)):
 Reads enc P W B t R_Ptr 5 big_Ptr ok_Ptr:=λfuel cs d ps h=>by
 obtain⟨xs,n,_,hx,hlen,hxl,hf⟩:=DataW.trod_struct ht h
 rw[hN]at hlen
 rw[hk]at hxl
 match xs,hxl with
 |[x0,x1,x2,x3,x4],_=>
 match cs,hlen with
 |[c0,c1,c2,c3,c4],_=>
 obtain⟨y0,a0,_,b0,i0⟩:=r0 n [c0] x0.1 x0.2 (by have e:=hf 0 _ g0.1;rw[g0.2.1,g0.2.2]at e;exact e)
 have b0:1≤B.one x0.1:=b0
 obtain rfl:c0=.int .i64 y0:=by have e: [c0]= [.int .i64 y0]:=a0;simpa using e
 obtain⟨y1,a1,_,b1,i1⟩:=r1 n [c1] x1.1 x1.2 (by have e:=hf 1 _ g1.1;rw[g1.2.1,g1.2.2]at e;exact e)
 have b1:1≤B.one x1.1:=b1
 obtain rfl:c1=.int .u32 (y1.toNat:Int):=by have e: [c1]= [.int .u32 (y1.toNat:Int)]:=a1;simpa using e
 obtain⟨y2,a2,_,b2,i2⟩:=r2 n [c2] x2.1 x2.2 (by have e:=hf 2 _ g2.1;rw[g2.2.1,g2.2.2]at e;exact e)
 have b2:1≤B.one x2.1:=b2
 obtain rfl:c2=.int .u32 (y2.toNat:Int):=by have e: [c2]= [.int .u32 (y2.toNat:Int)]:=a2;simpa using e
 obtain⟨y3,a3,_,b3,i3⟩:=r3 n [c3] x3.1 x3.2 (by have e:=hf 3 _ g3.1;rw[g3.2.1,g3.2.2]at e;exact e)
 have b3:1≤B.one x3.1:=b3
 obtain rfl:c3=.int .u32 (y3.toNat:Int):=by have e: [c3]= [.int .u32 (y3.toNat:Int)]:=a3;simpa using e
 obtain⟨y4,a4,_,b4,i4⟩:=r4 n [c4] x4.1 x4.2 (by have e:=hf 4 _ g4.1;rw[g4.2.1,g4.2.2]at e;exact e)
 have b4:1≤B.one x4.1:=b4
 obtain rfl:c4=.int .u32 (y4.toNat:Int):=by have e: [c4]= [.int .u32 (y4.toNat:Int)]:=a4;simpa using e
 refine⟨⟨y0,y1,y2,y3,y4⟩,rfl,rfl,?_,⟨i0,i1,i2,i3,i4⟩⟩
 simp only[Prod.mk.injEq]at hx
 rw[hx.1,B.hagg]
 simp only[List.map_cons,List.map_nil,B.hcons,B.hnil,big_Ptr]
 omega
def big_Part (x:Part):Nat:=1+1+1+1+bigs (λ_=>1) x.Data+1
def ok_Part (x:Part):Prop:=InI64 x.Obj∧InI64 x.Index∧True∧True∧(∀y∈x.Data,(λ_=>True) y)
theorem reads_Part{t:TypeId}{fs:Array Field}{f0 f1 f2 f3 f4:Field}(ht:P.underlying t=some (.struct fs))(hN:P.cellsOf t=5)(hk:fs.size=5)
 (g0:fs[0]? =some f0∧f0.offset=0∧P.cellsOf f0.type=1)(r0:Reads enc P W B f0.type RInt 1 (λ_=>1) InI64)
 (g1:fs[1]? =some f1∧f1.offset=1∧P.cellsOf f1.type=1)(r1:Reads enc P W B f1.type RInt 1 (λ_=>1) InI64)
 (g2:fs[2]? =some f2∧f2.offset=2∧P.cellsOf f2.type=1)(r2:Reads enc P W B f2.type RU32 1 (λ_=>1) (λ_=>True))
 (g3:fs[3]? =some f3∧f3.offset=3∧P.cellsOf f3.type=1)(r3:Reads enc P W B f3.type RU32 1 (λ_=>1) (λ_=>True))
 (g4:fs[4]? =some f4∧f4.offset=4∧P.cellsOf f4.type=1)(r4:Reads enc P W B f4.type (RSl RU8 1) 1 (bigs (λ_=>1)) (λl=>∀x∈l,(λ_=>True) x)):
 Reads enc P W B t R_Part 5 big_Part ok_Part:=λfuel cs d ps h=>by
 obtain⟨xs,n,_,hx,hlen,hxl,hf⟩:=DataW.trod_struct ht h
 rw[hN]at hlen
 rw[hk]at hxl
 match xs,hxl with
 |[x0,x1,x2,x3,x4],_=>
 match cs,hlen with
 |[c0,c1,c2,c3,c4],_=>
 obtain⟨y0,a0,_,b0,i0⟩:=r0 n [c0] x0.1 x0.2 (by have e:=hf 0 _ g0.1;rw[g0.2.1,g0.2.2]at e;exact e)
 have b0:1≤B.one x0.1:=b0
 obtain rfl:c0=.int .i64 y0:=by have e: [c0]= [.int .i64 y0]:=a0;simpa using e
 obtain⟨y1,a1,_,b1,i1⟩:=r1 n [c1] x1.1 x1.2 (by have e:=hf 1 _ g1.1;rw[g1.2.1,g1.2.2]at e;exact e)
 have b1:1≤B.one x1.1:=b1
 obtain rfl:c1=.int .i64 y1:=by have e: [c1]= [.int .i64 y1]:=a1;simpa using e
 obtain⟨y2,a2,_,b2,i2⟩:=r2 n [c2] x2.1 x2.2 (by have e:=hf 2 _ g2.1;rw[g2.2.1,g2.2.2]at e;exact e)
 have b2:1≤B.one x2.1:=b2
 obtain rfl:c2=.int .u32 (y2.toNat:Int):=by have e: [c2]= [.int .u32 (y2.toNat:Int)]:=a2;simpa using e
 obtain⟨y3,a3,_,b3,i3⟩:=r3 n [c3] x3.1 x3.2 (by have e:=hf 3 _ g3.1;rw[g3.2.1,g3.2.2]at e;exact e)
 have b3:1≤B.one x3.1:=b3
 obtain rfl:c3=.int .u32 (y3.toNat:Int):=by have e: [c3]= [.int .u32 (y3.toNat:Int)]:=a3;simpa using e
 obtain⟨y4,a4,_,b4,i4⟩:=r4 n [c4] x4.1 x4.2 (by have e:=hf 4 _ g4.1;rw[g4.2.1,g4.2.2]at e;exact e)
 have b4:bigs (λ_=>1) y4≤B.one x4.1:=b4
 obtain⟨u4,e,a4⟩:=a4
 obtain rfl:c4=u4:=by simpa using e
 refine⟨⟨y0,y1,y2,y3,y4⟩,⟨_,rfl,a4⟩,rfl,?_,⟨i0,i1,i2,i3,i4⟩⟩
 simp only[Prod.mk.injEq]at hx
 rw[hx.1,B.hagg]
 simp only[List.map_cons,List.map_nil,B.hcons,B.hnil,big_Part]
 omega
def big_Stream (x:Stream):Nat:=1+1+bigs (λ_=>1) x.Key+bigs big_Part x.Parts+bigs (λ_=>1) x.Sign+1
def ok_Stream (x:Stream):Prop:=True∧True∧(∀y∈x.Key,(λ_=>True) y)∧(∀y∈x.Parts,ok_Part y)∧(∀y∈x.Sign,(λ_=>True) y)
theorem reads_Stream{t:TypeId}{fs:Array Field}{f0 f1 f2 f3 f4:Field}(ht:P.underlying t=some (.struct fs))(hN:P.cellsOf t=5)(hk:fs.size=5)
 (g0:fs[0]? =some f0∧f0.offset=0∧P.cellsOf f0.type=1)(r0:Reads enc P W B f0.type RU32 1 (λ_=>1) (λ_=>True))
 (g1:fs[1]? =some f1∧f1.offset=1∧P.cellsOf f1.type=1)(r1:Reads enc P W B f1.type RU32 1 (λ_=>1) (λ_=>True))
 (g2:fs[2]? =some f2∧f2.offset=2∧P.cellsOf f2.type=1)(r2:Reads enc P W B f2.type (RSl RU8 1) 1 (bigs (λ_=>1)) (λl=>∀x∈l,(λ_=>True) x))
 (g3:fs[3]? =some f3∧f3.offset=3∧P.cellsOf f3.type=1)(r3:Reads enc P W B f3.type (RSl R_Part 5) 1 (bigs big_Part) (λl=>∀x∈l,ok_Part x))
 (g4:fs[4]? =some f4∧f4.offset=4∧P.cellsOf f4.type=1)(r4:Reads enc P W B f4.type (RSl RU8 1) 1 (bigs (λ_=>1)) (λl=>∀x∈l,(λ_=>True) x)):
 Reads enc P W B t R_Stream 5 big_Stream ok_Stream:=λfuel cs d ps h=>by
 obtain⟨xs,n,_,hx,hlen,hxl,hf⟩:=DataW.trod_struct ht h
 rw[hN]at hlen
 rw[hk]at hxl
 match xs,hxl with
 |[x0,x1,x2,x3,x4],_=>
 match cs,hlen with
 |[c0,c1,c2,c3,c4],_=>
 obtain⟨y0,a0,_,b0,i0⟩:=r0 n [c0] x0.1 x0.2 (by have e:=hf 0 _ g0.1;rw[g0.2.1,g0.2.2]at e;exact e)
 have b0:1≤B.one x0.1:=b0
 obtain rfl:c0=.int .u32 (y0.toNat:Int):=by have e: [c0]= [.int .u32 (y0.toNat:Int)]:=a0;simpa using e
 obtain⟨y1,a1,_,b1,i1⟩:=r1 n [c1] x1.1 x1.2 (by have e:=hf 1 _ g1.1;rw[g1.2.1,g1.2.2]at e;exact e)
 have b1:1≤B.one x1.1:=b1
 obtain rfl:c1=.int .u32 (y1.toNat:Int):=by have e: [c1]= [.int .u32 (y1.toNat:Int)]:=a1;simpa using e
 obtain⟨y2,a2,_,b2,i2⟩:=r2 n [c2] x2.1 x2.2 (by have e:=hf 2 _ g2.1;rw[g2.2.1,g2.2.2]at e;exact e)
 have b2:bigs (λ_=>1) y2≤B.one x2.1:=b2
 obtain⟨u2,e,a2⟩:=a2
 obtain rfl:c2=u2:=by simpa using e
 obtain⟨y3,a3,_,b3,i3⟩:=r3 n [c3] x3.1 x3.2 (by have e:=hf 3 _ g3.1;rw[g3.2.1,g3.2.2]at e;exact e)
 have b3:bigs big_Part y3≤B.one x3.1:=b3
 obtain⟨u3,e,a3⟩:=a3
 obtain rfl:c3=u3:=by simpa using e
 obtain⟨y4,a4,_,b4,i4⟩:=r4 n [c4] x4.1 x4.2 (by have e:=hf 4 _ g4.1;rw[g4.2.1,g4.2.2]at e;exact e)
 have b4:bigs (λ_=>1) y4≤B.one x4.1:=b4
 obtain⟨u4,e,a4⟩:=a4
 obtain rfl:c4=u4:=by simpa using e
 refine⟨⟨y0,y1,y2,y3,y4⟩,⟨_,_,_,rfl,a2,a3,a4⟩,rfl,?_,⟨i0,i1,i2,i3,i4⟩⟩
 simp only[Prod.mk.injEq]at hx
 rw[hx.1,B.hagg]
 simp only[List.map_cons,List.map_nil,B.hcons,B.hnil,big_Stream]
 omega
end
end Go.Ow
namespace Go.Ow
open Go.ChangeShapes Go.WideShapes Go.ChangeAt Go.RowKit
section
variable{H:Type}{enc:TypeId×Value→H}{P:Program}{W:World}{B:Bulk H}{r:Reach}{b0:Nat}{t:TypeId}{v:Value}{d:DataW H}{ps:List MemPlace}
theorem arg_slice{α:Type}{e:TypeId}{R:Rep α}{size:Nat}{big:α→Nat}{I:α→Prop}(ht:P.underlying t=some (.slice e))(hc:P.cellsOf e=size)(hpos:0<size)(he:Reads enc P W B e R size big I)
 (hval:Value.okWide P W r b0 t v)(hd:DataW.Trod enc P W 0 (λ_=>true) true t v d ps):
 ∃ao n cap,v=.slice ao n cap∧∃l,IsSlice (HW W) R size (.slice ao n cap) l∧bigs big l≤B.one d∧∀x∈l,I x:=by
 obtain⟨a,n,cap,rfl⟩:=okWide_slice ht hval
 obtain⟨fuel,hf⟩:=hd
 obtain⟨ao,n',cap',e1,l,h1,h2,h3⟩:=reads_slice (B:=B) ht hc hpos he fuel _ d ps hf
 have e2:Value.slice a n cap=.slice ao n' cap':=by simpa[Value.cells]using e1
 exact⟨a,n,cap,rfl,l,by rw[e2];exact h1,h2,h3⟩
theorem arg_struct{α:Type}{fs:Array Field}{R:Rep α}{size:Nat}{big:α→Nat}{I:α→Prop}(ht:P.underlying t=some (.struct fs))(he:Reads enc P W B t R size big I)
 (hval:Value.okWide P W r b0 t v)(hd:DataW.Trod enc P W 0 (λ_=>true) true t v d ps):
 ∃cs:Array Value,v=.agg cs∧∃x,R (HW W) cs.toList x∧big x≤B.one d∧I x:=by
 obtain⟨cs,rfl,_⟩:=okWide_struct ht hval
 obtain⟨fuel,hf⟩:=hd
 obtain⟨x,h1,h2,h3,h4⟩:=he fuel _ d ps hf
 exact⟨cs,rfl,x,by simpa[Value.cells]using h1,h3,h4⟩
theorem trodAll_below (hl:laidOutB P=true){W':World}{sp:Nat→Bool}(hb:Below W.heap.size W W'):∀{ts:List TypeId} {vs:List Value} {ds:List (DataW H)} {ps:List MemPlace},
    ts.all (λt=>P.readableRec t&&decide (t<P.types.size))=true→DataW.TrodAll enc P W 0 (λ_=>true) true ts vs ds ps→(∀p∈ps,p.block<W.heap.size)→(∀p∈ps,sp p.block=true)→
    DataW.TrodAll enc P W' 0 sp true ts vs ds ps
  | [],_,_,_,_,h,_,_=>by
    obtain⟨rfl,rfl,rfl⟩:=trodAll_nil h
    exact trodAll_mk0
  | t::ts,_,_,_,hr,h,hlt,hs=>by
    obtain⟨v,vs,d,ds,p,q,rfl,rfl,rfl,h1,h2⟩:=trodAll_cons h
    simp only[List.all_cons,Bool.and_eq_true,decide_eq_true_eq]at hr
    refine trodAll_cons_mk (WideElems.Trod_stays hl hr.1.1 hr.1.2 h1 (λx hx=>hb.same (hlt x (by simp[hx]))) (λx hx=>hs x (by simp[hx]))) ?_
    exact trodAll_below hl hb (by simpa using hr.2) h2 (λx hx=>hlt x (by simp[hx])) (λx hx=>hs x (by simp[hx]))
theorem lift_true{fid:FuncId}{fn:Func}{s:ChangeSpec}{args:Array Value}{ds gs:List (DataW H)}{before:List MemPlace}{tb:TypeId}{R:Value→List Own→Heaplet→Prop}(hl:laidOutB P=true)
 (hrec:fn.params.toList.all (λt=>P.readableRec t&&decide (t<P.types.size))=true)(hres:fn.resultTypes= #[tb])(htb:P.underlying tb=some .bool)(hv:s.vars= [])
 (hW:DataW.Whole enc P fn.params.toList s.vars false W args.toList ds gs before)(hs:s.fn H (ds++gs)={results:=[.lit (.bool true)],args:=ds})
 (hd:Does P fid args [] (HW W) R)(hR:∀u K H',R u K H'→u=.bool true):
 Calls P fid args W λe W'=>∃v,e=.returned v∧s.post enc P fn false true false false W args v W':=by
 have h1:=callsIn_wide.1 (hd W (agrees_HW W) ⟨by simp,by simp[ids],by simp⟩)
 refine h1.mono λe W' ⟨v,K',H',he,hr,hm⟩=> ?_
 obtain rfl:=hR _ _ _ hr
 refine⟨_,he,?_⟩
 have hb:Below W.heap.size W W':=(show Kept [] W W' from hm.kept).below
 have hlt:=hW.lt
 have hW':=hW
 obtain⟨p,q,hA,hV,rfl,hfz,hnd⟩:=hW'
 rw[hv]at hV
 obtain⟨rfl,rfl⟩:=trodVars_none hV
 refine⟨ds,[],_,[],p,[],hW,?_,?_,?_,hb.frame _,λh=>by cases h⟩
 · rw[hs,hres]
   exact trodAll_cons_mk (shut_bool htb _) trodAll_mk0
 · rw[hs]
   exact trodAll_below hl hb hrec hA (λx hx=>hlt x (by simpa using hx)) (λx hx=>by simpa using hlt x (by simpa using hx))
 · rw[hs,hv];exact rfl
end
end Go.Ow
