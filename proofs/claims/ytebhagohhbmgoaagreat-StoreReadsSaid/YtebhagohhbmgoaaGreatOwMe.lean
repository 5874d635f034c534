import Derived.Test.YtebhagohhbmgoaaGreatOwMb
import Derived.HandedShaped
import Derived.Test.YtebhagohhbmgoaaGreatOwMd
import Derived.Test.YtebhagohhbmgoaaGreatOwMc
/-
  What is proved here: what a reading of an argument says, where no slice that is met takes more than the form's reach.
-/
namespace Go.Ow
open Go.ChangeShapes Go.WideShapes Go.ChangeAt Go.RowKit
set_option linter.unusedVariables false
set_option linter.unusedSimpArgs false

section
variable {H : Type} {enc : TypeId × Value → H} {P : Program} {W : World} {B : Bulk H}
def Fits (P : Program) (t : TypeId) (d : DataW H) : Prop:=(d.weights P t).all (· ≤ reachBytes) = true
def FitsEach (P : Program) (ts : List TypeId) (ds : List (DataW H)) : Prop:=(DataW.weightsEach P ts ds).all (· ≤ reachBytes) = true
theorem fits_cons {t : TypeId} {ts : List TypeId} {d : DataW H} {ds : List (DataW H)} (h : FitsEach P (t :: ts) (d :: ds)) : Fits P t d ∧ FitsEach P ts ds:=by
  unfold FitsEach at h
  rw [DataW.weightsEach,List.all_append,Bool.and_eq_true] at h
  exact h
theorem fits_all {e : TypeId} : ∀ {ds : List (DataW H)},(DataW.weightsAll P e ds).all (· ≤ reachBytes) = true → ∀ d ∈ ds,Fits P e d
  | [],_,d,hd => by cases hd
  | x :: r,h,d,hd => by
    rw [DataW.weightsAll,List.all_append,Bool.and_eq_true] at h
    rcases List.mem_cons.1 hd with rfl | hd
    · exact h.1
    · exact fits_all h.2 d hd
theorem fits_slice {t e : TypeId} {a b : List (DataW H)} (ht : P.underlying t = some (.slice e)) (hb : 1 ≤ P.bytesOf e) (h : Fits P t (.slice a b)) : a.length ≤ reachBytes ∧ ∀ d ∈ a,Fits P e d:=by
  unfold Fits at h
  rw [DataW.weights,ht] at h
  simp only [List.all_cons,List.all_append,Bool.and_eq_true,decide_eq_true_eq] at h
  refine ⟨?_,fits_all h.2.1⟩
  have:=Nat.le_mul_of_pos_right (a.length + b.length) hb
  omega
theorem fits_agg {t : TypeId} {fs : Array Field} {parts : List (DataW H)} (ht : P.underlying t = some (.struct fs)) (h : Fits P t (.agg parts)) : FitsEach P (fs.toList.map (·.type)) parts:=by
  unfold Fits at h
  rw [DataW.weights,ht] at h
  exact h
def ReadsF (enc : TypeId × Value → H) (P : Program) (W : World) (t : TypeId) {α : Type} (R : Rep α) (size : Nat) (I : α → Prop) : Prop :=
  ∀ fuel cs d ps,DataW.trod enc P W 0 (fun _ => true) true fuel t cs = some (d,ps) → Fits P t d → ∃ x,R (HW W) cs x ∧ cs.length = size ∧ I x
theorem Reads.f {α : Type} {t : TypeId} {R : Rep α} {size : Nat} {big : α → Nat} {I : α → Prop} (h : Reads enc P W B t R size big I) : ReadsF enc P W t R size I:=fun fuel cs d ps e _ => by
  obtain ⟨x,h1,h2,-,h3⟩:=h fuel cs d ps e; exact ⟨x,h1,h2,h3⟩
theorem readsF_slice {α : Type} {t e : TypeId} {R : Rep α} {size : Nat} {I : α → Prop} (ht : P.underlying t = some (.slice e)) (hc : P.cellsOf e = size) (hpos : 0 < size) (hb : 1 ≤ P.bytesOf e) (he : ReadsF enc P W e R size I) :
    ∀ fuel cs d ps,DataW.trod enc P W 0 (fun _ => true) true fuel t cs = some (d,ps) → Fits P t d → ∃ ao n cap,cs = [.slice ao n cap] ∧ ∃ l,IsSlice (HW W) R size (.slice ao n cap) l ∧ l.length ≤ reachBytes ∧ ∀ x ∈ l,I x:=fun fuel cs d ps h hF => by
  rcases DataW.trod_slice ht h with ⟨rfl,hx⟩ | ⟨a,len,cap,elems,rst,m,_,rfl,hx,_,hlc,hcm,hlen,hel,hrest,_⟩
  · exact ⟨none,0,0,rfl,[],IsSlice.nil _ _ _,Nat.zero_le _,by simp⟩
  · simp only [Prod.mk.injEq] at hx
    rw [hx.1] at hF
    obtain ⟨hF1,hF2⟩:=fits_slice ht hb hF
    have hspot : cap = 0 ∨ a.spot = none:=by
      by_cases h0 : cap = 0
      · exact .inl h0
      right
      have hsome : ∃ cs',W.cells? 0 a (P.cellsOf e) = some cs':=by
        by_cases hl : len = 0
        · subst hl
          obtain ⟨hr1,hr2⟩:=hrest rfl
          have:=hr2 0 (by omega)
          have h3 : (rst[0]?).isSome = true:=by rw [List.getElem?_eq_getElem (by omega)]; rfl
          rw [← this] at h3
          cases h4 : W.cells? 0 (a.add ((0 + 0) * P.cellsOf e)) (P.cellsOf e) with
          | none => rw [h4] at h3; simp at h3
          | some c => exact ⟨c,by simpa [Addr.add] using h4⟩
        · have:=hel 0 (by omega)
          have h3 : (elems[0]?).isSome = true:=by rw [List.getElem?_eq_getElem (by omega)]; rfl
          rw [← this] at h3
          cases h4 : W.cells? 0 (a.add (0 * P.cellsOf e)) (P.cellsOf e) with
          | none => rw [h4] at h3; simp at h3
          | some c => exact ⟨c,by simpa [Addr.add] using h4⟩
      obtain ⟨cs',hcs'⟩:=hsome
      obtain ⟨_,hl',hc'⟩:=World.cells?_some hcs'
      have:=hc' 0 (by omega)
      have h5 : (cs'[0]?).isSome = true:=by rw [List.getElem?_eq_getElem (by omega)]; rfl
      rw [← this] at h5
      have h6 : a.add 0 = a:=by simp [Addr.add]
      rw [h6] at h5
      cases hs : a.spot with
      | none => rfl
      | some s =>
        unfold World.cell? at h5
        rw [hs] at h5
        split at h5 <;> simp at h5
    have key : ∀ (k : Nat),k ≤ len → ∃ l : List α,l.length = k ∧ (∀ x ∈ l,I x) ∧
        ∀ i y,l[i]? = some y → ∃ cs,W.cells? 0 (a.add (i * size)) size = some cs ∧ R (HW W) cs y ∧ cs.length = size:=by
      intro k
      induction k with
      | zero => intro _; exact ⟨[],rfl,by simp,by simp⟩
      | succ k ih =>
        intro hk
        obtain ⟨l,hl,hI,hi⟩:=ih (by omega)
        have h1:=hel k (by omega)
        have hk' : k < elems.length:=by omega
        rw [List.getElem?_eq_getElem hk'] at h1
        cases h4 : W.cells? 0 (a.add (k * P.cellsOf e)) (P.cellsOf e) with
        | none => rw [h4] at h1; simp at h1
        | some c =>
          rw [h4] at h1
          simp only [Option.bind_some] at h1
          obtain ⟨y,hy1,hy2,hy4⟩:=he m c elems[k].1 elems[k].2 h1 (hF2 _ (List.mem_map_of_mem (List.getElem_mem hk')))
          refine ⟨l ++ [y],by simp [hl],?_,?_⟩
          · intro x hx
            rcases List.mem_append.1 hx with hx | hx
            · exact hI x hx
            · simp at hx; subst hx; exact hy4
          · intro i z hz
            by_cases hi' : i < k
            · rw [List.getElem?_append_left (by omega)] at hz
              exact hi i z hz
            · have hik : i = k:=by
                have:=(List.getElem?_eq_some_iff.1 hz).1
                simp at this; omega
              subst hik
              rw [List.getElem?_append_right (by omega)] at hz
              simp [hl] at hz; subst hz
              exact ⟨c,by rw [← hc]; exact h4,hy1,hy2⟩
    obtain ⟨l,hl,hI,hi⟩:=key len (Nat.le_refl _)
    refine ⟨some a,len,cap,rfl,l,⟨some a,cap,by rw [hl],by omega,hcm,fun a' e' => ?_,fun e' => (by cases e'),fun i y hy => ?_⟩,?_,hI⟩
    · cases e'; exact hspot
    · have hlt:=(List.getElem?_eq_some_iff.1 hy).1
      have hsp : a.spot = none:=hspot.resolve_left (by omega)
      obtain ⟨b,o,s⟩:=a
      simp at hsp; subst hsp
      obtain ⟨cs,h1,h2,h3⟩:=hi i y hy
      refine ⟨b,o,cs,rfl,h3,h2,fun j u hu => ?_⟩
      obtain ⟨_,_,h5⟩:=World.cells?_some h1
      have hj : j < size:=by have:=(List.getElem?_eq_some_iff.1 hu).1; omega
      have h6:=h5 j hj
      rw [hu] at h6
      have e1 : (Addr.add (Addr.add ⟨b,o,none⟩ (i * size)) j) = ⟨b,o + i * size + j,none⟩:=by
        unfold Addr.add; split <;> split <;> simp_all
      rw [e1] at h6
      exact h6
    · rw [List.length_map] at hF1; omega
theorem readsF_sl {α : Type} {t e : TypeId} {R : Rep α} {size : Nat} {I : α → Prop} (ht : P.underlying t = some (.slice e)) (hc : P.cellsOf e = size) (hpos : 0 < size) (hb : 1 ≤ P.bytesOf e) (he : ReadsF enc P W e R size I) :
    ReadsF enc P W t (RSl R size) 1 (fun l => l.length ≤ reachBytes ∧ ∀ x ∈ l,I x):=fun fuel cs d ps h hF => by
  obtain ⟨ao,n,cap,rfl,l,h1,h2,h3⟩:=readsF_slice ht hc hpos hb he fuel cs d ps h hF
  exact ⟨l,⟨_,rfl,h1⟩,rfl,h2,h3⟩
def fit_Write (x : Write) : Prop:=InI64 x.At ∧ x.Data.length ≤ reachBytes ∧ ∀ y ∈ x.Data,True
theorem readsF_Write {t : TypeId} {fs : Array Field} {f0 f1 : Field} (ht : P.underlying t = some (.struct fs)) (hN : P.cellsOf t = 2) (hk : fs.size = 2) (hl : fs.toList = [f0,f1])
    (g0 : fs[0]? = some f0 ∧ f0.offset = 0 ∧ P.cellsOf f0.type = 1) (r0 : ReadsF enc P W f0.type RInt 1 InI64)
    (g1 : fs[1]? = some f1 ∧ f1.offset = 1 ∧ P.cellsOf f1.type = 1) (r1 : ReadsF enc P W f1.type (RSl RU8 1) 1 (fun l => l.length ≤ reachBytes ∧ ∀ x ∈ l,(fun _ => True) x)) :
    ReadsF enc P W t R_Write 2 fit_Write:=fun fuel cs d ps h hF => by
  obtain ⟨xs,n,_,hx,hlen,hxl,hf⟩:=DataW.trod_struct ht h
  rw [hN] at hlen
  rw [hk] at hxl
  match xs,hxl with
  | [x0,x1],_ =>
  match cs,hlen with
  | [c0,c1],_ =>
  simp only [Prod.mk.injEq] at hx
  rw [hx.1] at hF
  have hF:=fits_agg ht hF
  rw [hl] at hF
  obtain ⟨F0,hF⟩:=fits_cons hF
  obtain ⟨F1,-⟩:=fits_cons hF
  obtain ⟨y0,a0,_,i0⟩:=r0 n [c0] x0.1 x0.2 (by have e:=hf 0 _ g0.1; rw [g0.2.1,g0.2.2] at e; exact e) F0
  obtain rfl : c0 = .int .i64 y0:=by have e : [c0] = [.int .i64 y0]:=a0; simpa using e
  obtain ⟨y1,a1,_,i1⟩:=r1 n [c1] x1.1 x1.2 (by have e:=hf 1 _ g1.1; rw [g1.2.1,g1.2.2] at e; exact e) F1
  obtain ⟨u1,e,a1⟩:=a1
  obtain rfl : c1 = u1:=by simpa using e
  exact ⟨⟨y0,y1⟩,⟨_,rfl,a1⟩,rfl,⟨i0,i1⟩⟩
def fit_Disk (x : Disk) : Prop:=(x.Blocks.length ≤ reachBytes ∧ ∀ b ∈ x.Blocks,b.length ≤ reachBytes ∧ ∀ y ∈ b,True) ∧ (x.Waits.length ≤ reachBytes ∧ ∀ w ∈ x.Waits,fit_Write w)
theorem readsF_Disk {t : TypeId} {fs : Array Field} {f0 f1 : Field} (ht : P.underlying t = some (.struct fs)) (hN : P.cellsOf t = 2) (hk : fs.size = 2) (hl : fs.toList = [f0,f1])
    (g0 : fs[0]? = some f0 ∧ f0.offset = 0 ∧ P.cellsOf f0.type = 1) (r0 : ReadsF enc P W f0.type (RSl (RSl RU8 1) 1) 1 (fun l => l.length ≤ reachBytes ∧ ∀ x ∈ l,(fun l => l.length ≤ reachBytes ∧ ∀ x ∈ l,(fun _ => True) x) x))
    (g1 : fs[1]? = some f1 ∧ f1.offset = 1 ∧ P.cellsOf f1.type = 1) (r1 : ReadsF enc P W f1.type (RSl R_Write 2) 1 (fun l => l.length ≤ reachBytes ∧ ∀ x ∈ l,fit_Write x)) :
    ReadsF enc P W t R_Disk 2 fit_Disk:=fun fuel cs d ps h hF => by
  obtain ⟨xs,n,_,hx,hlen,hxl,hf⟩:=DataW.trod_struct ht h
  rw [hN] at hlen
  rw [hk] at hxl
  match xs,hxl with
  | [x0,x1],_ =>
  match cs,hlen with
  | [c0,c1],_ =>
  simp only [Prod.mk.injEq] at hx
  rw [hx.1] at hF
  have hF:=fits_agg ht hF
  rw [hl] at hF
  obtain ⟨F0,hF⟩:=fits_cons hF
  obtain ⟨F1,-⟩:=fits_cons hF
  obtain ⟨y0,a0,_,i0⟩:=r0 n [c0] x0.1 x0.2 (by have e:=hf 0 _ g0.1; rw [g0.2.1,g0.2.2] at e; exact e) F0
  obtain ⟨u0,e,a0⟩:=a0
  obtain rfl : c0 = u0:=by simpa using e
  obtain ⟨y1,a1,_,i1⟩:=r1 n [c1] x1.1 x1.2 (by have e:=hf 1 _ g1.1; rw [g1.2.1,g1.2.2] at e; exact e) F1
  obtain ⟨u1,e,a1⟩:=a1
  obtain rfl : c1 = u1:=by simpa using e
  exact ⟨⟨y0,y1⟩,⟨_,_,rfl,a0,a1⟩,rfl,⟨i0,i1⟩⟩
def fit_Store (x : Store) : Prop:=fit_Disk x.Disk ∧ (x.Space.length ≤ reachBytes ∧ ∀ y ∈ x.Space,True) ∧ True ∧ True
theorem readsF_Store {t : TypeId} {fs : Array Field} {f0 f1 f2 f3 : Field} (ht : P.underlying t = some (.struct fs)) (hN : P.cellsOf t = 5) (hk : fs.size = 4) (hl : fs.toList = [f0,f1,f2,f3])
    (g0 : fs[0]? = some f0 ∧ f0.offset = 0 ∧ P.cellsOf f0.type = 2) (r0 : ReadsF enc P W f0.type R_Disk 2 fit_Disk)
    (g1 : fs[1]? = some f1 ∧ f1.offset = 2 ∧ P.cellsOf f1.type = 1) (r1 : ReadsF enc P W f1.type (RSl RU8 1) 1 (fun l => l.length ≤ reachBytes ∧ ∀ x ∈ l,(fun _ => True) x))
    (g2 : fs[2]? = some f2 ∧ f2.offset = 3 ∧ P.cellsOf f2.type = 1) (r2 : ReadsF enc P W f2.type RU32 1 (fun _ => True))
    (g3 : fs[3]? = some f3 ∧ f3.offset = 4 ∧ P.cellsOf f3.type = 1) (r3 : ReadsF enc P W f3.type RU32 1 (fun _ => True)) :
    ReadsF enc P W t R_Store 5 fit_Store:=fun fuel cs d ps h hF => by
  obtain ⟨xs,n,_,hx,hlen,hxl,hf⟩:=DataW.trod_struct ht h
  rw [hN] at hlen
  rw [hk] at hxl
  match xs,hxl with
  | [x0,x1,x2,x3],_ =>
  match cs,hlen with
  | [c0,c1,c2,c3,c4],_ =>
  simp only [Prod.mk.injEq] at hx
  rw [hx.1] at hF
  have hF:=fits_agg ht hF
  rw [hl] at hF
  obtain ⟨F0,hF⟩:=fits_cons hF
  obtain ⟨F1,hF⟩:=fits_cons hF
  obtain ⟨F2,hF⟩:=fits_cons hF
  obtain ⟨F3,-⟩:=fits_cons hF
  obtain ⟨y0,a0,_,i0⟩:=r0 n [c0,c1] x0.1 x0.2 (by have e:=hf 0 _ g0.1; rw [g0.2.1,g0.2.2] at e; exact e) F0
  obtain ⟨w0_0,w0_1,e,h0_0,h0_1⟩:=a0
  simp only [List.cons.injEq,and_true] at e
  obtain ⟨rfl,rfl⟩:=e
  obtain ⟨y1,a1,_,i1⟩:=r1 n [c2] x1.1 x1.2 (by have e:=hf 1 _ g1.1; rw [g1.2.1,g1.2.2] at e; exact e) F1
  obtain ⟨u1,e,a1⟩:=a1
  obtain rfl : c2 = u1:=by simpa using e
  obtain ⟨y2,a2,_,i2⟩:=r2 n [c3] x2.1 x2.2 (by have e:=hf 2 _ g2.1; rw [g2.2.1,g2.2.2] at e; exact e) F2
  obtain rfl : c3 = .int .u32 (y2.toNat : Int):=by have e : [c3] = [.int .u32 (y2.toNat : Int)]:=a2; simpa using e
  obtain ⟨y3,a3,_,i3⟩:=r3 n [c4] x3.1 x3.2 (by have e:=hf 3 _ g3.1; rw [g3.2.1,g3.2.2] at e; exact e) F3
  obtain rfl : c4 = .int .u32 (y3.toNat : Int):=by have e : [c4] = [.int .u32 (y3.toNat : Int)]:=a3; simpa using e
  exact ⟨⟨y0,y1,y2,y3⟩,⟨_,_,_,rfl,h0_0,h0_1,a1⟩,rfl,⟨i0,i1,i2,i3⟩⟩
theorem argF_struct {r : Reach} {b0 : Nat} {t : TypeId} {v : Value} {d : DataW H} {ps : List MemPlace} {α : Type} {fs : Array Field} {R : Rep α} {size : Nat} {I : α → Prop} (ht : P.underlying t = some (.struct fs)) (he : ReadsF enc P W t R size I)
    (hval : Value.okWide P W r b0 t v) (hd : DataW.Trod enc P W 0 (fun _ => true) true t v d ps) (hF : Fits P t d) :
    ∃ cs : Array Value,v = .agg cs ∧ ∃ x,R (HW W) cs.toList x ∧ I x:=by
  obtain ⟨cs,rfl,_⟩:=okWide_struct ht hval
  obtain ⟨fuel,hf⟩:=hd
  obtain ⟨x,h1,h2,h3⟩:=he fuel _ d ps hf hF
  exact ⟨cs,rfl,x,by simpa [Value.cells] using h1,h3⟩
end
end Go.Ow

/-
  What is proved here: pointers as bytes and back, rows of pointers (ptr), in plain words.
-/
namespace Go.Ow
set_option linter.unusedVariables false
set_option linter.unusedSimpArgs false

def ptrB (p : Ptr) : List UInt8:=leB p.At.toNat 1 ++ leB p.Birth.toNat 3 ++ leB p.Iv.toNat 4 ++ leB p.Tag.toNat 4 ++ leB p.Sum.toNat 4
theorem ptrB_length (p : Ptr) : (ptrB p).length = 16:=by simp only [ptrB,List.length_append,Zb]
def at5 (b : List UInt8) : Ptr:=⟨(numB ((b.drop 0).take 1) : Int),u32i (numB ((b.drop 1).take 3) : Int),u32i (numB ((b.drop 4).take 4) : Int),u32i (numB ((b.drop 8).take 4) : Int),u32i (numB ((b.drop 12).take 4) : Int)⟩
theorem drop_app {α : Type} (a b : List α) {n : Nat} (h : a.length = n) : (a ++ b).drop n = b:=by subst h; exact List.drop_left
theorem take_app {α : Type} (a b : List α) {n : Nat} (h : a.length = n) : (a ++ b).take n = a:=by subst h; exact List.take_left
theorem u32i_num {a : UInt32} {k : Nat} (h : a.toNat < 256 ^ k) : u32i (numB (leB a.toNat k) : Int) = a:=by
  rw [numB_leB h]
  unfold u32i
  apply UInt32.toNat_inj.1
  rw [UInt32.toNat_ofNat']
  have:=u32_lt a
  omega
theorem at5_ptrB {p : Ptr} (h : okR p) : at5 (ptrB p) = p:=by
  obtain ⟨h1,h2,h3,h4⟩:=h
  have hb : p.Birth.toNat < 256 ^ 3:=by
    have:=UInt32.le_iff_toNat_le.1 h4
    have e : (16777215 : UInt32).toNat = 16777215:=rfl
    rw [e] at this
    have e3 : (256 : Nat) ^ 3 = 16777216:=by decide
    omega
  have e4 : (256 : Nat) ^ 4 = 4294967296:=by decide
  have q0 : ptrB p = leB p.At.toNat 1 ++ (leB p.Birth.toNat 3 ++ (leB p.Iv.toNat 4 ++ (leB p.Tag.toNat 4 ++ leB p.Sum.toNat 4))):=by simp only [ptrB,List.append_assoc]
  have q1 : (ptrB p).drop 1 = leB p.Birth.toNat 3 ++ (leB p.Iv.toNat 4 ++ (leB p.Tag.toNat 4 ++ leB p.Sum.toNat 4)):=by rw [q0]; exact drop_app _ _ (Zb _ _)
  have q2 : (ptrB p).drop 4 = leB p.Iv.toNat 4 ++ (leB p.Tag.toNat 4 ++ leB p.Sum.toNat 4):=by rw [show 4 = 1 + 3 from rfl,← List.drop_drop,q1]; exact drop_app _ _ (Zb _ _)
  have q3 : (ptrB p).drop 8 = leB p.Tag.toNat 4 ++ leB p.Sum.toNat 4:=by rw [show 8 = 4 + 4 from rfl,← List.drop_drop,q2]; exact drop_app _ _ (Zb _ _)
  have q4 : (ptrB p).drop 12 = leB p.Sum.toNat 4:=by rw [show 12 = 8 + 4 from rfl,← List.drop_drop,q3]; exact drop_app _ _ (Zb _ _)
  unfold at5
  rw [List.drop_zero,q1,q2,q3,q4,take_app _ _ (Zb _ 3),take_app _ _ (Zb _ 4),take_app _ _ (Zb _ 4),List.take_of_length_le (l:=leB p.Sum.toNat 4) (by rw [Zb]; omega),q0,take_app _ _ (Zb _ 1)]
  rw [u32i_num hb,u32i_num (by have:=u32_lt p.Iv; omega),u32i_num (by have:=u32_lt p.Tag; omega),u32i_num (by have:=u32_lt p.Sum; omega),numB_leB (by omega),Int.toNat_of_nonneg (by omega)]

def okP (p : Ptr) : Prop:=isNone p ∨ okR p
instance (p : Ptr) : Decidable (okP p):=by unfold okP; infer_instance
theorem isNone.eq {p : Ptr} (h : isNone p) : p = noP:=by
  obtain ⟨a,b,c,d,e⟩:=p
  obtain ⟨h1,h2,h3,h4,h5⟩:=h
  simp only at h1 h2 h3 h4 h5
  subst h1; subst h2; subst h3; subst h4; subst h5; rfl
theorem ptrB_no : ptrB noP = List.replicate 16 0:=by decide +kernel
theorem Ptr.ext_iff' {a b : Ptr} : a = b ↔ (a.At = b.At ∧ a.Birth = b.Birth ∧ a.Iv = b.Iv ∧ a.Tag = b.Tag ∧ a.Sum = b.Sum):=by
  constructor
  · intro h; subst h; exact ⟨rfl,rfl,rfl,rfl,rfl⟩
  · intro h
    obtain ⟨a1,a2,a3,a4,a5⟩:=a
    obtain ⟨b1,b2,b3,b4,b5⟩:=b
    simp only at h
    obtain ⟨rfl,rfl,rfl,rfl,rfl⟩:=h
    rfl
instance : DecidableEq Ptr:=fun a b => decidable_of_iff _ Ptr.ext_iff'.symm
theorem at5_no : at5 (ptrB noP) = noP:=by decide +kernel
theorem at5_ptrB' {p : Ptr} (h : okP p) : at5 (ptrB p) = p:=by
  rcases h with h | h
  · rw [h.eq]; exact at5_no
  · exact at5_ptrB h

/-! ### Rows -/
theorem flat_len (l : List Ptr) : ((l.map ptrB).flatten).length = 16 * l.length:=by
  induction l with
  | nil => rfl
  | cons p r ih => rw [List.map_cons,List.flatten_cons,List.length_append,ih,ptrB_length,List.length_cons]; omega
def rowB (l : List Ptr) : List UInt8:=(l.map ptrB).flatten ++ List.replicate (256 - 16 * l.length) 0
theorem rowB_length {l : List Ptr} (h : l.length ≤ 16) : (rowB l).length = 256:=by rw [rowB,List.length_append,flat_len,List.length_replicate]; omega
def ptrsOf (b : List UInt8) : List Ptr:=(chunks 16 b.length b).map at5
def rowsB (b : List UInt8) : List Ptr × Int:=if ∀ p ∈ ptrsOf b,okP p then (ptrsOf b,0) else ([],8)
theorem chunks_row : ∀ (l : List Ptr) (k f : Nat),16 * l.length + 16 * k ≤ f → chunks 16 f ((l.map ptrB).flatten ++ List.replicate (16 * k) 0) = l.map ptrB ++ List.replicate k (ptrB noP)
  | [],0,f,_ => by simp [chunks_nil]
  | [],k + 1,0,h => by omega
  | [],k + 1,f + 1,h => by
    have e : List.replicate (16 * (k + 1)) (0 : UInt8) = List.replicate 16 0 ++ List.replicate (16 * k) 0:=by rw [List.replicate_append_replicate]; congr 1; omega
    have ih:=chunks_row [] k f (by simp at h ⊢; omega)
    simp only [List.map_nil,List.flatten_nil,List.nil_append] at ih ⊢
    rw [e,chunks_step (by simp),take_app _ _ (by simp),drop_app _ _ (by simp),ih,ptrB_no]; rfl
  | p :: l,k,0,h => by simp at h
  | p :: l,k,f + 1,h => by
    have ih:=chunks_row l k f (by simp at h; omega)
    rw [List.map_cons,List.flatten_cons,List.append_assoc]
    have hne : ptrB p ++ ((l.map ptrB).flatten ++ List.replicate (16 * k) 0) ≠ []:=by
      intro e
      have:=congrArg List.length e
      rw [List.length_append,ptrB_length] at this
      simp at this
    rw [chunks_step hne,take_app _ _ (ptrB_length p),drop_app _ _ (ptrB_length p),ih]; rfl
theorem ptrsOf_row {l : List Ptr} (h : l.length ≤ 16) (hp : ∀ p ∈ l,okP p) : ptrsOf (rowB l) = l ++ List.replicate (16 - l.length) noP:=by
  unfold ptrsOf
  rw [rowB_length h]
  unfold rowB
  rw [show 256 - 16 * l.length = 16 * (16 - l.length) by omega,chunks_row l _ _ (by omega),List.map_append,List.map_map,List.map_replicate,at5_no]
  congr 1
  conv => rhs; rw [← List.map_id l]
  exact List.map_congr_left (fun p hq => at5_ptrB' (hp p hq))
theorem okP_no : okP noP:=.inl noP_none
theorem rowsB_row {l : List Ptr} (h : l.length ≤ 16) (hp : ∀ p ∈ l,okP p) : rowsB (rowB l) = (l ++ List.replicate (16 - l.length) noP,0):=by
  unfold rowsB
  rw [ptrsOf_row h hp,if_pos]
  intro p hq
  rcases List.mem_append.1 hq with h | h
  · exact hp p h
  · rw [(List.mem_replicate.1 h).2]; exact okP_no
end Go.Ow

/-
  What is proved here: objects as blocks and back (obj), the pointers and objects below a root (set), in plain words.
-/
namespace Go.Ow
set_option linter.unusedVariables false
set_option linter.unusedSimpArgs false

/-! ### May an object be? -/
def okO (o : Object) : Prop:=((1 : Int) ≤ (o.Kind.toNat : Int) ∧ (o.Kind.toNat : Int) ≤ 7) ∧ (0 ≤ o.Links ∧ o.Links ≤ 255) ∧ (0 ≤ o.Size ∧ o.Size ≤ 3840) ∧ o.Data.length = 15 ∧ ∀ p ∈ o.Data,okP p
instance (o : Object) : Decidable (okO o):=by unfold okO; infer_instance
/-! ### As a block -/
def objB (o : Object) : List UInt8:=([o.Kind,u8i o.Links] ++ leB o.Size.toNat 2) ++ List.replicate 12 0 ++ (rowB o.Data).take 240
def noO : Object:=⟨0,0,0,[]⟩
def objOf (b : List UInt8) : Object:=⟨b.getD 0 0,((b.getD 1 0).toNat : Int),(numB ((b.drop 2).take 2) : Int),(ptrsOf (b.drop 16 ++ List.replicate 16 0)).take 15⟩
def readO (b : List UInt8) : Object × Int :=
  if (rowsB (b.drop 16 ++ List.replicate 16 0)).2 = 0 ∧ (b.take 16).drop 4 = List.replicate 12 0 ∧ okO (objOf b) then (objOf b,0) else (noO,8)
theorem u8i_toNat {n : Int} (h : 0 ≤ n ∧ n ≤ 255) : ((u8i n).toNat : Int) = n:=by
  obtain ⟨k,rfl⟩:=Int.eq_ofNat_of_zero_le h.1
  rw [u8i_nat]
  simp only [UInt8.toNat_ofNat']
  omega
theorem readO_objB {o : Object} (h : okO o) : readO (objB o) = (o,0):=by
  obtain ⟨h1,h2,h3,h4,h5⟩:=h
  have hw : objB o = [o.Kind,u8i o.Links] ++ (leB o.Size.toNat 2 ++ (List.replicate 12 0 ++ (rowB o.Data).take 240)):=by simp [objB]
  have d4 : (objB o).drop 4 = List.replicate 12 0 ++ (rowB o.Data).take 240:=by
    unfold objB
    rw [List.append_assoc]; exact drop_app _ _ (by rw [List.length_append,Zb]; rfl)
  have d16 : (objB o).drop 16 = (rowB o.Data).take 240:=by
    rw [show 16 = 4 + 12 from rfl,← List.drop_drop,d4]; exact drop_app _ _ (by simp)
  have hrow : (rowB o.Data).take 240 ++ List.replicate 16 0 = rowB o.Data:=by
    unfold rowB
    rw [take_app _ _ (by rw [flat_len,h4]),h4]
  have hrs:=rowsB_row (l:=o.Data) (by omega) h5
  have hps:=ptrsOf_row (l:=o.Data) (by omega) h5
  have ho : objOf (objB o) = o:=by
    obtain ⟨K,L,S,D⟩:=o
    unfold objOf
    rw [d16,hrow,hps]
    have e1 : (objB ⟨K,L,S,D⟩).getD 0 0 = K:=rfl
    have e2 : (objB ⟨K,L,S,D⟩).getD 1 0 = u8i L:=rfl
    have e3 : ((objB ⟨K,L,S,D⟩).drop 2).take 2 = leB S.toNat 2:=by
      rw [hw]
      show List.take 2 (leB S.toNat 2 ++ (List.replicate 12 0 ++ (rowB D).take 240)) = _
      exact take_app _ _ (Zb _ _)
    have hS : S.toNat < 256 ^ 2:=by
      have h3' : 0 ≤ S ∧ S ≤ 3840:=h3
      have : (256 : Nat) ^ 2 = 65536:=rfl
      omega
    rw [e1,e2,e3,u8i_toNat h2,numB_leB hS,Int.toNat_of_nonneg h3.1]
    congr 1
    exact take_app D _ h4
  unfold readO
  rw [ho,if_pos]
  refine ⟨?_,?_,h1,h2,h3,h4,h5⟩
  · rw [d16,hrow,hrs]
  · have : ((objB o).take 16).drop 4 = ((objB o).drop 4).take 12:=by rw [List.drop_take]
    rw [this,d4,take_app _ _ (by simp)]

/-! ### Below a root -/
def oneS (s : Store) (p : Ptr) : Object × Int:=if (lookS s p).2 = 0 then readO (lookS s p).1 else (noO,(lookS s p).2)
end Go.Ow

/-
  What is proved here: what is told below a root (set.Walk), in plain words.
-/
namespace Go.Ow
set_option linter.unusedVariables false
set_option linter.unusedSimpArgs false

end Go.Ow

/-
  What is proved here: the chapter's dataset is made, and told; the law SetNames, in plain words.
-/
namespace Go.Ow
set_option linter.unusedVariables false
set_option linter.unusedSimpArgs false

theorem PutAt.space {s : Store} {p : Ptr} {b : List UInt8} {t : Store} {q : Ptr} {j : Nat} (h : PutAt s p b t q j) : t.Space = s.Space.set j 1:=by rw [h.out]
theorem PutAt.waits {s : Store} {p : Ptr} {b : List UInt8} {t : Store} {q : Ptr} {j : Nat} (h : PutAt s p b t q j) : t.Disk.Waits.length = s.Disk.Waits.length + 1:=by rw [h.out]; simp
def dataM (p q : Ptr) : List Ptr:=[p,noP,noP,noP,q,noP,noP,noP,noP,noP,noP,noP,noP,noP,noP]
structure Made (s : Store) (root at' p q : Ptr) : Prop where
  ok : OKSt s
  hr : okR root
  ha : okR at'
  hp : okR p
  hq : okR q
  rb : root.Birth = 5
  ab : at'.Birth = 5
  pb : p.Birth = 3
  qb : q.Birth = 5
  lr : lookS s root = (rowB [noP,noP,at'],0)
  la : lookS s at' = (objB ⟨1,0,0,dataM p q⟩,0)
theorem okO_data {p q : Ptr} (hp : okR p) (hq : okR q) : okO ⟨1,0,0,dataM p q⟩:=by
  refine ⟨⟨by show (1 : Int) ≤ ((1 : UInt8).toNat : Int); decide,by show ((1 : UInt8).toNat : Int) ≤ 7; decide⟩,⟨Int.le_refl _,by show (0 : Int) ≤ 255; decide⟩,⟨Int.le_refl _,by show (0 : Int) ≤ 3840; decide⟩,rfl,fun x hx => ?_⟩
  have : x = p ∨ x = q ∨ x = noP:=by simp [dataM] at hx; rcases hx with h | h | h | h <;> simp [h]
  rcases this with rfl | rfl | rfl
  · exact .inr hp
  · exact .inr hq
  · exact okP_no
section told
variable {s : Store} {root at' p q : Ptr} (h : Made s root at' p q)
include h
theorem Made.one : oneS s at' = (⟨1,0,0,dataM p q⟩,0):=by
  unfold oneS
  rw [h.la,if_pos rfl,readO_objB (okO_data h.hp h.hq)]
end told
end Go.Ow

/-
  What is proved here: the law SetYoung, in plain words.
-/
namespace Go.Ow
set_option linter.unusedVariables false
set_option linter.unusedSimpArgs false

end Go.Ow

/-
  What is proved here: the law SetParts, in plain words.
-/
namespace Go.Ow
set_option linter.unusedVariables false
set_option linter.unusedSimpArgs false

end Go.Ow

/-
  What is proved here: the law SetLater, in plain words: what is told above a later birth is a part of what is told above an earlier one, in order.
-/
namespace Go.Ow
set_option linter.unusedVariables false
set_option linter.unusedSimpArgs false

end Go.Ow

/-
  What is proved here: the law SetAlone, in plain words: a block that is laid changes nothing that is told below a root whose blocks are all taken.
-/
namespace Go.Ow
set_option linter.unusedVariables false
set_option linter.unusedSimpArgs false

section
variable {s : Store} {p : Ptr} {b : List UInt8} {t : Store} {q : Ptr} {j : Nat}
end
end Go.Ow

/-
  What is proved here: the document's sum of bytes (charterhouseref02) is the program's (mix.Sum), in plain words.
-/
namespace Go.Ow
set_option linter.unusedVariables false
set_option linter.unusedSimpArgs false

/-! ### turning to the left -/
def rotN (x k : Nat) : Nat:=x % 2 ^ (32 - k) * 2 ^ k + x / 2 ^ (32 - k)
theorem rot_step {x : Nat} (h : x < 4294967296) (i : Nat) (hi : i < 15) : 2 * rotN x i % 4294967296 + 2 * rotN x i / 4294967296 = rotN x (i + 1) ∧ rotN x i < 4294967296:=by
  have : i = 0 ∨ i = 1 ∨ i = 2 ∨ i = 3 ∨ i = 4 ∨ i = 5 ∨ i = 6 ∨ i = 7 ∨ i = 8 ∨ i = 9 ∨ i = 10 ∨ i = 11 ∨ i = 12 ∨ i = 13 ∨ i = 14:=by omega
  rcases this with rfl | rfl | rfl | rfl | rfl | rfl | rfl | rfl | rfl | rfl | rfl | rfl | rfl | rfl | rfl <;>
    (simp only [rotN,Nat.reduceSub,Nat.reducePow,Nat.reduceAdd]; omega)
theorem left_step {y : Nat} (h : y < 4294967296) : w64 (((w64 ((y : Int) * 2)).tmod 4294967296) + (w64 ((w64 ((y : Int) * 2)).tdiv 4294967296))) = ((2 * y % 4294967296 + 2 * y / 4294967296 : Nat) : Int):=by
  have e : (y : Int) * 2 = ((2 * y : Nat) : Int):=by omega
  rw [e,Zq (n:=((2 * y : Nat) : Int)) (by omega) (by omega),Int.tmod_eq_emod_of_nonneg (by omega),Int.tdiv_eq_ediv_of_nonneg (by omega),Zq (n:=((2 * y : Nat) : Int) / 4294967296) (by omega) (by omega),Zq (by omega) (by omega)]
  omega
theorem ref_left_run {x n : Nat} (h : x < 4294967296) (hn : n ≤ 15) : ∀ (k i f : Nat),i + k = n → k < f → run (ref02_left_l1 (n : Int)) f ((rotN x i : Int),(i : Int)) = some (rotN x n : Int)
  | 0,i,f,hi,hf => by
    obtain ⟨f,rfl⟩ : ∃ q,f = q + 1:=⟨f - 1,by omega⟩
    refine Zs ?_
    unfold ref02_left_l1
    dsimp only
    rw [decide_eq_false (by omega),cond_false,show i = n by omega]
  | k + 1,i,f,hi,hf => by
    obtain ⟨f,rfl⟩ : ∃ q,f = q + 1:=⟨f - 1,by omega⟩
    obtain ⟨h1,h2⟩:=rot_step h i (by omega)
    rw [run_st (s':=((rotN x (i + 1) : Int),((i + 1 : Nat) : Int))) (by
      unfold ref02_left_l1
      dsimp only
      rw [decide_eq_true (by omega),cond_true,left_step h2,h1,Zq (n:=(i : Int) + 1) (by omega) (by omega)]
      rfl)]
    exact ref_left_run h hn k (i + 1) f (by omega) (by omega)
theorem rotN_zero {x : Nat} (h : x < 4294967296) : rotN x 0 = x:=by
  simp only [rotN,Nat.reduceSub,Nat.reducePow]; omega
theorem u32i_nat' (n : Nat) : u32i (n : Int) = UInt32.ofNat n:=by
  unfold u32i
  apply UInt32.toNat_inj.1
  rw [UInt32.toNat_ofNat',UInt32.toNat_ofNat']; omega
theorem ref_left_eq (p : UInt32) {n : Nat} (hn : n ≤ 15) : ref02_left p (n : Int) = some (UInt32.ofNat (rotN p.toNat n)):=by
  have h : p.toNat < 4294967296:=p.toNat_lt
  unfold ref02_left
  have:=ref_left_run h hn n 0 17 (by omega) (by omega)
  rw [rotN_zero h] at this
  rw [show loop (ref02_left_l1 (n : Int)) ((p.toNat : Int),0) = some (rotN p.toNat n : Int) from loop_of (by decide) this,Option.bind_some,u32i_nat']
theorem or_rot (p : UInt32) {k : Nat} (h1 : 1 ≤ k) (hk : k ≤ 15) : sl32 p k ||| sr32 p (32 - k) = UInt32.ofNat (rotN p.toNat k):=by
  have h : p.toNat < 4294967296:=p.toNat_lt
  apply UInt32.toNat_inj.1
  rw [UInt32.toNat_or]
  unfold sl32 sr32
  rw [UInt32.toNat_ofNat',UInt32.toNat_ofNat',UInt32.toNat_ofNat',Nat.min_eq_left (by omega),Nat.min_eq_left (by omega)]
  have e : (2 : Nat) ^ 32 = 2 ^ k * 2 ^ (32 - k):=by rw [← Nat.pow_add,show k + (32 - k) = 32 by omega]
  have h2 : p.toNat / 2 ^ (32 - k) < 2 ^ k:=by rw [Nat.div_lt_iff_lt_mul (Nat.two_pow_pos _),← e]; exact h
  have h3 : p.toNat * 2 ^ k % 2 ^ 32 = 2 ^ k * (p.toNat % 2 ^ (32 - k)):=by rw [e,Nat.mul_comm p.toNat,Nat.mul_mod_mul_left]
  have h4 : p.toNat / 2 ^ (32 - k) % 2 ^ 32 = p.toNat / 2 ^ (32 - k):=Nat.mod_eq_of_lt (Nat.lt_of_le_of_lt (Nat.div_le_self _ _) h)
  have h5 : rotN p.toNat k < 2 ^ 32:=by
    unfold rotN
    have : p.toNat % 2 ^ (32 - k) < 2 ^ (32 - k):=Nat.mod_lt _ (Nat.two_pow_pos _)
    have:=Nat.mul_le_mul_right (2 ^ k) (show p.toNat % 2 ^ (32 - k) + 1 ≤ 2 ^ (32 - k) from this)
    rw [Nat.add_mul,Nat.one_mul,Nat.mul_comm (2 ^ (32 - k)),← e] at this
    omega
  rw [h3,h4,← Nat.two_pow_add_eq_or_of_lt h2,Nat.mod_eq_of_lt h5]
  unfold rotN
  rw [Nat.mul_comm (2 ^ k)]
theorem rl_eq (p : UInt32) : math_bits_RotateLeft32 p 15 = some (UInt32.ofNat (rotN p.toNat 15)) ∧ math_bits_RotateLeft32 p 11 = some (UInt32.ofNat (rotN p.toNat 11)) ∧
    math_bits_RotateLeft32 p 9 = some (UInt32.ofNat (rotN p.toNat 9)) ∧ math_bits_RotateLeft32 p 6 = some (UInt32.ofNat (rotN p.toNat 6)):=by
  refine ⟨?_,?_,?_,?_⟩
  · rw [← or_rot p (k:=15) (by omega) (by omega)]; rfl
  · rw [← or_rot p (k:=11) (by omega) (by omega)]; rfl
  · rw [← or_rot p (k:=9) (by omega) (by omega)]; rfl
  · rw [← or_rot p (k:=6) (by omega) (by omega)]; rfl
theorem ref_plus_eq (a b : UInt32) : ref02_plus a b = some (a + b):=by
  have ha : a.toNat < 4294967296:=a.toNat_lt
  have hb : b.toNat < 4294967296:=b.toNat_lt
  unfold ref02_plus
  rw [Zq (by omega) (by omega),Int.tmod_eq_emod_of_nonneg (by omega)]
  congr 1
  rw [show (((a.toNat : Int) + (b.toNat : Int)) % 4294967296) = (((a.toNat + b.toNat) % 4294967296 : Nat) : Int) by omega,u32i_nat']
  apply UInt32.toNat_inj.1
  rw [UInt32.toNat_ofNat',UInt32.toNat_add]; omega
def turnP (x : A4 UInt32) : A4 UInt32 :=
  let a:=x.e0 + x.e1
  let d:=UInt32.ofNat (rotN (x.e3 ^^^ a).toNat 15)
  let c:=x.e2 + d
  let b:=UInt32.ofNat (rotN (x.e1 ^^^ c).toNat 11)
  let a2:=a + b
  let d2:=UInt32.ofNat (rotN (d ^^^ a2).toNat 9)
  let c2:=c + d2
  ⟨a2,UInt32.ofNat (rotN (b ^^^ c2).toNat 6),c2,d2⟩
theorem turned_eq (x : A4 UInt32) : mix_words_turned x = some (turnP x):=by
  unfold mix_words_turned mix_words_turned_1
  simp only [(rl_eq _).1,(rl_eq _).2.1,(rl_eq _).2.2.1,(rl_eq _).2.2.2,Option.bind_some]
  rfl
theorem ref_turn_eq (x : A4 UInt32) : ref02_Turn x = some (turnP x):=by
  unfold ref02_Turn
  simp only [ref_plus_eq,Option.bind_some,show ∀ p,ref02_left p 15 = some (UInt32.ofNat (rotN p.toNat 15)) from fun p => ref_left_eq p (n:=15) (by omega),show ∀ p,ref02_left p 11 = some (UInt32.ofNat (rotN p.toNat 11)) from fun p => ref_left_eq p (n:=11) (by omega),
    show ∀ p,ref02_left p 9 = some (UInt32.ofNat (rotN p.toNat 9)) from fun p => ref_left_eq p (n:=9) (by omega),show ∀ p,ref02_left p 6 = some (UInt32.ofNat (rotN p.toNat 6)) from fun p => ref_left_eq p (n:=6) (by omega)]
  rfl
def itP : Nat → A4 UInt32 → A4 UInt32
  | 0,x => x
  | k + 1,x => itP k (turnP x)
theorem often_run {N : Nat} (hN : N ≤ 100) : ∀ (k i f : Nat) (x : A4 UInt32),i + k = N → k < f → run (mix_words_often_l1 (N : Int)) f (x.e0,x.e1,x.e2,x.e3,(i : Int)) = some ((itP k x).e0,(itP k x).e1,(itP k x).e2,(itP k x).e3)
  | 0,i,f,x,hi,hf => by
    obtain ⟨f,rfl⟩ : ∃ q,f = q + 1:=⟨f - 1,by omega⟩
    refine Zs ?_
    unfold mix_words_often_l1
    dsimp only
    rw [decide_eq_false (by omega)]; rfl
  | k + 1,i,f,x,hi,hf => by
    obtain ⟨f,rfl⟩ : ∃ q,f = q + 1:=⟨f - 1,by omega⟩
    rw [run_st (s':=((turnP x).e0,(turnP x).e1,(turnP x).e2,(turnP x).e3,((i + 1 : Nat) : Int))) (by
      unfold mix_words_often_l1
      dsimp only
      rw [decide_eq_true (by omega),cond_true,turned_eq,Option.bind_some,Zq (by omega) (by omega)]; rfl)]
    exact often_run hN k (i + 1) f (turnP x) (by omega) (by omega)
theorem often_eq (x : A4 UInt32) {N : Nat} (hN : N ≤ 100) : mix_words_often x (N : Int) = some (itP N x):=by
  unfold mix_words_often
  rw [show loop (mix_words_often_l1 (N : Int)) (x.e0,x.e1,x.e2,x.e3,0) = some ((itP N x).e0,(itP N x).e1,(itP N x).e2,(itP N x).e3) from loop_of (n:=102) (by decide) (often_run hN N 0 102 x (by omega) (by omega)),Option.bind_some]
end Go.Ow

/-
  What is proved here: the document's sum of bytes is the program's, second half: words, padding, rounds.
-/
namespace Go.Ow
set_option linter.unusedVariables false
set_option linter.unusedSimpArgs false

def padB (b : List UInt8) : List UInt8:=(b ++ [1]) ++ List.replicate (pad8 (b.length + 1)) 0
theorem padB_length (b : List UInt8) : (padB b).length % 8 = 0 ∧ b.length < (padB b).length ∧ (padB b).length ≤ b.length + 8:=by
  unfold padB pad8
  simp only [List.length_append,List.length_cons,List.length_nil,List.length_replicate]
  omega
theorem four_run : ∀ (k f : Nat) (s : List UInt8),pad8 s.length = k → k < f → s.length ≤ 100000 → run mix_four_l1 f s = some (s ++ List.replicate k 0)
  | 0,f,s,hk,hf,hs => by
    obtain ⟨f,rfl⟩ : ∃ q,f = q + 1:=⟨f - 1,by omega⟩
    refine Zs ?_
    unfold mix_four_l1
    unfold pad8 at hk
    rw [Int.tmod_eq_emod_of_nonneg (by omega),decide_eq_true (show (s.length : Int) % 8 = 0 by omega)]
    simp
  | k + 1,f,s,hk,hf,hs => by
    obtain ⟨f,rfl⟩ : ∃ q,f = q + 1:=⟨f - 1,by omega⟩
    have hk':=hk
    unfold pad8 at hk'
    have h8 : s.length % 8 ≠ 0:=by omega
    have hp:=pad8_step h8
    rw [run_st (s':=s ++ [0]) (by
      unfold mix_four_l1
      rw [Int.tmod_eq_emod_of_nonneg (by omega),decide_eq_false (show ¬ (s.length : Int) % 8 = 0 by omega)]
      simp only [Bool.not_false,cond_true]
      rw [Zv (by simp only [List.length_cons,List.length_nil,LIM]; omega)])]
    rcases Nat.lt_or_ge s.length 100000 with hl | hl
    · rw [four_run k f (s ++ [0]) (by simp only [List.length_append,List.length_cons,List.length_nil,Nat.zero_add]; omega) (by omega) (by simp only [List.length_append,List.length_cons,List.length_nil]; omega),List.append_assoc]
      rfl
    · have : s.length = 100000:=by omega
      rw [this] at h8; exact absurd rfl h8
theorem word_num {y0 y1 y2 y3 : UInt8} : y0.toUInt32 + (256 : UInt32) * y1.toUInt32 + (65536 : UInt32) * y2.toUInt32 + (16777216 : UInt32) * y3.toUInt32 = UInt32.ofNat (numB [y0,y1,y2,y3]):=by
  apply UInt32.toNat_inj.1
  have h0:=y0.toNat_lt; have h1:=y1.toNat_lt; have h2:=y2.toNat_lt; have h3:=y3.toNat_lt
  simp only [UInt32.toNat_add,UInt32.toNat_mul,UInt8.toNat_toUInt32,UInt32.toNat_ofNat',numB,show (256 : UInt32).toNat = 256 from rfl,show (65536 : UInt32).toNat = 65536 from rfl,show (16777216 : UInt32).toNat = 16777216 from rfl]
  omega
theorem byteAt_eq (b : List UInt8) (i : Nat) : ref02_byteAt b (i : Int) = some (((padB b).getD i 0).toUInt32):=by
  unfold ref02_byteAt
  by_cases c : i < b.length
  · rw [decide_eq_true (by omega),cond_true,ZU _ c,List.getD_eq_getElem?_getD]
    unfold padB
    rw [List.append_assoc,List.getElem?_append_left c,List.getElem?_eq_getElem c]; rfl
  · rw [decide_eq_false (by omega),cond_false]
    by_cases c1 : i = b.length
    · rw [decide_eq_true (by omega),cond_true,List.getD_eq_getElem?_getD]
      unfold padB
      rw [List.append_assoc,List.getElem?_append_right (by omega),c1,Nat.sub_self]; rfl
    · rw [decide_eq_false (by omega),cond_false,List.getD_eq_getElem?_getD]
      unfold padB
      rw [List.getElem?_append_right (by simp; omega),List.getElem?_replicate]
      split <;> rfl
theorem take4 {l : List UInt8} {i : Nat} (h : i + 4 ≤ l.length) : (l.drop i).take 4 = [l.getD i 0,l.getD (i + 1) 0,l.getD (i + 2) 0,l.getD (i + 3) 0]:=by
  simp only [List.getD_eq_getElem?_getD]
  rw [List.getElem?_eq_getElem (by omega),List.getElem?_eq_getElem (by omega),List.getElem?_eq_getElem (by omega),List.getElem?_eq_getElem (by omega)]
  rw [List.drop_eq_getElem_cons (by omega : i < l.length),List.drop_eq_getElem_cons (by omega : i + 1 < l.length),List.drop_eq_getElem_cons (by omega : i + 1 + 1 < l.length),List.drop_eq_getElem_cons (by omega : i + 1 + 1 + 1 < l.length)]
  rfl
theorem ref_word_eq {b : List UInt8} (hb : b.length ≤ 100000) {i : Nat} (h : i + 4 ≤ (padB b).length) : ref02_word b (i : Int) = some (UInt32.ofNat (numB (((padB b).drop i).take 4))):=by
  have hl:=(padB_length b).2.2
  unfold ref02_word
  rw [byteAt_eq,Option.bind_some,Zq (n:=(i : Int) + 1) (by omega) (by omega),show (i : Int) + 1 = ((i + 1 : Nat) : Int) by omega,byteAt_eq,Option.bind_some,Zq (n:=(i : Int) + 2) (by omega) (by omega),show (i : Int) + 2 = ((i + 2 : Nat) : Int) by omega,byteAt_eq,Option.bind_some,
    Zq (n:=(i : Int) + 3) (by omega) (by omega),show (i : Int) + 3 = ((i + 3 : Nat) : Int) by omega,byteAt_eq,Option.bind_some,take4 h,word_num]
theorem number_eq {b : List UInt8} (h : b.length = 4) : mix_number b = some (UInt32.ofNat (numB b)):=by
  unfold mix_number
  rw [show (0 : Int) = ((0 : Nat) : Int) from rfl,show (4 : Int) = ((4 : Nat) : Int) from rfl,code_Get_eq (by omega) (by omega) (by omega) (by omega),Option.bind_some,List.drop_zero,List.take_of_length_le (by omega),u32i_nat']
def roundP (x : A4 UInt32) (y : List UInt8) : A4 UInt32:=itP 4 ⟨x.e0 ^^^ UInt32.ofNat (numB (y.take 4)),x.e1,x.e2 ^^^ UInt32.ofNat (numB ((y.drop 4).take 4)),x.e3⟩
theorem mix_round {y : List UInt8} (h : y.length = 8) (x : A4 UInt32) : mix_four_r2 y (x.e0,x.e1,x.e2,x.e3) = some (.inl ((roundP x y).e0,(roundP x y).e1,(roundP x y).e2,(roundP x y).e3)):=by
  have h1 : cut y 0 4 = y.take 4:=by simp [cut]
  have h2 : cut y 4 (y.length : Int) = (y.drop 4).take 4:=by
    unfold cut
    rw [Int.toNat_natCast,h]; rfl
  unfold mix_four_r2
  rw [slc_eq (by omega) (by omega) (by omega),h1,number_eq (by rw [List.length_take]; omega),Option.bind_some,Option.bind_some,slc_eq (by omega) (by omega) (by omega),h2,number_eq (by rw [List.length_take,List.length_drop]; omega),Option.bind_some,
    show (4 : Int) = ((4 : Nat) : Int) from rfl,often_eq _ (by omega),Option.bind_some]
  rfl
theorem mix_rounds : ∀ (l : List (List UInt8)) (x : A4 UInt32),(∀ y ∈ l,y.length = 8) → forL mix_four_r2 l (x.e0,x.e1,x.e2,x.e3) = some (.inl ((l.foldl roundP x).e0,(l.foldl roundP x).e1,(l.foldl roundP x).e2,(l.foldl roundP x).e3))
  | [],x,_ => rfl
  | y :: l,x,h => by
    rw [forL_cons (mix_round (h y (by simp)) x),mix_rounds l _ (fun z hz => h z (by simp [hz]))]; rfl
def startP : A4 UInt32:=⟨1,2,3,4⟩
def fourP (b : List UInt8) : A4 UInt32 :=
  let s:=(chunks 8 (padB b).length (padB b)).foldl roundP startP
  itP 8 ⟨s.e0,s.e1 ^^^ UInt32.ofNat b.length,s.e2,s.e3⟩
theorem mix_four_eq {b : List UInt8} (h : b.length ≤ 10000) : mix_four b = some (fourP b):=by
  obtain ⟨p1,p2,p3⟩:=padB_length b
  unfold mix_four slices_Clone_byte slices_Clip_byte
  rw [Zv (by simp only [List.length_nil,LIM]; omega)]
  simp only [Option.bind_some,List.nil_append]
  rw [slc_eq (by omega) (by omega) (by omega)]
  simp only [Option.bind_some]
  have hc : cut b 0 (b.length : Int) = b:=by simp [cut]
  have hp:=pad8_le (b.length + 1)
  rw [hc,Zv (by simp only [List.length_cons,List.length_nil,LIM]; omega)]
  have h1 : loop mix_four_l1 (b ++ [1]) = some (padB b):=loop_of (n:=10) (by decide) (four_run (pad8 (b.length + 1)) 10 (b ++ [1]) (by simp) (by omega) (by simp; omega))
  rw [h1]
  simp only [Option.bind_some]
  unfold slices_Chunk_byte
  rw [if_pos ⟨by omega,by omega,by simp only [LIM]; omega⟩]
  simp only [Option.bind_some]
  rw [show ((1 : UInt32),(2 : UInt32),(3 : UInt32),(4 : UInt32)) = (startP.e0,startP.e1,startP.e2,startP.e3) from rfl,show (8 : Int).toNat = 8 from rfl,mix_rounds _ _ (fun y hy => chunks_len (n:=8) (by omega) (padB b).length (padB b) (Nat.le_refl _) p1 y hy)]
  simp only [Option.bind_some,Sum.elim_inl]
  rw [show (8 : Int) = ((8 : Nat) : Int) from rfl,often_eq _ (by omega),Option.bind_some,u32i_nat']
  rfl
theorem ref_four_run {b : List UInt8} (hb : b.length ≤ 10000) : ∀ (k f i : Nat) (x : A4 UInt32),(i + k) * 8 = (padB b).length → k < f →
    run (ref02_Four_l1 b) f (x.e0,x.e1,x.e2,x.e3,((8 * i : Nat) : Int)) = some (((chunks 8 (8 * k) ((padB b).drop (8 * i))).foldl roundP x).e0,((chunks 8 (8 * k) ((padB b).drop (8 * i))).foldl roundP x).e1,((chunks 8 (8 * k) ((padB b).drop (8 * i))).foldl roundP x).e2,((chunks 8 (8 * k) ((padB b).drop (8 * i))).foldl roundP x).e3)
  | 0,f,i,x,hi,hf => by
    obtain ⟨p1,p2,p3⟩:=padB_length b
    obtain ⟨f,rfl⟩ : ∃ q,f = q + 1:=⟨f - 1,by omega⟩
    refine Zs ?_
    unfold ref02_Four_l1
    dsimp only
    rw [decide_eq_false (by omega)]; rfl
  | k + 1,f,i,x,hi,hf => by
    obtain ⟨p1,p2,p3⟩:=padB_length b
    obtain ⟨f,rfl⟩ : ∃ q,f = q + 1:=⟨f - 1,by omega⟩
    have hne : (padB b).drop (8 * i) ≠ []:=fun e => by have:=congrArg List.length e; rw [List.length_drop] at this; simp at this; omega
    have hst : chunks 8 (8 * (k + 1)) ((padB b).drop (8 * i)) = ((padB b).drop (8 * i)).take 8 :: chunks 8 (8 * k) ((padB b).drop (8 * (i + 1))):=by
      rw [show 8 * (k + 1) = (8 * k + 7) + 1 by omega,chunks_step hne,List.drop_drop,show 8 * i + 8 = 8 * (i + 1) by omega]
      congr 1
      exact chunks_fuel (by decide) (by rw [List.length_drop]; omega) (by rw [List.length_drop]; omega)
    rw [hst,List.foldl_cons]
    have e0 : (((padB b).drop (8 * i)).take 8).take 4 = ((padB b).drop (8 * i)).take 4:=by rw [List.take_take]; rfl
    have e1 : ((((padB b).drop (8 * i)).take 8).drop 4).take 4 = ((padB b).drop (8 * i + 4)).take 4:=by rw [List.drop_take,List.take_take,List.drop_drop]; rfl
    have hr : roundP x (((padB b).drop (8 * i)).take 8) = turnP (turnP (turnP (turnP ⟨x.e0 ^^^ UInt32.ofNat (numB (((padB b).drop (8 * i)).take 4)),x.e1,x.e2 ^^^ UInt32.ofNat (numB (((padB b).drop (8 * i + 4)).take 4)),x.e3⟩))):=by
      unfold roundP; rw [e0,e1]; rfl
    rw [hr,run_st (s':=_) (by
      unfold ref02_Four_l1
      dsimp only
      rw [decide_eq_true (by omega),cond_true,ref_word_eq (by omega) (by omega),Option.bind_some,Option.bind_some,Zq (n:=((8 * i : Nat) : Int) + 4) (by omega) (by omega),show ((8 * i : Nat) : Int) + 4 = ((8 * i + 4 : Nat) : Int) by omega,ref_word_eq (by omega) (by omega),Option.bind_some,Option.bind_some,
        ref_turn_eq,Option.bind_some,ref_turn_eq,Option.bind_some,ref_turn_eq,Option.bind_some,ref_turn_eq,Option.bind_some,Zq (by omega) (by omega),show ((8 * i : Nat) : Int) + 8 = ((8 * (i + 1) : Nat) : Int) by omega])]
    exact ref_four_run hb k f (i + 1) _ (by omega) (by omega)
theorem ref_four_eq {b : List UInt8} (hb : b.length ≤ 10000) : ref02_Four b = some (fourP b):=by
  obtain ⟨p1,p2,p3⟩:=padB_length b
  unfold ref02_Four
  have h:=ref_four_run hb ((padB b).length / 8) 2000 0 startP (by omega) (by omega)
  rw [show 8 * ((padB b).length / 8) = (padB b).length by omega,show 8 * 0 = 0 from rfl,List.drop_zero] at h
  rw [show loop (ref02_Four_l1 b) ((1 : UInt32),(2 : UInt32),(3 : UInt32),(4 : UInt32),0) = _ from loop_of (by decide) h,Option.bind_some]
  simp only [ref_turn_eq,Option.bind_some,u32i_nat']
  rfl
theorem ref_sum_eq {b : List UInt8} (hb : b.length ≤ 10000) : ref02_Sum b = some (sumOf b):=by
  rw [← mix_Sum_eq hb]
  unfold ref02_Sum mix_Sum
  rw [ref_four_eq hb,mix_four_eq hb]
end Go.Ow

/-
  What is proved here: the document's copies, its bounds, and what it sees on a disk (charterhouseref09, 12, 13), in plain words.
-/
namespace Go.Ow
set_option linter.unusedVariables false
set_option linter.unusedSimpArgs false

structure SmallD (d : Disk) : Prop where
  blocks : d.Blocks.length ≤ 2000000
  waits : d.Waits.length ≤ 2000000
  block : ∀ b ∈ d.Blocks,b.length ≤ 2000000
  wait : ∀ w ∈ d.Waits,w.Data.length ≤ 2000000
theorem lim_le' {n : Nat} (h : n ≤ 2000000) : n ≤ LIM:=Nat.le_trans h (by decide)
theorem chkN_none {α β : Type} (k : Option β) : chkN (none : Option α) k = k:=rfl
theorem map_same {α : Type} {f : α → α} (h : ∀ x,f x = x) (l : List α) : l.map f = l:=by
  rw [show f = id from funext h,List.map_id]
theorem rtwin_l1 {d : Disk} (hs : SmallD d) : ∀ (k i f : Nat),i + k = d.Blocks.length → k < f → run (ref09_Twin_l1 d) f ((d.Blocks.take i).map some ++ List.replicate k none,i) = some (d.Blocks.map some)
  | 0,i,f,hi,hf => by
    obtain ⟨f,rfl⟩ : ∃ q,f = q + 1:=⟨f - 1,by omega⟩
    refine Zs ?_
    unfold ref09_Twin_l1
    dsimp only
    rw [decide_eq_false (by omega),cond_false,List.take_of_length_le (by omega),List.replicate_zero,List.append_nil]
  | k + 1,i,f,hi,hf => by
    obtain ⟨f,rfl⟩ : ∃ q,f = q + 1:=⟨f - 1,by omega⟩
    have hlt : i < d.Blocks.length:=by omega
    have hb:=hs.block _ (List.getElem_mem hlt)
    have hlen : ((d.Blocks.take i).map some).length = i:=by rw [List.length_map,List.length_take]; omega
    have hS : ((d.Blocks.take i).map some ++ List.replicate (k + 1) (none : Option (List UInt8)))[i]? = some none:=by
      rw [List.getElem?_append_right (by omega),hlen,Nat.sub_self]; rfl
    have hset : ((d.Blocks.take i).map some ++ List.replicate (k + 1) (none : Option (List UInt8))).set i (some d.Blocks[i]) = (d.Blocks.take (i + 1)).map some ++ List.replicate k none:=by
      rw [List.set_append_right _ _ (by omega),hlen,Nat.sub_self,List.replicate_succ,List.set_cons_zero,List.take_succ_eq_append_getElem hlt,List.map_append,List.append_assoc]; rfl
    rw [run_st (s':=((d.Blocks.take (i + 1)).map some ++ List.replicate k none,i + 1)) (by
      unfold ref09_Twin_l1
      dsimp only
      rw [decide_eq_true (by omega),cond_true,ZU _ hlt,idx_eq (y:=none) ⟨by omega,by rw [Int.toNat_natCast]; exact hS⟩]
      rw [chkN_none,Zv (by simp only [List.length_nil,Nat.zero_add]; exact lim_le' hb),List.nil_append,chk_eq ⟨by omega,by rw [Int.toNat_natCast,List.length_append,hlen,List.length_replicate]; omega⟩,setI_eq (by omega) (by rw [Int.toNat_natCast,List.length_append,hlen,List.length_replicate]; omega),Int.toNat_natCast,hset])]
    exact rtwin_l1 hs k (i + 1) f (by omega) (by omega)
theorem rtwin_l2 {d : Disk} (hs : SmallD d) : ∀ (k i f : Nat),i + k = d.Waits.length → k < f → run (ref09_Twin_l2 d) f ((d.Waits.take i).map (fun w => (⟨w.At,some w.Data⟩ : WriteO)) ++ List.replicate k ⟨0,none⟩,i) = some (d.Waits.map fun w => ⟨w.At,some w.Data⟩)
  | 0,i,f,hi,hf => by
    obtain ⟨f,rfl⟩ : ∃ q,f = q + 1:=⟨f - 1,by omega⟩
    refine Zs ?_
    unfold ref09_Twin_l2
    dsimp only
    rw [decide_eq_false (by omega),cond_false,List.take_of_length_le (by omega),List.replicate_zero,List.append_nil]
  | k + 1,i,f,hi,hf => by
    obtain ⟨f,rfl⟩ : ∃ q,f = q + 1:=⟨f - 1,by omega⟩
    have hlt : i < d.Waits.length:=by omega
    have hb:=hs.wait _ (List.getElem_mem hlt)
    have hlen : ((d.Waits.take i).map (fun w => (⟨w.At,some w.Data⟩ : WriteO))).length = i:=by rw [List.length_map,List.length_take]; omega
    have hS : ∀ z : WriteO,((d.Waits.take i).map (fun w => (⟨w.At,some w.Data⟩ : WriteO)) ++ z :: List.replicate k ⟨0,none⟩)[i]? = some z:=fun z => by
      rw [List.getElem?_append_right (by omega),hlen,Nat.sub_self]; rfl
    have hset : ∀ z y : WriteO,((d.Waits.take i).map (fun w => (⟨w.At,some w.Data⟩ : WriteO)) ++ z :: List.replicate k ⟨0,none⟩).set i y = (d.Waits.take i).map (fun w => (⟨w.At,some w.Data⟩ : WriteO)) ++ y :: List.replicate k ⟨0,none⟩:=fun z y => by
      rw [List.set_append_right _ _ (by omega),hlen,Nat.sub_self,List.set_cons_zero]
    have hl2 : ∀ z : WriteO,i < ((d.Waits.take i).map (fun w => (⟨w.At,some w.Data⟩ : WriteO)) ++ z :: List.replicate k ⟨0,none⟩).length:=fun z => by
      rw [List.length_append,hlen,List.length_cons]; omega
    have hend : (d.Waits.take i).map (fun w => (⟨w.At,some w.Data⟩ : WriteO)) ++ (⟨d.Waits[i].At,some d.Waits[i].Data⟩ : WriteO) :: List.replicate k ⟨0,none⟩ = (d.Waits.take (i + 1)).map (fun w => (⟨w.At,some w.Data⟩ : WriteO)) ++ List.replicate k ⟨0,none⟩:=by
      rw [List.take_succ_eq_append_getElem hlt,List.map_append,List.append_assoc]; rfl
    rw [run_st (s':=((d.Waits.take (i + 1)).map (fun w => (⟨w.At,some w.Data⟩ : WriteO)) ++ List.replicate k ⟨0,none⟩,i + 1)) (by
      unfold ref09_Twin_l2
      dsimp only
      rw [List.replicate_succ,decide_eq_true (by omega),cond_true,ZU _ hlt,idx_eq (y:=⟨0,none⟩) ⟨by omega,by rw [Int.toNat_natCast]; exact hS _⟩,setI_eq (by omega) (by rw [Int.toNat_natCast]; exact hl2 _),Int.toNat_natCast,hset,
        ZU _ hlt,idx_eq (y:=⟨d.Waits[i].At,none⟩) ⟨by omega,by rw [Int.toNat_natCast]; exact hS _⟩]
      dsimp only
      rw [chkN_none,Zv (by simp only [List.length_nil,Nat.zero_add]; exact lim_le' hb),List.nil_append,idx_eq (y:=⟨d.Waits[i].At,none⟩) ⟨by omega,by rw [Int.toNat_natCast]; exact hS _⟩,setI_eq (by omega) (by rw [Int.toNat_natCast]; exact hl2 _),Int.toNat_natCast,hset,hend])]
    exact rtwin_l2 hs k (i + 1) f (by omega) (by omega)
theorem ref_twin9 {d : Disk} (hs : SmallD d) : ref09_Twin d = some d:=by
  unfold ref09_Twin
  rw [mks_eq (lim_le' hs.blocks),mks_eq (lim_le' hs.waits),Option.bind_some]
  dsimp only
  rw [show loop (ref09_Twin_l1 d) (List.replicate d.Blocks.length none,0) = some (d.Blocks.map some) from loop_of (n:=2000002) (by decide) (rtwin_l1 hs d.Blocks.length 0 2000002 (by omega) (by have:=hs.blocks; omega)),Option.bind_some,
    show loop (ref09_Twin_l2 d) (List.replicate d.Waits.length ⟨0,none⟩,0) = _ from loop_of (n:=2000002) (by decide) (rtwin_l2 hs d.Waits.length 0 2000002 (by omega) (by have:=hs.waits; omega)),Option.bind_some]
  congr 1
  cases d with
  | mk B W =>
    congr 1
    · rw [List.map_map]; exact map_same (fun _ => rfl) _
    · rw [List.map_map]; exact map_same (fun _ => rfl) _
structure SmallS (s : Store) : Prop where
  disk : SmallD s.Disk
  space : s.Space.length ≤ 2000000
theorem ref_twin {s : Store} (hs : SmallS s) : ref13_Twin s = some s:=by
  unfold ref13_Twin
  rw [show (Disk.mk s.Disk.Blocks s.Disk.Waits) = s.Disk from rfl,ref_twin9 hs.disk,Option.bind_some,Zv (by simp only [List.length_nil,Nat.zero_add]; exact lim_le' hs.space)]
  rfl
end Go.Ow

/-
  What is proved here: the document's bounds, and what it sees on a disk (charterhouseref09, 10, 12, 13, 15), in plain words.
-/
namespace Go.Ow
set_option linter.unusedVariables false
set_option linter.unusedSimpArgs false

theorem and_dec {p q : Prop} [Decidable p] [Decidable q] (k : Option Bool) (h : k = some (decide q)) : (bif decide p then k else some false) = some (decide (p ∧ q)):=by
  by_cases c : p
  · rw [decide_eq_true c,cond_true,h]; congr 1; exact decide_eq_decide.2 ⟨fun e => ⟨c,e⟩,fun e => e.2⟩
  · rw [decide_eq_false c,cond_false,decide_eq_false (fun e => c e.1)]
theorem ref_place_eq (n : Int) : ref09_place n = some (decide (0 ≤ n ∧ n < 256)):=by
  unfold ref09_place
  rw [and_dec (p:=0 ≤ n) (q:=n < 256) _ rfl]; rfl
theorem may_l1 (d : Disk) : ∀ (k i f c : Nat),i + k = min d.Blocks.length 257 → k < f → c ≤ i → ∃ c' : Nat,run (ref09_May_l1 d) f ((c : Int),i) = some (c' : Int) ∧ c' ≤ 257 ∧ (c' = 0 ↔ c = 0 ∧ ∀ b ∈ (d.Blocks.drop i).take k,b.length = 256)
  | 0,i,f,c,hi,hf,hc => by
    obtain ⟨f,rfl⟩ : ∃ q,f = q + 1:=⟨f - 1,by omega⟩
    refine ⟨c,Zs ?_,by omega,by simp⟩
    unfold ref09_May_l1
    dsimp only
    by_cases h : i < d.Blocks.length
    · rw [decide_eq_true (by omega),cond_true,decide_eq_false (by omega)]; rfl
    · rw [decide_eq_false (by omega)]; rfl
  | k + 1,i,f,c,hi,hf,hc => by
    obtain ⟨f,rfl⟩ : ∃ q,f = q + 1:=⟨f - 1,by omega⟩
    have hlt : i < d.Blocks.length:=by omega
    rw [List.drop_eq_getElem_cons hlt,List.take_succ_cons]
    by_cases h : (d.Blocks[i]).length = 256
    · obtain ⟨c',h1,h2,h3⟩:=may_l1 d k (i + 1) f c (by omega) (by omega) (by omega)
      refine ⟨c',?_,h2,h3.trans ⟨fun e => ⟨e.1,fun b hb => ?_⟩,fun e => ⟨e.1,fun b hb => e.2 b (List.mem_cons_of_mem _ hb)⟩⟩⟩
      · rw [run_st (s':=((c : Int),i + 1)) (by unfold ref09_May_l1; dsimp only; rw [decide_eq_true (by omega),cond_true,decide_eq_true (by omega),cond_true,ZU _ hlt,decide_eq_true (by omega)]; rfl)]; exact h1
      · rcases List.mem_cons.1 hb with rfl | hb
        · exact h
        · exact e.2 b hb
    · obtain ⟨c',h1,h2,h3⟩:=may_l1 d k (i + 1) f (c + 1) (by omega) (by omega) (by omega)
      refine ⟨c',?_,h2,⟨fun e => by have:=(h3.1 e).1; omega,fun e => absurd (e.2 _ (List.mem_cons_self ..)) h⟩⟩
      rw [run_st (s':=(((c + 1 : Nat) : Int),i + 1)) (by unfold ref09_May_l1; dsimp only; rw [decide_eq_true (by omega),cond_true,decide_eq_true (by omega),cond_true,ZU _ hlt,decide_eq_false (by omega),Zq (by omega) (by omega)]; rfl)]; exact h1
theorem okW_iff (w : Write) : okW w = true ↔ (0 ≤ w.At ∧ w.At < 256) ∧ w.Data.length = 256:=by
  unfold okW; rw [Bool.and_eq_true,decide_eq_true_eq,decide_eq_true_eq]
theorem may_l2 (d : Disk) : ∀ (k i f c : Nat),i + k = min d.Waits.length 4097 → k < f → c ≤ i + 257 → ∃ c' : Nat,run (ref09_May_l2 d) f ((c : Int),i) = some (c' : Int) ∧ (c' = 0 ↔ c = 0 ∧ ∀ w ∈ (d.Waits.drop i).take k,okW w = true)
  | 0,i,f,c,hi,hf,hc => by
    obtain ⟨f,rfl⟩ : ∃ q,f = q + 1:=⟨f - 1,by omega⟩
    refine ⟨c,Zs ?_,by simp⟩
    unfold ref09_May_l2
    dsimp only
    by_cases h : i < d.Waits.length
    · rw [decide_eq_true (by omega),cond_true,decide_eq_false (by omega)]; rfl
    · rw [decide_eq_false (by omega)]; rfl
  | k + 1,i,f,c,hi,hf,hc => by
    obtain ⟨f,rfl⟩ : ∃ q,f = q + 1:=⟨f - 1,by omega⟩
    have hlt : i < d.Waits.length:=by omega
    rw [List.drop_eq_getElem_cons hlt,List.take_succ_cons]
    by_cases h : okW d.Waits[i] = true
    · obtain ⟨k1,k2⟩:=(okW_iff _).1 h
      obtain ⟨c',h1,h3⟩:=may_l2 d k (i + 1) f c (by omega) (by omega) (by omega)
      refine ⟨c',?_,h3.trans ⟨fun e => ⟨e.1,fun b hb => ?_⟩,fun e => ⟨e.1,fun b hb => e.2 b (List.mem_cons_of_mem _ hb)⟩⟩⟩
      · rw [run_st (s':=((c : Int),i + 1)) (by unfold ref09_May_l2; dsimp only; rw [decide_eq_true (by omega),cond_true,decide_eq_true (by omega),cond_true,ZU _ hlt,decide_eq_true (by omega),Bool.not_true,cond_false,ZU _ hlt,ref_place_eq,decide_eq_true k1]; rfl)]; exact h1
      · rcases List.mem_cons.1 hb with rfl | hb
        · exact h
        · exact e.2 b hb
    · obtain ⟨c',h1,h3⟩:=may_l2 d k (i + 1) f (c + 1) (by omega) (by omega) (by omega)
      refine ⟨c',?_,⟨fun e => by have:=(h3.1 e).1; omega,fun e => absurd (e.2 _ (List.mem_cons_self ..)) h⟩⟩
      rw [run_st (s':=(((c + 1 : Nat) : Int),i + 1)) (by
        unfold ref09_May_l2; dsimp only
        rw [decide_eq_true (by omega),cond_true,decide_eq_true (by omega),cond_true,ZU _ hlt,Zq (by omega) (by omega)]
        by_cases g : (d.Waits[i]).Data.length = 256
        · rw [decide_eq_true (by omega),Bool.not_true,cond_false,ZU _ hlt,ref_place_eq,decide_eq_false (fun e => h ((okW_iff _).2 ⟨e,g⟩))]; rfl
        · rw [decide_eq_false (by omega)]; rfl)]; exact h1
theorem ref_may9 (d : Disk) : ref09_May d = some (decide (OKD d)):=by
  unfold ref09_May
  obtain ⟨c,e1,hc,e2⟩:=may_l1 d (min d.Blocks.length 257) 0 300 0 (by omega) (by omega) (by omega)
  obtain ⟨c',e3,e4⟩:=may_l2 d (min d.Waits.length 4097) 0 4100 c (by omega) (by omega) (by omega)
  rw [show loop (ref09_May_l1 d) (0,0) = some (c : Int) from loop_of (by decide) e1,Option.bind_some,show loop (ref09_May_l2 d) ((c : Int),0) = some (c' : Int) from loop_of (by decide) e3,Option.bind_some]
  rw [List.drop_zero] at e2 e4
  by_cases h : OKD d
  · have hw : ∀ w ∈ d.Waits.take (min d.Waits.length 4097),okW w = true:=fun w hw => h.2.2.2 w (List.mem_of_mem_take hw)
    have hb : ∀ b ∈ d.Blocks.take (min d.Blocks.length 257),b.length = 256:=fun b hb => h.2.2.1 b (List.mem_of_mem_take hb)
    have h0 : c' = 0:=e4.2 ⟨e2.2 ⟨rfl,hb⟩,hw⟩
    have hB:=h.1
    have hW:=h.2.1
    rw [decide_eq_true h,h0,decide_eq_true (show ((0 : Nat) : Int) = 0 from rfl),cond_true,decide_eq_true (by omega),cond_true,decide_eq_true (by omega)]; rfl
  · rw [decide_eq_false h]
    by_cases h0 : c' = 0
    · by_cases hB : d.Blocks.length = 256
      · by_cases hW : d.Waits.length ≤ 4096
        · exfalso
          obtain ⟨k1,k2⟩:=e4.1 h0
          obtain ⟨-,k3⟩:=e2.1 k1
          rw [List.take_of_length_le (by omega)] at k2 k3
          exact h ⟨hB,hW,k3,k2⟩
        · rw [decide_eq_true (show (c' : Int) = 0 by omega),cond_true,decide_eq_true (by omega),cond_true,decide_eq_false (by omega)]; rfl
      · rw [decide_eq_true (show (c' : Int) = 0 by omega),cond_true,decide_eq_false (by omega)]; rfl
    · rw [decide_eq_false (show ¬ (c' : Int) = 0 by omega)]; rfl
theorem may12_l1 (s : List UInt8) (hs : s.length = 256) : ∀ (k i f : Nat),i + k = 256 → k < f → ∃ o,run (ref12_May_l1 s) f i = some o ∧ ((o = .inl () ∧ ∀ j y,i ≤ j → s[j]? = some y → y ≤ 2 ∧ (j < 12 → y = 1)) ∨ (o = .inr () ∧ ¬ ∀ j y,i ≤ j → s[j]? = some y → y ≤ 2 ∧ (j < 12 → y = 1)))
  | 0,i,f,hi,hf => by
    obtain ⟨f,rfl⟩ : ∃ q,f = q + 1:=⟨f - 1,by omega⟩
    refine ⟨.inl (),Zs (by unfold ref12_May_l1; rw [decide_eq_false (by omega)]; rfl),.inl ⟨rfl,fun j y hj hy => ?_⟩⟩
    rw [List.getElem?_eq_none (by omega)] at hy; cases hy
  | k + 1,i,f,hi,hf => by
    obtain ⟨f,rfl⟩ : ∃ q,f = q + 1:=⟨f - 1,by omega⟩
    have hlt : i < s.length:=by omega
    by_cases c1 : (2 : UInt8) < s[i]
    · refine ⟨.inr (),Zs (by unfold ref12_May_l1; rw [decide_eq_true (by omega),cond_true,ZU _ hlt,decide_eq_true c1]; rfl),.inr ⟨rfl,fun h => ?_⟩⟩
      exact UInt8.not_le.2 c1 (h i _ (Nat.le_refl _) (List.getElem?_eq_getElem hlt)).1
    · by_cases c2 : i < 12 ∧ ¬ s[i] = 1
      · refine ⟨.inr (),Zs (by unfold ref12_May_l1; rw [decide_eq_true (by omega),cond_true,ZU _ hlt,decide_eq_false c1,cond_false,decide_eq_true (by omega),cond_true,ZU _ hlt,decide_eq_false c2.2]; rfl),.inr ⟨rfl,fun h => ?_⟩⟩
        exact c2.2 ((h i _ (Nat.le_refl _) (List.getElem?_eq_getElem hlt)).2 c2.1)
      · obtain ⟨o,h1,h2⟩:=may12_l1 s hs k (i + 1) f (by omega) (by omega)
        have hst : run (ref12_May_l1 s) (f + 1) i = some o:=by
          rw [run_st (s':=i + 1) (by
            unfold ref12_May_l1
            rw [decide_eq_true (by omega),cond_true,ZU _ hlt,decide_eq_false c1,cond_false]
            by_cases c3 : i < 12
            · rw [decide_eq_true (by omega),cond_true,ZU _ hlt,decide_eq_true (Classical.byContradiction fun e => c2 ⟨c3,e⟩)]; rfl
            · rw [decide_eq_false (by omega),cond_false])]; exact h1
        have hiff : (∀ j y,i ≤ j → s[j]? = some y → y ≤ 2 ∧ (j < 12 → y = 1)) ↔ (∀ j y,i + 1 ≤ j → s[j]? = some y → y ≤ 2 ∧ (j < 12 → y = 1)):=by
          refine ⟨fun h j y hj => h j y (by omega),fun h j y hj hy => ?_⟩
          rcases Nat.lt_or_ge i j with hij | hij
          · exact h j y hij hy
          · have : j = i:=by omega
            subst this
            rw [List.getElem?_eq_getElem hlt] at hy
            rw [← Option.some.inj hy]
            exact ⟨UInt8.not_lt.1 c1,fun h12 => Classical.byContradiction fun e => c2 ⟨h12,e⟩⟩
        exact ⟨o,hst,h2.imp (fun e => ⟨e.1,hiff.2 e.2⟩) (fun e => ⟨e.1,fun h => e.2 (hiff.1 h)⟩)⟩
theorem okS_iff {s : List UInt8} (hs : s.length = 256) : okS s ↔ ∀ j y,0 ≤ j → s[j]? = some y → y ≤ 2 ∧ (j < 12 → y = 1):=by
  constructor
  · rintro ⟨-,h1,h2⟩ j y _ hy
    refine ⟨h1 y (List.mem_of_getElem? hy),fun hj => h2 y (List.mem_of_getElem? (i:=j) ?_)⟩
    rw [List.getElem?_take,if_pos hj]; exact hy
  · intro h
    refine ⟨hs,fun y hy => ?_,fun y hy => ?_⟩
    · obtain ⟨j,hj⟩:=List.getElem?_of_mem hy
      exact (h j y (Nat.zero_le _) hj).1
    · obtain ⟨j,hj⟩:=List.getElem?_of_mem hy
      rw [List.getElem?_take] at hj
      split at hj
      · rename_i h12; exact (h j y (Nat.zero_le _) hj).2 h12
      · cases hj
theorem ref_may12 (s : List UInt8) : ref12_May s = some (decide (okS s)):=by
  unfold ref12_May
  by_cases hs : s.length = 256
  · obtain ⟨o,h1,h2⟩:=may12_l1 s hs 256 0 300 (by omega) (by omega)
    rw [decide_eq_true (by omega),Bool.not_true,cond_false,show loop (ref12_May_l1 s) 0 = some o from loop_of (by decide) h1,Option.bind_some]
    rcases h2 with ⟨rfl,h2⟩ | ⟨rfl,h2⟩
    · rw [decide_eq_true ((okS_iff hs).2 h2)]; rfl
    · rw [decide_eq_false (fun h => h2 ((okS_iff hs).1 h))]; rfl
  · rw [decide_eq_false (by omega),decide_eq_false (fun h => hs h.1)]; rfl
theorem ref_may13 (s : Store) : ref13_May s = some (decide (OKSt s)):=by
  unfold ref13_May
  rw [show (Disk.mk s.Disk.Blocks s.Disk.Waits) = s.Disk from rfl,ref_may9,Option.bind_some,ref_may12,Option.bind_some,and_dec (p:=OKD s.Disk) _ (and_dec (p:=okS s.Space) _ (and_dec (p:=(1 : UInt32) ≤ s.Epoch) _ (and_dec (p:=s.Epoch ≤ 65535) _ rfl))),Option.bind_some]
  rfl
theorem ref_none (p : Ptr) : ref10_None p = some (decide (isNone p)):=by unfold ref10_None; rw [none_dec']
theorem ref_may10 (p : Ptr) : ref10_May p = some (decide (okP p)):=by
  unfold ref10_May
  rw [ref_none,Option.bind_some]
  have h : (bif decide (12 ≤ p.At) then bif decide (p.At < 256) then bif decide ((1 : UInt32) ≤ p.Birth) then some (decide (p.Birth ≤ (16777215 : UInt32))) else some false else some false else some false) = some (decide (okR p)) :=
    and_dec (p:=12 ≤ p.At) _ (and_dec (p:=p.At < 256) _ (and_dec (p:=(1 : UInt32) ≤ p.Birth) _ rfl))
  rw [h]
  by_cases c : isNone p
  · rw [decide_eq_true c,decide_eq_true (show okP p from .inl c)]; rfl
  · rw [decide_eq_false c]
    show some _ = _
    congr 1
    exact decide_eq_decide.2 ⟨.inr,fun e => e.resolve_left c⟩
end Go.Ow

/-
  What is proved here: what the document sees at a pointer, and how it reads pointers (charterhouseref09, 10, 13, 15), in plain words.
-/
namespace Go.Ow
set_option linter.unusedVariables false
set_option linter.unusedSimpArgs false

theorem layW_snoc (B : List (List UInt8)) (ws : List Write) (w : Write) : layW B (ws ++ [w]) = (layW B ws).set w.At.toNat w.Data:=by
  unfold layW; rw [List.foldl_append]; rfl
theorem last_run (d : Disk) (hd : OKD d) (p : Nat) (hp : p < 256) : ∀ (k f : Nat),k ≤ d.Waits.length → k < f → ∃ r,run (ref09_last_l1 d [] (p : Int)) f ((k : Int) - 1) = some r ∧
    ((r < 0 ∧ (layW d.Blocks (d.Waits.take k)).getD p [] = d.Blocks.getD p []) ∨ ∃ j : Nat,∃ hj : j < d.Waits.length,r = (j : Int) ∧ (layW d.Blocks (d.Waits.take k)).getD p [] = d.Waits[j].Data)
  | 0,f,hk,hf => by
    obtain ⟨f,rfl⟩ : ∃ q,f = q + 1:=⟨f - 1,by omega⟩
    refine ⟨-1,Zs ?_,.inl ⟨by omega,rfl⟩⟩
    unfold ref09_last_l1
    rw [decide_eq_false (by omega)]; rfl
  | k + 1,f,hk,hf => by
    obtain ⟨f,rfl⟩ : ∃ q,f = q + 1:=⟨f - 1,by omega⟩
    have hlt : k < d.Waits.length:=by omega
    have hw:=(okW_iff _).1 (hd.2.2.2 _ (List.getElem_mem hlt))
    have hL:=hd.2.1
    have e1 : ((k + 1 : Nat) : Int) - 1 = (k : Int):=by omega
    rw [e1,List.take_succ_eq_append_getElem hlt,layW_snoc]
    by_cases c : (d.Waits[k]).At = (p : Int)
    · refine ⟨(k : Int),Zs ?_,.inr ⟨k,hlt,rfl,?_⟩⟩
      · unfold ref09_last_l1
        rw [decide_eq_true (by omega),cond_true,ZU _ hlt,decide_eq_true c,cond_true]; rfl
      · rw [c,Int.toNat_natCast,getD_set (by rw [layW_length,hd.1]; omega),if_pos rfl]
    · obtain ⟨r,h1,h2⟩:=last_run d hd p hp k f (by omega) (by omega)
      refine ⟨r,?_,?_⟩
      · rw [run_st (s':=(k : Int) - 1) (by
          unfold ref09_last_l1
          rw [decide_eq_true (by omega),cond_true,ZU _ hlt,decide_eq_false c,cond_false,Option.bind_some,Sum.elim_inl,Zq (by omega) (by omega)])]; exact h1
      · rw [getD_set (by rw [layW_length,hd.1]; have:=hw.1; omega),if_neg (fun e => c (by rw [e,Int.toNat_of_nonneg hw.1.1]))]; exact h2
theorem app_nil {β : Type} {m : List UInt8} {k : List UInt8 → Option β} (h : m.length ≤ 2000000) : app [] m k = k m:=by
  rw [Zv (by simp only [List.length_nil,Nat.zero_add]; exact lim_le' h),List.nil_append]
theorem ref_seen9 {d : Disk} (hd : OKD d) (p : Nat) (hp : p < 256) : ref09_Seen d (p : Int) = some ((seenB d).getD p []):=by
  obtain ⟨r,h1,h2⟩:=last_run d hd p hp d.Waits.length 4100 (Nat.le_refl _) (by have:=hd.2.1; omega)
  have hL:=hd.2.1
  rw [List.take_of_length_le (Nat.le_refl _)] at h2
  unfold ref09_Seen ref09_left ref09_last
  rw [Zq (by omega) (by omega),show loop (ref09_last_l1 d [] (p : Int)) ((d.Waits.length : Int) - 1) = some r from loop_of (by decide) h1,Option.bind_some,Option.bind_some]
  rcases h2 with ⟨hr,h2⟩ | ⟨j,hj,rfl,h2⟩
  · have hB : p < d.Blocks.length:=by rw [hd.1]; exact hp
    have hb:=hd.2.2.1 _ (List.getElem_mem hB)
    rw [decide_eq_true hr,cond_true,ZU _ hB,app_nil (by omega),Option.bind_some]
    unfold seenB
    rw [h2,List.getD_eq_getElem?_getD,List.getElem?_eq_getElem hB]; rfl
  · have hb:=((okW_iff _).1 (hd.2.2.2 _ (List.getElem_mem hj))).2
    rw [decide_eq_false (by omega),cond_false,ZU _ hj,app_nil (by omega),Option.bind_some]
    unfold seenB
    rw [h2]
theorem ref_seen13 {s : Store} {p : Ptr} (h : OKSt s) (hp : okP p) : ref13_Seen s p = some (lookS s p):=by
  unfold ref13_Seen lookS
  rw [if_pos ⟨h,hp⟩,ref_none,Option.bind_some]
  by_cases c : isNone p
  · rw [decide_eq_true c,if_pos c]; rfl
  · have hr:=hp.resolve_left c
    obtain ⟨n,hn⟩:=Int.eq_ofNat_of_zero_le (show 0 ≤ p.At by have:=hr.1; omega)
    have hn2 : n < 256:=by have:=hr.2.1; omega
    have hl:=seen_mem h.1 hn2
    rw [decide_eq_false c,if_neg c,cond_false,show (Disk.mk s.Disk.Blocks s.Disk.Waits) = s.Disk from rfl,hn,ref_seen9 h.1 n hn2,Option.bind_some,ref_sum_eq (by omega),Option.bind_some,Int.toNat_natCast]
    by_cases e : sumOf ((seenB s.Disk).getD n []) = p.Sum
    · rw [if_pos e,nbeq e,cond_false,app_nil (by omega)]
    · rw [if_neg e,nbne e,cond_true]
end Go.Ow

/-
  What is proved here: how the document reads objects (charterhouseref10, 14, 15), in plain words.
-/
namespace Go.Ow
set_option linter.unusedVariables false
set_option linter.unusedSimpArgs false

end Go.Ow

/-
  What is proved here: what the document tells of a root (charterhouseref14, 15); the law SetTells, in plain words.
-/
namespace Go.Ow
set_option linter.unusedVariables false
set_option linter.unusedSimpArgs false

end Go.Ow

/-
  What is proved here: the law SetTells, in plain words.
-/
namespace Go.Ow
set_option linter.unusedVariables false
set_option linter.unusedSimpArgs false

theorem same09_l1 (d : Disk) : ∀ (k i n : Nat),i + k = d.Blocks.length → k < n → run (ref09_Same_l1 d d) n ((0 : Int),i) = some 0
  | 0,i,n,hi,hn => by
    obtain ⟨n,rfl⟩ : ∃ m,n = m + 1:=⟨n - 1,by omega⟩
    exact Zs (by unfold ref09_Same_l1; dsimp only; rw [decide_eq_false (by omega)]; rfl)
  | k + 1,i,n,hi,hn => by
    obtain ⟨n,rfl⟩ : ∃ m,n = m + 1:=⟨n - 1,by omega⟩
    rw [run_go (s':=((0 : Int),i + 1)) (by unfold ref09_Same_l1; dsimp only; rw [decide_eq_true (by omega),cond_true,ZU _ (show i < d.Blocks.length by omega),ZU _ (show i < d.Blocks.length by omega),nbeq rfl,cond_false])]
    exact same09_l1 d k (i + 1) n (by omega) (by omega)
theorem same09_l2 (d : Disk) : ∀ (k i n : Nat),i + k = d.Waits.length → k < n → run (ref09_Same_l2 d d) n ((0 : Int),i) = some 0
  | 0,i,n,hi,hn => by
    obtain ⟨n,rfl⟩ : ∃ m,n = m + 1:=⟨n - 1,by omega⟩
    exact Zs (by unfold ref09_Same_l2; dsimp only; rw [decide_eq_false (by omega)]; rfl)
  | k + 1,i,n,hi,hn => by
    obtain ⟨n,rfl⟩ : ∃ m,n = m + 1:=⟨n - 1,by omega⟩
    rw [run_go (s':=((0 : Int),i + 1)) (by unfold ref09_Same_l2; dsimp only; rw [decide_eq_true (by omega),cond_true,ZU _ (show i < d.Waits.length by omega),ZU _ (show i < d.Waits.length by omega),nbeq rfl,cond_false,nbeq rfl,cond_false])]
    exact same09_l2 d k (i + 1) n (by omega) (by omega)
theorem ref_same09 {d : Disk} (hs : Sized d) : ref09_Same d d = some true:=by
  unfold ref09_Same
  rw [nbeq rfl,cond_false,nbeq rfl,cond_false,show loop (ref09_Same_l1 d d) (0,0) = some 0 from same09_l1 d d.Blocks.length 0 FUEL (by omega) (Nat.lt_of_le_of_lt hs.blocks (by decide)),Option.bind_some,show loop (ref09_Same_l2 d d) (0,0) = some 0 from same09_l2 d d.Waits.length 0 FUEL (by omega) (Nat.lt_of_le_of_lt hs.waits (by decide)),Option.bind_some]
  rfl
theorem ref_same13 {s : Store} (hs : Sized s.Disk) : ref13_Same s s = some true:=by
  unfold ref13_Same
  rw [show (Disk.mk s.Disk.Blocks s.Disk.Waits) = s.Disk from rfl,ref_same09 hs,Option.bind_some,cond_true,decide_eq_true rfl,cond_true,decide_eq_true rfl,cond_true,decide_eq_true rfl]; rfl
structure FitD (d : Disk) : Prop where
  blocks : d.Blocks.length ≤ 140737488351232
  waits : d.Waits.length ≤ 140737488351232
  block : ∀ b ∈ d.Blocks,b.length ≤ 140737488351232
  wait : ∀ w ∈ d.Waits,w.Data.length ≤ 140737488351232
theorem great_l1 {d : Disk} (h : FitD d) : ∀ (k i f c : Nat),i + k = d.Blocks.length → k < f → c ≤ 140737490351232 → ∃ c' : Nat,run (ref09_Great_l1 d) f ((c : Int),i) = some (c' : Int) ∧ c ≤ c' ∧ c' ≤ 140737490351232 ∧ (c' < 2000000 → ∀ b ∈ d.Blocks.drop i,b.length ≤ c')
  | 0,i,f,c,hi,hf,hc => by
    obtain ⟨f,rfl⟩ : ∃ q,f = q + 1:=⟨f - 1,by omega⟩
    refine ⟨c,Zs ?_,Nat.le_refl _,hc,fun _ b hb => ?_⟩
    · unfold ref09_Great_l1
      dsimp only
      rw [decide_eq_false (by omega)]; rfl
    · rw [List.drop_eq_nil_of_le (by omega)] at hb; cases hb
  | k + 1,i,f,c,hi,hf,hc => by
    obtain ⟨f,rfl⟩ : ∃ q,f = q + 1:=⟨f - 1,by omega⟩
    have hlt : i < d.Blocks.length:=by omega
    have hb:=h.block _ (List.getElem_mem hlt)
    by_cases c1 : c < 2000000
    · obtain ⟨c',h1,h2,h3,h4⟩:=great_l1 h k (i + 1) f (c + (d.Blocks[i]).length) (by omega) (by omega) (by omega)
      refine ⟨c',?_,by omega,h3,fun hc' b hb' => ?_⟩
      · rw [run_st (s':=(((c + (d.Blocks[i]).length : Nat) : Int),i + 1)) (by unfold ref09_Great_l1; dsimp only; rw [decide_eq_true (by omega),cond_true,decide_eq_true (by omega),cond_true,ZU _ hlt,Zq (by omega) (by omega)]; rfl)]; exact h1
      · rw [List.drop_eq_getElem_cons hlt] at hb'
        rcases List.mem_cons.1 hb' with rfl | hb'
        · omega
        · exact h4 hc' b hb'
    · refine ⟨c,Zs ?_,Nat.le_refl _,hc,fun hc' => absurd hc' c1⟩
      unfold ref09_Great_l1
      dsimp only
      rw [decide_eq_true (by omega),cond_true,decide_eq_false (by omega)]; rfl
theorem great_l2 {d : Disk} (h : FitD d) : ∀ (k i f c : Nat),i + k = d.Waits.length → k < f → c ≤ 140737490351232 → ∃ c' : Nat,run (ref09_Great_l2 d) f ((c : Int),i) = some (c' : Int) ∧ c ≤ c' ∧ c' ≤ 140737490351232 ∧ (c' < 2000000 → ∀ w ∈ d.Waits.drop i,w.Data.length ≤ c')
  | 0,i,f,c,hi,hf,hc => by
    obtain ⟨f,rfl⟩ : ∃ q,f = q + 1:=⟨f - 1,by omega⟩
    refine ⟨c,Zs ?_,Nat.le_refl _,hc,fun _ b hb => ?_⟩
    · unfold ref09_Great_l2
      dsimp only
      rw [decide_eq_false (by omega)]; rfl
    · rw [List.drop_eq_nil_of_le (by omega)] at hb; cases hb
  | k + 1,i,f,c,hi,hf,hc => by
    obtain ⟨f,rfl⟩ : ∃ q,f = q + 1:=⟨f - 1,by omega⟩
    have hlt : i < d.Waits.length:=by omega
    have hb:=h.wait _ (List.getElem_mem hlt)
    by_cases c1 : c < 2000000
    · obtain ⟨c',h1,h2,h3,h4⟩:=great_l2 h k (i + 1) f (c + (d.Waits[i]).Data.length) (by omega) (by omega) (by omega)
      refine ⟨c',?_,by omega,h3,fun hc' b hb' => ?_⟩
      · rw [run_st (s':=(((c + (d.Waits[i]).Data.length : Nat) : Int),i + 1)) (by unfold ref09_Great_l2; dsimp only; rw [decide_eq_true (by omega),cond_true,decide_eq_true (by omega),cond_true,ZU _ hlt,Zq (by omega) (by omega)]; rfl)]; exact h1
      · rw [List.drop_eq_getElem_cons hlt] at hb'
        rcases List.mem_cons.1 hb' with rfl | hb'
        · omega
        · exact h4 hc' b hb'
    · refine ⟨c,Zs ?_,Nat.le_refl _,hc,fun hc' => absurd hc' c1⟩
      unfold ref09_Great_l2
      dsimp only
      rw [decide_eq_true (by omega),cond_true,decide_eq_false (by omega)]; rfl
theorem great_small {d : Disk} (h : FitD d) (hg : ref09_Great d = some false) : SmallD d:=by
  have hb:=h.blocks
  have hw:=h.waits
  obtain ⟨c,e1,-,e3,e4⟩:=great_l1 h d.Blocks.length 0 (d.Blocks.length + 1) 0 (by omega) (by omega) (by omega)
  obtain ⟨c',f1,f2,f3,f4⟩:=great_l2 h d.Waits.length 0 (d.Waits.length + 1) c (by omega) (by omega) (by omega)
  have hF : FUEL = 18446744073709551616:=rfl
  unfold ref09_Great at hg
  rw [show loop (ref09_Great_l1 d) (0,0) = some (c : Int) from loop_of (by omega) e1,Option.bind_some,show loop (ref09_Great_l2 d) ((c : Int),0) = some (c' : Int) from loop_of (by omega) f1,Option.bind_some] at hg
  rw [List.drop_zero] at e4 f4
  have fin : ∀ x : Option (Unit ⊕ Unit),x = some (.inl ()) ∨ x = some (.inr ()) → (Option.bind x fun t_5 => Sum.elim (fun _ => some (decide (2000000 ≤ (c' : Int)))) (fun _ => some true) t_5) = some false → x = some (.inl ()) ∧ c' < 2000000:=by
    rintro x (rfl | rfl) hx
    · refine ⟨rfl,?_⟩
      have:=of_decide_eq_false (Option.some.inj hx)
      omega
    · cases hx
  by_cases k1 : (500 : Int) < (d.Blocks.length : Int)
  · rw [decide_eq_true k1] at hg; cases hg
  by_cases k2 : (4106 : Int) < (d.Waits.length : Int)
  · rw [decide_eq_false k1,decide_eq_true (show (500 : Int) < (d.Waits.length : Int) by omega),decide_eq_false (show ¬ (d.Waits.length : Int) < 4096 by omega),decide_eq_true k2] at hg; cases hg
  have hc : c' < 2000000:=by
    refine (fin _ ?_ hg).2
    rw [decide_eq_false k1,cond_false,decide_eq_false k2]
    by_cases k3 : (500 : Int) < (d.Waits.length : Int)
    · rw [decide_eq_true k3,cond_true]
      by_cases k4 : (d.Waits.length : Int) < 4096
      · rw [decide_eq_true k4]; exact .inr rfl
      · rw [decide_eq_false k4]; exact .inl rfl
    · rw [decide_eq_false k3]; exact .inl rfl
  exact ⟨by omega,by omega,fun b hb => by have:=e4 (by omega) b hb; omega,fun w hw => by have:=f4 hc w hw; omega⟩
theorem great13_small {s : Store} (h : FitD s.Disk) (hg : ref13_Great s = some false) : SmallS s:=by
  unfold ref13_Great at hg
  rw [show (Disk.mk s.Disk.Blocks s.Disk.Waits) = s.Disk from rfl] at hg
  cases e : ref09_Great s.Disk with
  | none => rw [e] at hg; cases hg
  | some g =>
    rw [e] at hg
    cases g with
    | true => cases hg
    | false =>
      refine ⟨great_small h e,?_⟩
      have : decide ((10000 : Int) < (s.Space.length : Int)) = false:=Option.some.inj hg
      have:=of_decide_eq_false this
      omega
end Go.Ow

/-
  What is proved here: the document's numbers, keys, streams, tags and seals (charterhouseref01, 02, 03, 05, 06) are the program's, in plain words.
-/
namespace Go.Ow
set_option linter.unusedVariables false
set_option linter.unusedSimpArgs false

theorem room_n : ∀ (k n : Nat),k < n → k ≤ 6 → ref01_Room_n n (k : Int) = some ((256 ^ k : Nat) : Int)
  | 0,n,h,_ => by
    obtain ⟨n,rfl⟩ : ∃ q,n = q + 1:=⟨n - 1,by omega⟩
    rfl
  | k + 1,n,h,hk => by
    obtain ⟨n,rfl⟩ : ∃ q,n = q + 1:=⟨n - 1,by omega⟩
    have ih:=room_n k n (by omega) (by omega)
    have hp : 256 ^ k ≤ 256 ^ 5:=Nat.pow_le_pow_right (by omega) (by omega)
    have hp' : (256 : Nat) ^ 5 = 1099511627776:=by decide
    rw [Nat.pow_succ]
    show ref01_Room_b (ref01_Room_n n) ((k + 1 : Nat) : Int) = _
    generalize 256 ^ k = P at *
    unfold ref01_Room_b
    rw [decide_eq_false (by omega),cond_false,Zq (by omega) (by omega),show ((k + 1 : Nat) : Int) - 1 = (k : Int) by omega,ih,Option.bind_some,Zq (by omega) (by omega)]
    congr 1
    omega
theorem room_eq {k : Nat} (h : k ≤ 6) : ref01_Room (k : Int) = some ((256 ^ k : Nat) : Int):=by
  have hF : FUEL = 18446744073709551616:=rfl
  exact room_n k FUEL (by omega) h
theorem leB_get : ∀ (k n i : Nat),i < k → (leB n k)[i]? = some (UInt8.ofNat (n / 256 ^ i))
  | 0,n,i,h => by omega
  | k + 1,n,0,h => by simp [leB]
  | k + 1,n,i + 1,h => by
    show (leB (n / 256) k)[i]? = _
    rw [leB_get k (n / 256) i (by omega),Nat.div_div_eq_div_mul,Nat.pow_succ,Nat.mul_comm]
theorem take_succ_get {α : Type} {l : List α} {i : Nat} {y : α} (h : l[i]? = some y) : l.take (i + 1) = l.take i ++ [y]:=by
  obtain ⟨hlt,e⟩:=List.getElem?_eq_some_iff.1 h
  rw [List.take_succ_eq_append_getElem hlt,e]
theorem byte_div {n P : Nat} (hn : n < 4294967296) (hP : 0 < P) : u8i ((w64 ((n : Int).tdiv (P : Int))).tmod 256) = UInt8.ofNat (n / P):=by
  have hd : n / P ≤ n:=Nat.div_le_self _ _
  rw [Int.tdiv_eq_ediv_of_nonneg (by omega),show ((n : Int) / (P : Int)) = ((n / P : Nat) : Int) from rfl]
  generalize n / P = d at *
  rw [Zq (by omega) (by omega),Int.tmod_eq_emod_of_nonneg (by omega),show ((d : Int) % 256) = ((d % 256 : Nat) : Int) by omega,u8i_nat]
  apply UInt8.toNat_inj.1
  rw [UInt8.toNat_ofNat',UInt8.toNat_ofNat']; omega
theorem bytes01_run {n m : Nat} (hn : n < 4294967296) (hm : m ≤ 4) : ∀ (k i f : Nat),i + k = m → k < f → run (ref01_Bytes_l1 (n : Int) (m : Int)) f ((leB n m).take i ++ List.replicate k 0,(i : Int)) = some (leB n m)
  | 0,i,f,hi,hf => by
    obtain ⟨f,rfl⟩ : ∃ q,f = q + 1:=⟨f - 1,by omega⟩
    refine Zs ?_
    unfold ref01_Bytes_l1
    dsimp only
    rw [decide_eq_false (by omega),cond_false,List.take_of_length_le (by rw [Zb]; omega),List.replicate_zero,List.append_nil]
  | k + 1,i,f,hi,hf => by
    obtain ⟨f,rfl⟩ : ∃ q,f = q + 1:=⟨f - 1,by omega⟩
    have hlen : ((leB n m).take i).length = i:=by rw [List.length_take,Zb]; omega
    have hpos : 0 < 256 ^ i:=Nat.pow_pos (by omega)
    have hp : 256 ^ i ≤ 256 ^ 4:=Nat.pow_le_pow_right (by omega) (by omega)
    have hp' : (256 : Nat) ^ 4 = 4294967296:=by decide
    have hd : n / 256 ^ i ≤ n:=Nat.div_le_self _ _
    have hv:=byte_div (n:=n) (P:=256 ^ i) hn hpos
    have hset : ((leB n m).take i ++ List.replicate (k + 1) (0 : UInt8)).set i (UInt8.ofNat (n / 256 ^ i)) = (leB n m).take (i + 1) ++ List.replicate k 0:=by
      rw [List.set_append_right _ _ (by omega),hlen,Nat.sub_self,List.replicate_succ,List.set_cons_zero,take_succ_get (leB_get m n i (by omega)),List.append_assoc]; rfl
    rw [run_st (s':=((leB n m).take (i + 1) ++ List.replicate k 0,((i + 1 : Nat) : Int))) (by
      unfold ref01_Bytes_l1
      dsimp only
      rw [decide_eq_true (by omega),cond_true,room_eq (by omega),Option.bind_some,chk_eq (by omega),chk_eq ⟨by omega,by rw [Int.toNat_natCast,List.length_append,hlen,List.length_replicate]; omega⟩,setI_eq (by omega) (by rw [Int.toNat_natCast,List.length_append,hlen,List.length_replicate]; omega),hv,Int.toNat_natCast,hset,Zq (by omega) (by omega)]
      rfl)]
    exact bytes01_run hn hm k (i + 1) f (by omega) (by omega)
theorem ref_bytes01 {n m : Nat} (hn : n < 4294967296) (hm : m ≤ 4) : ref01_Bytes (n : Int) (m : Int) = some (leB n m):=by
  unfold ref01_Bytes
  have:=bytes01_run hn hm m 0 10 (by omega) (by omega)
  rw [List.take_zero,List.nil_append] at this
  rw [mks_eq (by unfold LIM; omega),show loop (ref01_Bytes_l1 (n : Int) (m : Int)) (List.replicate m 0,0) = some (leB n m) from loop_of (by decide) this,Option.bind_some]
def keyP (x : A4 UInt32) : List UInt8:=leB x.e0.toNat 4 ++ leB x.e1.toNat 4 ++ leB x.e2.toNat 4 ++ leB x.e3.toNat 4
theorem mix_Key_is {b : List UInt8} (h : b.length ≤ 10000) : mix_Key b = some (keyP (fourP b)):=by
  unfold mix_Key
  rw [mix_four_eq h,Option.bind_some]
  generalize fourP b = x
  have l0:=Zb x.e0.toNat 4
  have l1:=Zb x.e1.toNat 4
  have l2:=Zb x.e2.toNat 4
  have l3:=Zb x.e3.toNat 4
  have hl : x.l = [x.e0,x.e1,x.e2,x.e3]:=rfl
  have r : run (mix_Key_l1 x) 5 (([] : List UInt8),0) = some (keyP x):=by
    rw [run_st (s':=(leB x.e0.toNat 4,1)) (by unfold mix_Key_l1; dsimp only; rw [hl,decide_eq_true (by decide),cond_true,ZU _ (by simp)]; show Option.bind (code_Put (x.e0.toNat : Int) 4) _ = _; rw [put4,Option.bind_some,Zv (lim_le (by simp [Zb])),List.nil_append]),
      run_st (s':=(leB x.e0.toNat 4 ++ leB x.e1.toNat 4,2)) (by unfold mix_Key_l1; dsimp only; rw [hl,decide_eq_true (by decide),cond_true,ZU _ (by simp)]; show Option.bind (code_Put (x.e1.toNat : Int) 4) _ = _; rw [put4,Option.bind_some,Zv (lim_le (by simp [Zb]))]),
      run_st (s':=(leB x.e0.toNat 4 ++ leB x.e1.toNat 4 ++ leB x.e2.toNat 4,3)) (by unfold mix_Key_l1; dsimp only; rw [hl,decide_eq_true (by decide),cond_true,ZU _ (by simp)]; show Option.bind (code_Put (x.e2.toNat : Int) 4) _ = _; rw [put4,Option.bind_some,Zv (lim_le (by simp [Zb]))]),
      run_st (s':=(keyP x,4)) (by unfold mix_Key_l1; dsimp only; rw [hl,decide_eq_true (by decide),cond_true,ZU _ (by simp)]; show Option.bind (code_Put (x.e3.toNat : Int) 4) _ = _; rw [put4,Option.bind_some,Zv (lim_le (by simp [Zb]))]; rfl)]
    exact Zs (by unfold mix_Key_l1; dsimp only; rw [decide_eq_false (by decide),cond_false])
  rw [show loop (mix_Key_l1 x) (([] : List UInt8),0) = some (keyP x) from loop_of (by decide) r,Option.bind_some]
theorem keyP_of {b : List UInt8} (h : b.length ≤ 10000) : keyOf b = keyP (fourP b):=by
  unfold keyOf; rw [mix_Key_is h]; rfl
def shr8 (y : UInt32) : Nat → UInt32
  | 0 => y
  | k + 1 => shr8 (y / 256) k
theorem shr8_nat : ∀ (k : Nat) (y : UInt32),(shr8 y k).toNat = y.toNat / 256 ^ k
  | 0,y => by simp [shr8]
  | k + 1,y => by
    unfold shr8
    rw [shr8_nat k,UInt32.toNat_div,show (256 : UInt32).toNat = 256 from rfl,Nat.div_div_eq_div_mul,Nat.pow_succ,Nat.mul_comm]
theorem key_l1 (s : List UInt8 × Nat) {q : Nat} (hq : s.2 % 4 = q) : ∀ (k i f : Nat) (y : UInt32),i + k = q → k < f → run (ref02_Key_l1 s) f (y,(i : Int)) = some (shr8 y k)
  | 0,i,f,y,hi,hf => by
    obtain ⟨f,rfl⟩ : ∃ q,f = q + 1:=⟨f - 1,by omega⟩
    refine Zs ?_
    unfold ref02_Key_l1
    dsimp only
    rw [Int.tmod_eq_emod_of_nonneg (by omega),decide_eq_false (by omega)]; rfl
  | k + 1,i,f,y,hi,hf => by
    obtain ⟨f,rfl⟩ : ∃ q,f = q + 1:=⟨f - 1,by omega⟩
    rw [run_st (s':=(y / 256,((i + 1 : Nat) : Int))) (by
      unfold ref02_Key_l1
      dsimp only
      rw [Int.tmod_eq_emod_of_nonneg (by omega),decide_eq_true (by omega),cond_true,Zq (by omega) (by omega)]; rfl)]
    exact key_l1 s hq k (i + 1) f (y / 256) (by omega) (by omega)
theorem keyP_length (x : A4 UInt32) : (keyP x).length = 16:=by unfold keyP; simp only [List.length_append,Zb]
theorem keyP_get (x : A4 UInt32) {i : Nat} (h : i < 16) : ∃ y,x.l[i / 4]? = some y ∧ (keyP x)[i]? = some ((shr8 y (i % 4) % 256).toUInt8):=by
  have key : ∀ (y : UInt32) (k : Nat),k < 4 → (leB y.toNat 4)[k]? = some ((shr8 y k % 256).toUInt8):=fun y k hk => by
    rw [leB_get 4 y.toNat k hk]
    congr 1
    apply UInt8.toNat_inj.1
    rw [UInt8.toNat_ofNat',UInt32.toNat_toUInt8,UInt32.toNat_mod,show (256 : UInt32).toNat = 256 from rfl,shr8_nat]; omega
  have l0:=Zb x.e0.toNat 4
  have l1:=Zb x.e1.toNat 4
  have l2:=Zb x.e2.toNat 4
  unfold keyP
  rcases Nat.lt_or_ge i 4 with c | c
  · refine ⟨x.e0,by rw [show i / 4 = 0 by omega]; rfl,?_⟩
    rw [List.getElem?_append_left (by simp only [List.length_append]; omega),List.getElem?_append_left (by simp only [List.length_append]; omega),List.getElem?_append_left (by omega),key _ _ c,show i % 4 = i by omega]
  rcases Nat.lt_or_ge i 8 with c2 | c2
  · refine ⟨x.e1,by rw [show i / 4 = 1 by omega]; rfl,?_⟩
    rw [List.getElem?_append_left (by simp only [List.length_append]; omega),List.getElem?_append_left (by simp only [List.length_append]; omega),List.getElem?_append_right (by omega),l0,key _ _ (by omega),show i % 4 = i - 4 by omega]
  rcases Nat.lt_or_ge i 12 with c3 | c3
  · refine ⟨x.e2,by rw [show i / 4 = 2 by omega]; rfl,?_⟩
    rw [List.getElem?_append_left (by simp only [List.length_append]; omega),List.getElem?_append_right (by simp only [List.length_append]; omega),List.length_append,l0,l1,key _ _ (by omega),show i % 4 = i - (4 + 4) by omega]
  · refine ⟨x.e3,by rw [show i / 4 = 3 by omega]; rfl,?_⟩
    rw [List.getElem?_append_right (by simp only [List.length_append]; omega),List.length_append,List.length_append,l0,l1,l2,key _ _ (by omega),show i % 4 = i - (4 + 4 + 4) by omega]
theorem key_l2 (x : A4 UInt32) : ∀ (k i f : Nat),i + k = 16 → k < f → run (ref02_Key_l2 x) f ((keyP x).take i,i) = some (keyP x)
  | 0,i,f,hi,hf => by
    obtain ⟨f,rfl⟩ : ∃ q,f = q + 1:=⟨f - 1,by omega⟩
    refine Zs ?_
    unfold ref02_Key_l2
    dsimp only
    rw [decide_eq_false (by omega),cond_false,List.take_of_length_le (by rw [keyP_length]; omega)]
  | k + 1,i,f,hi,hf => by
    obtain ⟨f,rfl⟩ : ∃ q,f = q + 1:=⟨f - 1,by omega⟩
    obtain ⟨y,h1,h2⟩:=keyP_get x (i:=i) (by omega)
    rw [run_st (s':=((keyP x).take (i + 1),i + 1)) (by
      unfold ref02_Key_l2
      dsimp only
      rw [decide_eq_true (by omega),cond_true,Int.tdiv_eq_ediv_of_nonneg (by omega),Zq (by omega) (by omega),idx_eq (y:=y) ⟨by omega,by rw [show (((i : Nat) : Int) / 4).toNat = i / 4 by omega]; exact h1⟩,
        show loop (ref02_Key_l1 ((keyP x).take i,i)) (y,0) = some (shr8 y (i % 4)) from loop_of (n:=5) (by decide) (key_l1 ((keyP x).take i,i) (q:=i % 4) rfl (i % 4) 0 5 y (by omega) (by omega)),Option.bind_some,Zv (lim_le (by simp; omega)),← take_succ_get h2])]
    exact key_l2 x k (i + 1) f (by omega) (by omega)
theorem ref_key {b : List UInt8} (h : b.length ≤ 10000) : ref02_Key b = some (keyOf b):=by
  unfold ref02_Key
  rw [ref_four_eq h,Option.bind_some,show loop (ref02_Key_l2 (fourP b)) (([] : List UInt8),0) = some (keyP (fourP b)) from loop_of (n:=20) (by decide) (key_l2 (fourP b) 16 0 20 (by omega) (by omega)),Option.bind_some,keyP_of h]
end Go.Ow

/-
  What is proved here: the document's streams, tags and seals (charterhouseref03, 05, 06) are the program's, in plain words.
-/
namespace Go.Ow
set_option linter.unusedVariables false
set_option linter.unusedSimpArgs false

theorem stream05_run {key : List UInt8} (hk : key.length = 16) {iv : UInt32} {n : Nat} (hn : n ≤ 4096) : ∀ (k j f : Nat),j + k = (n + 15) / 16 → k < f → run (ref05_Bytes_l1 key iv (n : Int)) f (pieces key iv j,(j : Int)) = some (pieces key iv ((n + 15) / 16))
  | 0,j,f,hj,hf => by
    obtain ⟨f,rfl⟩ : ∃ q,f = q + 1:=⟨f - 1,by omega⟩
    refine Zs ?_
    unfold ref05_Bytes_l1
    dsimp only
    rw [Zq (by omega) (by omega),decide_eq_false (by omega),cond_false,show j = (n + 15) / 16 by omega]
  | k + 1,j,f,hj,hf => by
    obtain ⟨f,rfl⟩ : ∃ q,f = q + 1:=⟨f - 1,by omega⟩
    have hiv : iv.toNat < 4294967296:=iv.toNat_lt
    have l1:=Zb iv.toNat 4
    have l2:=Zb j 4
    have hp:=pieces_length (iv:=iv) hk j
    have hq:=pieceK_length (iv:=iv) (j:=j) hk
    rw [run_st (s':=(pieces key iv (j + 1),((j + 1 : Nat) : Int))) (by
      unfold ref05_Bytes_l1
      dsimp only
      rw [Zq (n:=16 * (j : Int)) (by omega) (by omega),decide_eq_true (by omega),cond_true,app_nil (by omega),show (4 : Int) = ((4 : Nat) : Int) from rfl,ref_bytes01 hiv (by omega),Option.bind_some,Zv (lim_le (by omega)),ref_bytes01 (by omega) (by omega),Option.bind_some,
        Zv (lim_le (by simp only [List.length_append]; omega)),ref_key (by simp only [List.length_append]; omega),Option.bind_some,Zv (lim_le (by show (pieces key iv j).length + (pieceK key iv j).length ≤ 1000000; omega)),Zq (by omega) (by omega)]
      rfl)]
    exact stream05_run hk hn k (j + 1) f (by omega) (by omega)
theorem ref_bytes05 {key : List UInt8} (hk : key.length = 16) {iv : UInt32} {n : Nat} (hn : n ≤ 4096) : ref05_Bytes key iv (n : Int) = some (streamB key iv n):=by
  have hp:=pieces_length (iv:=iv) hk ((n + 15) / 16)
  unfold ref05_Bytes
  rw [show loop (ref05_Bytes_l1 key iv (n : Int)) (([] : List UInt8),0) = some (pieces key iv ((n + 15) / 16)) from loop_of (n:=300) (by decide) (stream05_run hk hn ((n + 15) / 16) 0 300 (by omega) (by omega)),Option.bind_some,slc_eq (by omega) (by omega) (by omega)]
  unfold streamB
  rw [show cut (pieces key iv ((n + 15) / 16)) 0 (n : Int) = (pieces key iv ((n + 15) / 16)).take n from by simp [cut]]
theorem turned05_run (b s : List UInt8) (hl : s.length = b.length) (hb : b.length ≤ 4096) : ∀ (k i f : Nat),i + k = b.length → k < f → run (ref05_Turned_l1 b s) f ((List.zipWith (· ^^^ ·) s b).take i,i) = some (List.zipWith (· ^^^ ·) s b)
  | 0,i,f,hi,hf => by
    obtain ⟨f,rfl⟩ : ∃ q,f = q + 1:=⟨f - 1,by omega⟩
    refine Zs ?_
    unfold ref05_Turned_l1
    dsimp only
    rw [decide_eq_false (by omega),cond_false,List.take_of_length_le (by rw [List.length_zipWith]; omega)]
  | k + 1,i,f,hi,hf => by
    obtain ⟨f,rfl⟩ : ∃ q,f = q + 1:=⟨f - 1,by omega⟩
    have hlt : i < b.length:=by omega
    have hz : (List.zipWith (· ^^^ ·) s b)[i]? = some (b[i] ^^^ s[i]'(by omega)):=by
      rw [List.getElem?_zipWith,List.getElem?_eq_getElem (show i < s.length by omega),List.getElem?_eq_getElem hlt]
      show some (s[i]'(by omega) ^^^ b[i]) = _
      rw [UInt8.xor_comm]
    rw [run_st (s':=((List.zipWith (· ^^^ ·) s b).take (i + 1),i + 1)) (by
      unfold ref05_Turned_l1
      dsimp only
      rw [decide_eq_true (by omega),cond_true,ZU _ hlt,ZU _ (show i < s.length by omega),Zv (lim_le (by simp; omega)),← take_succ_get hz])]
    exact turned05_run b s hl hb k (i + 1) f (by omega) (by omega)
theorem ref_turned05 {key : List UInt8} (hk : key.length = 16) {iv : UInt32} {b : List UInt8} (hb : b.length ≤ 4096) : ref05_Turned key iv b = some (turnB key iv b):=by
  have hl:=streamB_length (iv:=iv) (n:=b.length) hk
  unfold ref05_Turned
  rw [ref_bytes05 hk hb,Option.bind_some,show loop (ref05_Turned_l1 b (streamB key iv b.length)) (([] : List UInt8),0) = some (List.zipWith (· ^^^ ·) (streamB key iv b.length) b) from loop_of (n:=4098) (by decide) (turned05_run b _ hl hb b.length 0 4098 (by omega) (by omega)),Option.bind_some]
  rfl
theorem ref_of03 {key m : List UInt8} (hk : key.length = 16) (hm : m.length ≤ 9000) : ref03_Of key m = some (tagB key m):=by
  have hq : (keyOf (key ++ [1] ++ m)).length = 16:=keyOf_length (by simp only [List.length_append,List.length_cons,List.length_nil]; omega)
  unfold ref03_Of ref03_Inner
  rw [app_nil (by omega),Zv (lim_le (by simp; omega)),app_nil (by omega),Zv (lim_le (by simp; omega)),Zv (lim_le (by simp; omega)),ref_key (by simp; omega),Option.bind_some,Option.bind_some,Zv (lim_le (by simp only [List.length_append,hq,List.length_cons,List.length_nil]; omega)),ref_sum_eq (by simp only [List.length_append,hq,List.length_cons,List.length_nil]; omega),Option.bind_some]
  rfl
theorem ref_tag06 {key : List UInt8} (hk : key.length = 16) {iv : UInt32} {c : List UInt8} (hc : c.length ≤ 4096) : ref06_Tag key iv c = some (sealT key iv c):=by
  have hiv : iv.toNat < 4294967296:=iv.toNat_lt
  have l1:=Zb iv.toNat 4
  unfold ref06_Tag
  rw [show (4 : Int) = ((4 : Nat) : Int) from rfl,ref_bytes01 hiv (by omega),Option.bind_some,Zv (lim_le (by omega)),ref_of03 hk (by rw [List.length_append]; omega),Option.bind_some]
  rfl
end Go.Ow

/-
  What is proved here: the document lays and seals blocks as the program does (charterhouseref12, 13); the law StoreWrites, in plain words.
-/
namespace Go.Ow
set_option linter.unusedVariables false
set_option linter.unusedSimpArgs false

theorem noS_sized : Sized noS.Disk:=⟨by simp [noS],by simp [noS],by simp [noS]⟩
end Go.Ow

/-
  What is proved here: the document seals blocks as the program does; the law StoreWrites, in plain words.
-/
namespace Go.Ow
set_option linter.unusedVariables false
set_option linter.unusedSimpArgs false

theorem spoil_l1 (s : Store) : ∀ (k i f : Nat),i + k = s.Disk.Blocks.length → k < f → run (law13_spoil_l1 s) f i = some ()
  | 0,i,f,hi,hf => by
    obtain ⟨f,rfl⟩ : ∃ q,f = q + 1:=⟨f - 1,by omega⟩
    exact Zs (by unfold law13_spoil_l1; rw [decide_eq_false (by omega)]; rfl)
  | k + 1,i,f,hi,hf => by
    obtain ⟨f,rfl⟩ : ∃ q,f = q + 1:=⟨f - 1,by omega⟩
    have hlt : i < s.Disk.Blocks.length:=by omega
    rw [run_st (s':=i + 1) (by
      unfold law13_spoil_l1
      rw [decide_eq_true (by omega),cond_true,ZU _ hlt]
      by_cases c : 0 < (s.Disk.Blocks[i]).length
      · rw [decide_eq_true (by omega),cond_true,ZU _ hlt,ZU _ hlt,show (0 : Int) = ((0 : Nat) : Int) from rfl,ZU _ c,ZU _ c]
      · rw [decide_eq_false (by omega),cond_false])]
    exact spoil_l1 s k (i + 1) f (by omega) (by omega)
theorem spoil_l2 (s : Store) : ∀ (k i f : Nat),i + k = s.Disk.Waits.length → k < f → run (law13_spoil_l2 s) f i = some ()
  | 0,i,f,hi,hf => by
    obtain ⟨f,rfl⟩ : ∃ q,f = q + 1:=⟨f - 1,by omega⟩
    exact Zs (by unfold law13_spoil_l2; rw [decide_eq_false (by omega)]; rfl)
  | k + 1,i,f,hi,hf => by
    obtain ⟨f,rfl⟩ : ∃ q,f = q + 1:=⟨f - 1,by omega⟩
    have hlt : i < s.Disk.Waits.length:=by omega
    rw [run_st (s':=i + 1) (by
      unfold law13_spoil_l2
      rw [decide_eq_true (by omega),cond_true,ZU _ hlt]
      by_cases c : 0 < (s.Disk.Waits[i]).Data.length
      · rw [decide_eq_true (by omega),cond_true,ZU _ hlt,ZU _ hlt,show (0 : Int) = ((0 : Nat) : Int) from rfl,ZU _ c,ZU _ c]
      · rw [decide_eq_false (by omega),cond_false])]
    exact spoil_l2 s k (i + 1) f (by omega) (by omega)
theorem spoil_l3 (s : Store) : ∀ (k i f : Nat),i + k = s.Space.length → k < f → run (law13_spoil_l3 s) f i = some ()
  | 0,i,f,hi,hf => by
    obtain ⟨f,rfl⟩ : ∃ q,f = q + 1:=⟨f - 1,by omega⟩
    exact Zs (by unfold law13_spoil_l3; rw [decide_eq_false (by omega)]; rfl)
  | k + 1,i,f,hi,hf => by
    obtain ⟨f,rfl⟩ : ∃ q,f = q + 1:=⟨f - 1,by omega⟩
    have hlt : i < s.Space.length:=by omega
    rw [run_st (s':=i + 1) (by
      unfold law13_spoil_l3
      rw [decide_eq_true (by omega),cond_true,ZU _ hlt,ZU _ hlt])]
    exact spoil_l3 s k (i + 1) f (by omega) (by omega)
def fine (s : Store) : Prop:=Sized s.Disk ∧ s.Space.length ≤ 1000000
theorem spoil_eq {s : Store} (h : fine s) : law13_spoil s = some ():=by
  have hF : FUEL = 18446744073709551616:=rfl
  have h1:=h.1.blocks
  have h2:=h.1.waits
  have h3:=h.2
  unfold law13_spoil
  rw [show loop (law13_spoil_l1 s) 0 = some () from spoil_l1 s s.Disk.Blocks.length 0 FUEL (by omega) (by omega),Option.bind_some,show loop (law13_spoil_l2 s) 0 = some () from spoil_l2 s s.Disk.Waits.length 0 FUEL (by omega) (by omega),Option.bind_some,show loop (law13_spoil_l3 s) 0 = some () from spoil_l3 s s.Space.length 0 FUEL (by omega) (by omega),Option.bind_some]
end Go.Ow

/-
  What is proved here: the document's looking, opening and checking are the program's.
-/
namespace Go.Ow
set_option linter.unusedVariables false
set_option linter.unusedSimpArgs false

theorem ref_check_is (s : Store) : ref13_Check s = some (if OKSt s then 0 else 8):=by
  unfold ref13_Check
  rw [ref_may13,Option.bind_some]
  by_cases c : OKSt s
  · rw [decide_eq_true c,if_pos c]; rfl
  · rw [decide_eq_false c,if_neg c]; rfl
theorem lookS_no {s : Store} {p : Ptr} (h : ¬ (OKSt s ∧ okP p)) : lookS s p = ([],8):=by
  unfold lookS
  rw [if_neg (show ¬ (OKSt s ∧ (isNone p ∨ okR p)) from h)]
theorem ref_look_is (s : Store) (p : Ptr) : ref13_Look s p = some (lookS s p):=by
  unfold ref13_Look
  rw [ref_may13,Option.bind_some]
  by_cases c : OKSt s
  · rw [decide_eq_true c,Bool.not_true,cond_false,ref_may10,Option.bind_some]
    by_cases d : okP p
    · rw [decide_eq_true d,Bool.not_true,cond_false,ref_seen13 c d,Option.bind_some]
    · rw [decide_eq_false d,lookS_no (fun h => d h.2)]; rfl
  · rw [decide_eq_false c,lookS_no (fun h => c h.1)]; rfl
theorem lookS_len {s : Store} {p : Ptr} (h : (lookS s p).2 = 0) : (lookS s p).1.length = 256:=by
  unfold lookS at h ⊢
  by_cases c : OKSt s ∧ (isNone p ∨ okR p)
  · rw [if_pos c] at h ⊢
    by_cases d : isNone p
    · rw [if_pos d] at h; cases h
    · rw [if_neg d] at h ⊢
      by_cases e : sumOf ((seenB s.Disk).getD p.At.toNat []) = p.Sum
      · rw [if_pos e]
        have hr:=c.2.resolve_left d
        exact seen_mem c.1.1 (by have:=hr.1; have:=hr.2.1; omega)
      · rw [if_neg e] at h; cases h
  · rw [if_neg c] at h; cases h
theorem ref_open_is (s : Store) (p : Ptr) (key : List UInt8) : ref13_Open s p key = some (openS s p key):=by
  unfold ref13_Open openS
  rw [ref_may13,Option.bind_some]
  by_cases c : OKSt s
  · rw [decide_eq_true c,Bool.not_true,cond_false,ref_may10,Option.bind_some]
    by_cases d : okP p
    · rw [decide_eq_true d,Bool.not_true,cond_false]
      unfold ref13_Opened
      rw [ref_seen13 c d,Option.bind_some]
      by_cases e : (lookS s p).2 = 0
      · have hl:=lookS_len e
        rw [if_pos e,nbeq e,cond_false]
        by_cases k : key.length = 16
        · rw [if_pos k,nbeq (by omega),cond_false]
          unfold ref06_Open ref06_asked
          rw [nbeq (by omega),cond_false,decide_eq_false (by omega),cond_false,Option.bind_some,zdec,cond_false,ref_tag06 k (by omega),Option.bind_some]
          by_cases t : sealT key p.Iv (lookS s p).1 = p.Tag
          · rw [if_pos t,nbeq t,cond_false,ref_turned05 k (by omega)]; rfl
          · rw [if_neg t,nbne t]; rfl
        · rw [if_neg k,nbne (by omega)]; rfl
      · rw [if_neg e,nbne e]; rfl
    · rw [decide_eq_false d,lookS_no (fun h => d h.2)]; rfl
  · rw [decide_eq_false c,lookS_no (fun h => c h.1)]; rfl
end Go.Ow

/-
  What is proved here: two stores are compared: the program and the document both tell whether they are equal.
-/
namespace Go.Ow
set_option linter.unusedVariables false
set_option linter.unusedSimpArgs false

theorem cmpB_zero : ∀ {a b : List UInt8},cmpB a b = 0 → a = b
  | [],[],_ => rfl
  | [],_ :: _,h => by unfold cmpB at h; cases h
  | _ :: _,[],h => by unfold cmpB at h; cases h
  | a :: l,b :: m,h => by
    unfold cmpB at h
    split at h
    · cases h
    · split at h
      · cases h
      · rename_i h1 h2
        have : a = b:=by
          apply UInt8.toNat_inj.1
          have h1':=UInt8.not_lt.1 h1
          have h2':=UInt8.not_lt.1 h2
          rw [UInt8.le_iff_toNat_le] at h1' h2'
          omega
        rw [this,cmpB_zero h]
theorem same1_iff (a b : List UInt8) : ∃ r,dev_Same_1 a b = some r ∧ (r = 0 ↔ a = b):=by
  refine ⟨cmpB a b,by unfold dev_Same_1 bytes_Compare; rfl,cmpB_zero,fun h => by rw [h,cmpB_refl]⟩
theorem write_ext {a b : Write} (h1 : a.At = b.At) (h2 : a.Data = b.Data) : a = b:=by
  cases a; cases b; cases h1; cases h2; rfl
instance wDec : DecidableEq Write:=fun a b => decidable_of_iff (a.At = b.At ∧ a.Data = b.Data) ⟨fun h => write_ext h.1 h.2,fun h => by rw [h]; exact ⟨rfl,rfl⟩⟩
theorem same2_eq (a b : Write) : dev_Same_2 a b = some (decide (a = b)):=by
  unfold dev_Same_2
  obtain ⟨r,e,h⟩:=same1_iff a.Data b.Data
  by_cases c : a.At = b.At
  · rw [decide_eq_true c,cond_true,e]
    by_cases d : a.Data = b.Data
    · rw [decide_eq_true (write_ext c d),Option.bind_some,decide_eq_true (h.2 d)]; rfl
    · rw [decide_eq_false (fun k => d (by rw [k])),Option.bind_some,decide_eq_false (fun k => d (h.1 k))]; rfl
  · rw [decide_eq_false c,decide_eq_false (fun k => c (by rw [k]))]; rfl
theorem drop_ne {α : Type} {p q : List α} {i : Nat} (h1 : i < p.length) (h2 : i < q.length) : (p.drop i = q.drop i) ↔ (p[i] = q[i] ∧ p.drop (i + 1) = q.drop (i + 1)):=by
  rw [List.drop_eq_getElem_cons h1,List.drop_eq_getElem_cons h2]
  exact ⟨fun h => by injection h with a b; exact ⟨a,b⟩,fun h => by rw [h.1,h.2]⟩
theorem equalW_run (p q : List Write) (hl : p.length = q.length) : ∀ (k i f : Nat),i + k = p.length → k < f → ∃ o,run (slices_EqualFunc_Write_l1 p q) f i = some o ∧ ((o = .inl () ∧ p.drop i = q.drop i) ∨ (o = .inr () ∧ p.drop i ≠ q.drop i))
  | 0,i,f,hi,hf => by
    obtain ⟨f,rfl⟩ : ∃ q,f = q + 1:=⟨f - 1,by omega⟩
    refine ⟨.inl (),Zs ?_,.inl ⟨rfl,by rw [List.drop_eq_nil_of_le (by omega),List.drop_eq_nil_of_le (by omega)]⟩⟩
    unfold slices_EqualFunc_Write_l1
    rw [decide_eq_false (by omega),cond_false]
  | k + 1,i,f,hi,hf => by
    obtain ⟨f,rfl⟩ : ∃ q,f = q + 1:=⟨f - 1,by omega⟩
    have h1 : i < p.length:=by omega
    have h2 : i < q.length:=by omega
    by_cases c : p[i] = q[i]
    · obtain ⟨o,e,ho⟩:=equalW_run p q hl k (i + 1) f (by omega) (by omega)
      refine ⟨o,?_,?_⟩
      · rw [run_st (s':=i + 1) (by
          unfold slices_EqualFunc_Write_l1
          rw [decide_eq_true (by omega),cond_true,ZU _ h1,ZU _ h2,same2_eq,decide_eq_true c]; rfl)]
        exact e
      · rcases ho with ⟨a,b⟩ | ⟨a,b⟩
        · exact .inl ⟨a,(drop_ne h1 h2).2 ⟨c,b⟩⟩
        · exact .inr ⟨a,fun h => b ((drop_ne h1 h2).1 h).2⟩
    · refine ⟨.inr (),Zs ?_,.inr ⟨rfl,fun h => c ((drop_ne h1 h2).1 h).1⟩⟩
      unfold slices_EqualFunc_Write_l1
      rw [decide_eq_true (by omega),cond_true,ZU _ h1,ZU _ h2,same2_eq,decide_eq_false c]; rfl
theorem fuel_rd {n : Nat} (h : n ≤ 2000000000000) : n ≤ FUEL:=Nat.le_trans h (by decide)
theorem equalW_eq {p q : List Write} (hp : p.length ≤ 1000000000000) : slices_EqualFunc_Write p q = some (decide (p = q)):=by
  unfold slices_EqualFunc_Write
  by_cases c : p.length = q.length
  · rw [nbeq (by omega),cond_false]
    obtain ⟨o,e,h⟩:=equalW_run p q c p.length 0 (p.length + 1) (by omega) (by omega)
    rw [show loop (slices_EqualFunc_Write_l1 p q) 0 = some o from loop_of (fuel_rd (by omega)) e,Option.bind_some]
    rcases h with ⟨rfl,h⟩ | ⟨rfl,h⟩
    · rw [decide_eq_true (by simpa using h)]; rfl
    · rw [decide_eq_false (by simpa using h)]; rfl
  · rw [nbne (by omega),cond_true,decide_eq_false (fun h => c (by rw [h]))]
theorem compareB_run (p q : List (List UInt8)) : ∀ (k i f : Nat),i + k = p.length → k < f → ∃ o,run (slices_CompareFunc_byte_l1 p q) f i = some o ∧ ((o = .inl () ∧ (p.length ≤ q.length ∨ k = 0) ∧ (p.length = q.length → p.drop i = q.drop i)) ∨ (∃ r,o = .inr r ∧ r ≠ 0 ∧ p.drop i ≠ q.drop i))
  | 0,i,f,hi,hf => by
    obtain ⟨f,rfl⟩ : ∃ q,f = q + 1:=⟨f - 1,by omega⟩
    refine ⟨.inl (),Zs ?_,.inl ⟨rfl,.inr rfl,fun hl => by rw [List.drop_eq_nil_of_le (by omega),List.drop_eq_nil_of_le (by omega)]⟩⟩
    unfold slices_CompareFunc_byte_l1
    rw [decide_eq_false (by omega),cond_false]
  | k + 1,i,f,hi,hf => by
    obtain ⟨f,rfl⟩ : ∃ q,f = q + 1:=⟨f - 1,by omega⟩
    have h1 : i < p.length:=by omega
    by_cases h2 : i < q.length
    · obtain ⟨r,er,hr⟩:=same1_iff p[i] q[i]
      by_cases c : p[i] = q[i]
      · obtain ⟨o,e,ho⟩:=compareB_run p q k (i + 1) f (by omega) (by omega)
        refine ⟨o,?_,?_⟩
        · rw [run_st (s':=i + 1) (by
            unfold slices_CompareFunc_byte_l1
            rw [decide_eq_true (by omega),cond_true,ZU _ h1,decide_eq_false (by omega),cond_false,ZU _ h2,er,Option.bind_some,nbeq (hr.2 c),cond_false])]
          exact e
        · rcases ho with ⟨a,b0,b⟩ | ⟨r',a,b,d⟩
          · exact .inl ⟨a,.inl (by omega),fun hl => (drop_ne h1 h2).2 ⟨c,b hl⟩⟩
          · exact .inr ⟨r',a,b,fun h => d ((drop_ne h1 h2).1 h).2⟩
      · refine ⟨.inr r,Zs ?_,.inr ⟨r,rfl,fun h => c (hr.1 h),fun h => c ((drop_ne h1 h2).1 h).1⟩⟩
        unfold slices_CompareFunc_byte_l1
        rw [decide_eq_true (by omega),cond_true,ZU _ h1,decide_eq_false (by omega),cond_false,ZU _ h2,er,Option.bind_some,nbne (fun h => c (hr.1 h)),cond_true]
    · refine ⟨.inr 1,Zs ?_,.inr ⟨1,rfl,by omega,fun h => ?_⟩⟩
      · unfold slices_CompareFunc_byte_l1
        rw [decide_eq_true (by omega),cond_true,ZU _ h1,decide_eq_true (by omega),cond_true]
      · have:=congrArg List.length h
        rw [List.length_drop,List.length_drop] at this
        omega
theorem compareB_iff {p q : List (List UInt8)} (hp : p.length ≤ 1000000000000) : ∃ r,slices_CompareFunc_byte p q = some r ∧ (r = 0 ↔ p = q):=by
  unfold slices_CompareFunc_byte
  obtain ⟨o,e,h⟩:=compareB_run p q p.length 0 (p.length + 1) (by omega) (by omega)
  rw [show loop (slices_CompareFunc_byte_l1 p q) 0 = some o from loop_of (fuel_rd (by omega)) e,Option.bind_some]
  rcases h with ⟨rfl,h0,h⟩ | ⟨r,rfl,h1,h2⟩
  · by_cases c : p.length < q.length
    · exact ⟨-1,by show (bif decide ((p.length : Int) < (q.length : Int)) then some (-1) else some 0) = _; rw [decide_eq_true (by omega)]; rfl,fun h => by omega,fun h => by rw [h] at c; omega⟩
    · refine ⟨0,by show (bif decide ((p.length : Int) < (q.length : Int)) then some (-1) else some 0) = _; rw [decide_eq_false (by omega)]; rfl,fun _ => ?_,fun _ => rfl⟩
      have:=h (by omega)
      simpa using this
  · exact ⟨r,rfl,fun h => absurd h h1,fun h => absurd (by rw [h]) h2⟩
theorem dev_Same_gen {d e : Disk} (h1 : d.Blocks.length ≤ 2000000) (h2 : d.Waits.length ≤ 2000000) : ∃ r,dev_Same d e = some r ∧ (r = true ↔ d.Blocks = e.Blocks ∧ d.Waits = e.Waits):=by
  unfold dev_Same
  rw [equalW_eq (by omega),Option.bind_some]
  obtain ⟨r,er,hr⟩:=compareB_iff (p:=d.Blocks) (q:=e.Blocks) (by omega)
  by_cases c : d.Waits = e.Waits
  · rw [decide_eq_true c,cond_true,er,Option.bind_some,Option.bind_some]
    exact ⟨decide (r = 0),rfl,by rw [decide_eq_true_iff,hr]; exact ⟨fun h => ⟨h,c⟩,fun h => h.1⟩⟩
  · rw [decide_eq_false c,cond_false,Option.bind_some]
    exact ⟨false,rfl,⟨fun h => (by cases h),fun h => absurd h.2 c⟩⟩
theorem diff_l1 (d e : Disk) (hl : d.Blocks.length = e.Blocks.length) (hs : d.Blocks.length ≤ 2000000) : ∀ (k i f c : Nat),i + k = d.Blocks.length → k < f → c ≤ i → ∃ c' : Nat,run (ref09_Same_l1 d e) f ((c : Int),i) = some (c' : Int) ∧ c ≤ c' ∧ c' ≤ c + k ∧ (c' = c ↔ d.Blocks.drop i = e.Blocks.drop i)
  | 0,i,f,c,hi,hf,hc => by
    obtain ⟨f,rfl⟩ : ∃ q,f = q + 1:=⟨f - 1,by omega⟩
    refine ⟨c,Zs ?_,by omega,by omega,fun _ => by rw [List.drop_eq_nil_of_le (by omega),List.drop_eq_nil_of_le (by omega)],fun _ => rfl⟩
    unfold ref09_Same_l1; dsimp only; rw [decide_eq_false (by omega)]; rfl
  | k + 1,i,f,c,hi,hf,hc => by
    obtain ⟨f,rfl⟩ : ∃ q,f = q + 1:=⟨f - 1,by omega⟩
    have h1 : i < d.Blocks.length:=by omega
    have h2 : i < e.Blocks.length:=by omega
    by_cases g : d.Blocks[i] = e.Blocks[i]
    · obtain ⟨c',e1,e2,e3,e4⟩:=diff_l1 d e hl hs k (i + 1) f c (by omega) (by omega) (by omega)
      refine ⟨c',?_,e2,by omega,?_⟩
      · rw [run_go (s':=((c : Int),i + 1)) (by unfold ref09_Same_l1; dsimp only; rw [decide_eq_true (by omega),cond_true,ZU _ h1,ZU _ h2,nbeq g,cond_false])]
        exact e1
      · rw [e4,drop_ne h1 h2]; exact ⟨fun h => ⟨g,h⟩,fun h => h.2⟩
    · obtain ⟨c',e1,e2,e3,e4⟩:=diff_l1 d e hl hs k (i + 1) f (c + 1) (by omega) (by omega) (by omega)
      refine ⟨c',?_,by omega,by omega,fun h => by omega,fun h => absurd ((drop_ne h1 h2).1 h).1 g⟩
      rw [run_go (s':=(((c + 1 : Nat) : Int),i + 1)) (by unfold ref09_Same_l1; dsimp only; rw [decide_eq_true (by omega),cond_true,ZU _ h1,ZU _ h2,nbne g,cond_true,Zq (n:=(c : Int) + 1) (by omega) (by omega)]; rfl)]
      exact e1
theorem diff_l2 (d e : Disk) (hl : d.Waits.length = e.Waits.length) (hs : d.Waits.length ≤ 2000000) : ∀ (k i f c : Nat),i + k = d.Waits.length → k < f → c ≤ 2000000 + i → ∃ c' : Nat,run (ref09_Same_l2 d e) f ((c : Int),i) = some (c' : Int) ∧ c ≤ c' ∧ (c' = c ↔ d.Waits.drop i = e.Waits.drop i)
  | 0,i,f,c,hi,hf,hc => by
    obtain ⟨f,rfl⟩ : ∃ q,f = q + 1:=⟨f - 1,by omega⟩
    refine ⟨c,Zs ?_,by omega,fun _ => by rw [List.drop_eq_nil_of_le (by omega),List.drop_eq_nil_of_le (by omega)],fun _ => rfl⟩
    unfold ref09_Same_l2; dsimp only; rw [decide_eq_false (by omega)]; rfl
  | k + 1,i,f,c,hi,hf,hc => by
    obtain ⟨f,rfl⟩ : ∃ q,f = q + 1:=⟨f - 1,by omega⟩
    have h1 : i < d.Waits.length:=by omega
    have h2 : i < e.Waits.length:=by omega
    by_cases g : d.Waits[i] = e.Waits[i]
    · obtain ⟨c',e1,e2,e4⟩:=diff_l2 d e hl hs k (i + 1) f c (by omega) (by omega) (by omega)
      refine ⟨c',?_,e2,?_⟩
      · rw [run_go (s':=((c : Int),i + 1)) (by unfold ref09_Same_l2; dsimp only; rw [decide_eq_true (by omega),cond_true,ZU _ h1,ZU _ h2,nbeq (by rw [g]),cond_false,nbeq (by rw [g]),cond_false])]
        exact e1
      · rw [e4,drop_ne h1 h2]; exact ⟨fun h => ⟨g,h⟩,fun h => h.2⟩
    · obtain ⟨c',e1,e2,e4⟩:=diff_l2 d e hl hs k (i + 1) f (c + 1) (by omega) (by omega) (by omega)
      refine ⟨c',?_,by omega,fun h => by omega,fun h => absurd ((drop_ne h1 h2).1 h).1 g⟩
      rw [run_go (s':=(((c + 1 : Nat) : Int),i + 1)) (by
        unfold ref09_Same_l2; dsimp only; rw [decide_eq_true (by omega),cond_true,ZU _ h1,ZU _ h2]
        by_cases g1 : (d.Waits[i]).At = (e.Waits[i]).At
        · rw [nbeq g1,cond_false,nbne (fun g2 => g (write_ext g1 g2)),cond_true,Zq (n:=(c : Int) + 1) (by omega) (by omega)]; rfl
        · rw [nbne g1,cond_true,Zq (n:=(c : Int) + 1) (by omega) (by omega)]; rfl)]
      exact e1
theorem ref_same09_gen {d e : Disk} (h1 : d.Blocks.length ≤ 2000000) (h2 : d.Waits.length ≤ 2000000) : ∃ r,ref09_Same d e = some r ∧ (r = true ↔ d.Blocks = e.Blocks ∧ d.Waits = e.Waits):=by
  unfold ref09_Same
  by_cases c1 : d.Blocks.length = e.Blocks.length
  · by_cases c2 : d.Waits.length = e.Waits.length
    · obtain ⟨c,e1,-,e2,e3⟩:=diff_l1 d e c1 h1 d.Blocks.length 0 (d.Blocks.length + 1) 0 (by omega) (by omega) (by omega)
      obtain ⟨c',f1,f2,f3⟩:=diff_l2 d e c2 h2 d.Waits.length 0 (d.Waits.length + 1) c (by omega) (by omega) (by omega)
      rw [nbeq (by omega),cond_false,nbeq (by omega),cond_false,show loop (ref09_Same_l1 d e) (0,0) = some (c : Int) from loop_of (fuel_rd (by omega)) e1,Option.bind_some,show loop (ref09_Same_l2 d e) ((c : Int),0) = some (c' : Int) from loop_of (fuel_rd (by omega)) f1,Option.bind_some]
      rw [List.drop_zero,List.drop_zero] at e3 f3
      refine ⟨_,rfl,?_⟩
      rw [decide_eq_true_iff]
      constructor
      · intro h; exact ⟨e3.1 (by omega),f3.1 (by omega)⟩
      · intro h; have:=e3.2 h.1; have:=f3.2 h.2; omega
    · rw [nbeq (by omega),cond_false,nbne (by omega),cond_true]
      exact ⟨false,rfl,⟨fun h => (by cases h),fun h => absurd (by rw [h.2]) c2⟩⟩
  · rw [nbne (by omega),cond_true]
    exact ⟨false,rfl,⟨fun h => (by cases h),fun h => absurd (by rw [h.1]) c1⟩⟩
theorem same_both {s o : Store} (hs : SmallD s.Disk) : ∃ r,store_Same s o = some r ∧ ref13_Same s o = some r:=by
  obtain ⟨r,e1,e2⟩:=dev_Same_gen (d:=s.Disk) (e:=o.Disk) hs.blocks hs.waits
  obtain ⟨t,f1,f2⟩:=ref_same09_gen (d:=s.Disk) (e:=o.Disk) hs.blocks hs.waits
  have : r = t:=by rw [Bool.eq_iff_iff,e2,f2]
  subst this
  unfold store_Same ref13_Same
  rw [show (Disk.mk s.Disk.Blocks s.Disk.Waits) = s.Disk from rfl,show (Disk.mk o.Disk.Blocks o.Disk.Waits) = o.Disk from rfl,e1,f1,Option.bind_some,Option.bind_some]
  unfold bytes_Equal
  cases r with
  | false => exact ⟨false,rfl,rfl⟩
  | true =>
    by_cases c : s.Space = o.Space
    · refine ⟨bif decide (s.Epoch = o.Epoch) then decide (s.Count = o.Count) else false,?_,?_⟩
      · rw [decide_eq_true c]; cases decide (s.Epoch = o.Epoch) <;> rfl
      · rw [decide_eq_true c]; cases decide (s.Epoch = o.Epoch) <;> rfl
    · exact ⟨false,by rw [decide_eq_false c]; rfl,by rw [decide_eq_false c]; rfl⟩
end Go.Ow

/-
  What is proved here: giving up, the new store, and the law StoreReads, in plain words.
-/
namespace Go.Ow
set_option linter.unusedVariables false
set_option linter.unusedSimpArgs false

theorem giveS_no {s : Store} {p : Ptr} (h : ¬ (OKSt s ∧ okP p)) : giveS s p = (noS,8):=by
  unfold giveS
  rw [if_neg (show ¬ (OKSt s ∧ (isNone p ∨ okR p)) from h)]
theorem ref_give_is (s : Store) (p : Ptr) : ref13_Give s p = some (giveS s p):=by
  unfold ref13_Give
  rw [ref_may13,Option.bind_some]
  by_cases c : OKSt s
  · rw [decide_eq_true c,Bool.not_true,cond_false,ref_may10,Option.bind_some]
    by_cases d : okP p
    · rw [decide_eq_true d,Bool.not_true,cond_false,ref_none,Option.bind_some]
      unfold giveS
      rw [if_pos (show OKSt s ∧ (isNone p ∨ okR p) from ⟨c,d⟩)]
      by_cases e : isNone p
      · rw [decide_eq_true e,if_pos e]; rfl
      · have hr:=d.resolve_left e
        obtain ⟨n,hn⟩:=Int.eq_ofNat_of_zero_le (show 0 ≤ p.At by have:=hr.1; omega)
        have hn2 : n < 256:=by have:=hr.2.1; omega
        have hl:=c.2.1.1
        have hg : s.Space[n]? = some (s.Space[n]'(by omega)):=List.getElem?_eq_getElem (by omega)
        rw [decide_eq_false e,if_neg e,cond_false,hn,Int.toNat_natCast,idx_get _ hg,hg]
        by_cases f : s.Space[n]'(by omega) = 1
        · rw [nbeq f,cond_false,if_pos (by rw [f])]
          unfold ref12_With
          rw [app_nil (by omega),chk_eq ⟨by omega,by rw [Int.toNat_natCast]; omega⟩,setI_eq (by omega) (by rw [Int.toNat_natCast]; omega),Option.bind_some,Int.toNat_natCast]
        · rw [nbne f,cond_true,if_neg (fun h => f (Option.some.inj h))]; rfl
    · rw [decide_eq_false d,giveS_no (fun h => d h.2)]; rfl
  · rw [decide_eq_false c,giveS_no (fun h => c h.1)]; rfl
theorem giveS_fine (s : Store) (p : Ptr) : fine (giveS s p).1:=by
  have hno : fine noS:=⟨noS_sized,by decide⟩
  unfold giveS
  by_cases c : OKSt s ∧ (isNone p ∨ okR p)
  · rw [if_pos c]
    by_cases e : isNone p
    · rw [if_pos e]; exact hno
    · rw [if_neg e]
      by_cases f : s.Space[p.At.toNat]? = some 1
      · rw [if_pos f]
        refine ⟨?_,?_⟩
        · exact c.1.1.sized
        · show (s.Space.set _ 2).length ≤ _
          rw [List.length_set,c.1.2.1.1]; omega
      · rw [if_neg f]; exact hno
  · rw [if_neg c]; exact hno
end Go.Ow

/-
  What is proved here: a store that is not great is copied whole; the law StoreReads, in plain words.
-/
namespace Go.Ow
set_option linter.unusedVariables false
set_option linter.unusedSimpArgs false

theorem cut_big (bs : List (List UInt8)) (h : bs.length ≤ 1000) (hb : ∀ b ∈ bs,b.length ≤ 2000000) : dev_cut (bs.map fun b => (b.length : Int)) = some (bs.map fun b => List.replicate b.length 0):=by
  unfold dev_cut
  have e1 : (bs.map fun b => (b.length : Int)).map Int.toNat = bs.map List.length:=by rw [List.map_map]; rfl
  have e2:=sum_le_mul (l:=bs.map List.length) (k:=2000000) (fun x hx => by obtain ⟨b,h1,rfl⟩:=List.mem_map.1 hx; exact hb b h1)
  rw [List.length_map] at e2
  rw [if_pos ⟨fun n hn => by obtain ⟨b,_,rfl⟩:=List.mem_map.1 hn; omega,by rw [e1]; simp only [LIM]; omega,by simp only [List.length_map,LIM]; omega⟩,List.map_map]
  rfl
theorem clone_big {l : List UInt8} (h : l.length ≤ 2000000) : bytes_Clone l = some l:=by
  unfold bytes_Clone; rw [Zv (by simp only [List.length_nil,LIM]; omega)]; rfl
theorem twin_l3_big (d : Disk) (h : d.Waits.length ≤ 5000) (hw : ∀ w ∈ d.Waits,w.Data.length ≤ 2000000) : loop (dev_Twin_l3 d) (([] : List Write),0) = some d.Waits:=by
  rw [loop_each d.Waits (fun i (r : List Write) => (r,i)) (fun b r => some (.inl (r ++ [b]))) (fun r => r) (fun i r => r.length = i) (fun i hi r hr => ?_) (fun i hi r r' hr e => ?_) (fun r _ => ?_) (small_lt (by omega)) rfl,forL_map]
  · show some _ = some _
    congr 1
    suffices H : ∀ (l : List Write) (a : List Write),l.foldl (fun r b => r ++ [b]) a = a ++ l by simpa using H d.Waits []
    intro l
    induction l with
    | nil => simp
    | cons b l ih => intro a; simp [ih]
  · unfold dev_Twin_l3
    rw [cI,if_pos hi,ZU _ hi,clone_big (hw _ (List.getElem_mem hi))]
    simp only [Option.bind_some]
    rw [Zv (by simp only [List.length_cons,List.length_nil,LIM]; omega)]
    rfl
  · simp only [Option.some.injEq,Sum.inl.injEq] at e; subst e; simp [hr]
  · unfold dev_Twin_l3
    rw [cI,if_neg (by omega)]
structure Few (s : Store) : Prop where
  small : SmallS s
  blocks : s.Disk.Blocks.length ≤ 1000
  waits : s.Disk.Waits.length ≤ 5000
  space : s.Space.length ≤ 1000000
theorem great_few {d : Disk} (hg : ref09_Great d = some false) : d.Blocks.length ≤ 1000 ∧ d.Waits.length ≤ 5000:=by
  unfold ref09_Great at hg
  by_cases k1 : (500 : Int) < (d.Blocks.length : Int)
  · rw [decide_eq_true k1] at hg; cases hg
  by_cases k2 : (4106 : Int) < (d.Waits.length : Int)
  · rw [decide_eq_false k1,decide_eq_true (show (500 : Int) < (d.Waits.length : Int) by omega),decide_eq_false (show ¬ (d.Waits.length : Int) < 4096 by omega),decide_eq_true k2] at hg; cases hg
  exact ⟨by omega,by omega⟩
theorem great13_few {s : Store} (h : FitD s.Disk) (hg : ref13_Great s = some false) : Few s:=by
  have hs:=great13_small h hg
  unfold ref13_Great at hg
  rw [show (Disk.mk s.Disk.Blocks s.Disk.Waits) = s.Disk from rfl] at hg
  cases e : ref09_Great s.Disk with
  | none => rw [e] at hg; cases hg
  | some g =>
    rw [e] at hg
    cases g with
    | true => cases hg
    | false =>
      have : decide ((10000 : Int) < (s.Space.length : Int)) = false:=Option.some.inj hg
      have:=of_decide_eq_false this
      exact ⟨hs,(great_few e).1,(great_few e).2,by omega⟩
theorem store_Twin_big {s : Store} (h : Few s) : store_Twin s = some s:=by
  have hd : dev_Twin s.Disk = some s.Disk:=by
    unfold dev_Twin
    rw [twin_l1 _ h.blocks]
    simp only [Option.bind_some]
    rw [cut_big _ h.blocks h.small.disk.block]
    simp only [Option.bind_some]
    rw [twin_l2 _ h.blocks]
    simp only [Option.bind_some]
    rw [twin_l3_big _ h.waits h.small.disk.wait]
    rfl
  unfold store_Twin
  rw [show (Disk.mk s.Disk.Blocks s.Disk.Waits) = s.Disk from rfl,hd,Option.bind_some,clone_big h.small.space]
  rfl
theorem law13_l1_run (x : List UInt8 × Int) : ∀ (k i f : Nat),i + k = x.1.length → k < f → run (law13_StoreReads_l1 x) f i = some ()
  | 0,i,f,hi,hf => by
    obtain ⟨f,rfl⟩ : ∃ q,f = q + 1:=⟨f - 1,by omega⟩
    refine Zs ?_
    unfold law13_StoreReads_l1
    rw [decide_eq_false (by omega),cond_false]
  | k + 1,i,f,hi,hf => by
    obtain ⟨f,rfl⟩ : ∃ q,f = q + 1:=⟨f - 1,by omega⟩
    rw [run_st (s':=i + 1) (by
      unfold law13_StoreReads_l1
      rw [decide_eq_true (by omega),cond_true,ZU _ (by omega),ZU _ (by omega)])]
    exact law13_l1_run x k (i + 1) f (by omega) (by omega)
theorem lookS_le (s : Store) (p : Ptr) : (lookS s p).1.length ≤ 256:=by
  by_cases c : (lookS s p).2 = 0
  · rw [lookS_len c]; exact Nat.le_refl _
  · unfold lookS at c ⊢
    split
    · rename_i c1
      rw [if_pos c1] at c
      split
      · exact Nat.zero_le _
      · rename_i c2
        rw [if_neg c2] at c
        split
        · rename_i c3
          rw [if_pos c3] at c; exact absurd rfl c
        · exact Nat.zero_le _
    · exact Nat.zero_le _
theorem law_StoreReads (s o : Store) (p : Ptr) (key : List UInt8) (hs : Sized s.Disk) (hF : FitD s.Disk) (hs2 : Sized o.Disk) (hF2 : FitD o.Disk) (hn : ref13_New = some newS) (hz : Sized newS.Disk) : law13_StoreReads s o p key = some true:=by
  unfold law13_StoreReads
  obtain ⟨g,hg⟩:=great13_tot hs
  rw [hg,Option.bind_some]
  cases g with
  | true => rfl
  | false =>
    rw [cond_false]
    obtain ⟨g2,hg2⟩:=great13_tot hs2
    rw [hg2,Option.bind_some]
    cases g2 with
    | true => rfl
    | false =>
      rw [cond_false]
      by_cases k1 : (10000 : Int) < (key.length : Int)
      · rw [decide_eq_true k1]; rfl
      have hf:=great13_few hF hg
      obtain ⟨r,e1,e2⟩:=same_both (s:=s) (o:=o) hf.small.disk
      have hl:=lookS_le s p
      rw [decide_eq_false k1,cond_false,ref_twin hf.small,Option.bind_some,store_Look_eq hs,Option.bind_some,ref_look_is,Option.bind_some,store_Open_eq hs,Option.bind_some,ref_open_is,Option.bind_some,store_Give_eq hs,Option.bind_some,ref_give_is,Option.bind_some,
        nbeq rfl,cond_false,nbeq rfl,cond_false,nbeq rfl,cond_false,nbeq rfl,cond_false,ref_same13 (giveS_fine s p).1,Option.bind_some,Bool.not_true,cond_false,nbeq rfl,cond_false,store_Check_eq hs,Option.bind_some,ref_check_is,Option.bind_some,nbeq rfl,cond_false,
        e1,Option.bind_some,e2,Option.bind_some,beq_self_eq_true,Bool.not_true,cond_false,store_Twin_big hf,Option.bind_some,ref_same13 hs,Option.bind_some,Bool.not_true,cond_false,store_New_eq,Option.bind_some,hn,Option.bind_some,ref_same13 hz,Option.bind_some,Bool.not_true,cond_false,
        spoil_eq (giveS_fine s p),Option.bind_some,Option.bind_some,spoil_eq ⟨hs,hf.space⟩,Option.bind_some,show loop (law13_StoreReads_l1 (lookS s p)) 0 = some () from loop_of (n:=(lookS s p).1.length + 1) (fuel_rd (by omega)) (law13_l1_run _ (lookS s p).1.length 0 _ (by omega) (by omega)),Option.bind_some,Option.bind_some]
theorem new9_run : ∀ (k i f : Nat),i + k = 256 → k < f → run ref09_New_l1 f (List.replicate i zeroBl ++ List.replicate k [],i) = some (List.replicate 256 zeroBl)
  | 0,i,f,hi,hf => by
    obtain ⟨f,rfl⟩ : ∃ q,f = q + 1:=⟨f - 1,by omega⟩
    refine Zs ?_
    unfold ref09_New_l1
    dsimp only
    rw [decide_eq_false (by omega),cond_false,show i = 256 by omega,List.replicate_zero,List.append_nil]
  | k + 1,i,f,hi,hf => by
    obtain ⟨f,rfl⟩ : ∃ q,f = q + 1:=⟨f - 1,by omega⟩
    have hlen : (List.replicate i zeroBl ++ List.replicate (k + 1) ([] : List UInt8)).length = 256:=by rw [List.length_append,List.length_replicate,List.length_replicate]; omega
    rw [run_st (s':=(List.replicate (i + 1) zeroBl ++ List.replicate k [],i + 1)) (by
      unfold ref09_New_l1
      dsimp only
      rw [decide_eq_true (by omega),cond_true,show (256 : Int) = ((256 : Nat) : Int) from rfl,mks_eq (lim_le (by omega)),chk_eq ⟨by omega,by rw [Int.toNat_natCast,hlen]; omega⟩,setI_eq (by omega) (by rw [Int.toNat_natCast,hlen]; omega),Int.toNat_natCast]
      rw [List.set_append_right _ _ (by rw [List.length_replicate]; omega),List.length_replicate,Nat.sub_self,show List.replicate (k + 1) ([] : List UInt8) = [] :: List.replicate k [] from rfl,List.set_cons_zero,show List.replicate (i + 1) zeroBl = List.replicate i zeroBl ++ [zeroBl] from List.replicate_succ',List.append_assoc]
      rfl)]
    exact new9_run k (i + 1) f (by omega) (by omega)
theorem new12_run : ∀ (k i f : Nat),i + k = 12 → k < f → run ref12_New_l1 f (List.replicate i 1 ++ List.replicate (k + 244) 0,i) = some newT
  | 0,i,f,hi,hf => by
    obtain ⟨f,rfl⟩ : ∃ q,f = q + 1:=⟨f - 1,by omega⟩
    refine Zs ?_
    unfold ref12_New_l1
    dsimp only
    rw [decide_eq_false (by omega),cond_false,show i = 12 by omega]; rfl
  | k + 1,i,f,hi,hf => by
    obtain ⟨f,rfl⟩ : ∃ q,f = q + 1:=⟨f - 1,by omega⟩
    have hlen : (List.replicate i (1 : UInt8) ++ List.replicate (k + 1 + 244) 0).length = 256:=by rw [List.length_append,List.length_replicate,List.length_replicate]; omega
    rw [run_st (s':=(List.replicate (i + 1) 1 ++ List.replicate (k + 244) 0,i + 1)) (by
      unfold ref12_New_l1
      dsimp only
      rw [decide_eq_true (by omega),cond_true,chk_eq ⟨by omega,by rw [Int.toNat_natCast,hlen]; omega⟩,setI_eq (by omega) (by rw [Int.toNat_natCast,hlen]; omega),Int.toNat_natCast]
      rw [List.set_append_right _ _ (by rw [List.length_replicate]; omega),List.length_replicate,Nat.sub_self,show k + 1 + 244 = (k + 244) + 1 by omega,show List.replicate (k + 244 + 1) (0 : UInt8) = 0 :: List.replicate (k + 244) 0 from rfl,List.set_cons_zero,show List.replicate (i + 1) (1 : UInt8) = List.replicate i 1 ++ [1] from List.replicate_succ',List.append_assoc]
      rfl)]
    exact new12_run k (i + 1) f (by omega) (by omega)
theorem ref_New_eq : ref13_New = some newS:=by
  unfold ref13_New ref09_New ref12_New
  rw [show (256 : Int) = ((256 : Nat) : Int) from rfl,mks_eq (lim_le (by omega)),mks_eq (lim_le (by omega))]
  rw [show loop ref09_New_l1 (List.replicate 256 ([] : List UInt8),0) = some (List.replicate 256 zeroBl) from loop_of (n:=257) (fuel_rd (by omega)) (new9_run 256 0 257 (by omega) (by omega)),Option.bind_some,Option.bind_some]
  rw [show loop ref12_New_l1 (List.replicate 256 (0 : UInt8),0) = some newT from loop_of (n:=257) (fuel_rd (by omega)) (new12_run 12 0 257 (by omega) (by omega))]
  rfl
theorem newS_sized : Sized newS.Disk:=⟨by rw [show newS.Disk = newD from rfl,new_length]; omega,by show ([] : List Write).length ≤ _; simp,fun w hw => by cases hw⟩
theorem law_StoreReads' (s o : Store) (p : Ptr) (key : List UInt8) (hs : Sized s.Disk) (hF : FitD s.Disk) (hs2 : Sized o.Disk) (hF2 : FitD o.Disk) (_ : InI64 p.At) : law13_StoreReads s o p key = some true:=law_StoreReads s o p key hs hF hs2 hF2 ref_New_eq newS_sized
end Go.Ow
