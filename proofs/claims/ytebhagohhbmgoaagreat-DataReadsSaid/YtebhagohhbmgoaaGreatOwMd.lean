import Derived.Test.YtebhagohhbmgoaaGreatOwMc
/-
  What is proved here: numbers as bytes and back; a sum is always told; pointers as bytes: in plain words.
-/
set_option linter.unusedSimpArgs false
set_option linter.unusedVariables false
namespace Go.Ow
def leB (n:Nat):Nat→List UInt8
 |0=> []
 |k+1=>UInt8.ofNat n::leB (n/256) k
theorem Zf (n k:Nat):(leB n k).length=k:=by
 induction k generalizing n with
 |zero=>rfl
 |succ k ih=>simp[leB,ih]
def numB:List UInt8→Nat
 |[]=>0
 |b::r=>b.toNat+256*numB r
theorem numB_lt (m:List UInt8):numB m<256^m.length:=by
  induction m with
  |nil=>simp[numB]
  | cons b r ih=>
    have:=b.toNat_lt
    simp only[numB,List.length_cons,Nat.pow_succ];omega
theorem u8i_nat (n:Nat):u8i (n:Int)=UInt8.ofNat n:=by
 unfold u8i
 apply UInt8.toNat_inj.1
 rw[UInt8.toNat_ofNat',UInt8.toNat_ofNat']
 omega
theorem sized_eq (k:Int):code_sized k=some (decide (0<k∧k≤4)):=by
 unfold code_sized
 by_cases h:0<k
 · rw[decide_eq_true h]
   simp only[cond_true,Option.bind_some]
   congr 1;simp only[decide_eq_decide];omega
 · rw[decide_eq_false h]
   simp only[cond_false,Option.bind_some]
   congr 1;rw[decide_eq_false (λe=>h e.1)]
theorem put_loop{n k:Nat}(hk:k≤4)(hn:n<4294967296):loop (code_Put_l1 (k:Int)) ((n:Int),([]:List UInt8))=some (leB n k):=by
 obtain⟨t,h1,h2⟩:=loop_rule (body:=code_Put_l1 (k:Int)) (λs=>∃m:Nat,s.1=(m:Int)∧m<4294967296∧s.2.length≤k∧s.2++leB m (k-s.2.length)=leB n k) (λs=>k-s.2.length) (λt=>t=leB n k) (by
  rintro⟨a,b⟩ ⟨m,h1,h0,h2,h3⟩
  simp only at h1 h2 h3
  subst h1
  unfold code_Put_l1
  dsimp only
  rw[cI]
  rcases Nat.lt_or_ge b.length k with c|c
  · left
    rw[if_pos c,Zr (by simp only[List.length_cons,List.length_nil,LIM];omega)]
    refine⟨_,rfl,⟨m/256,?_,by omega,by simp;omega,?_⟩,by simp;omega⟩
    · simp only
      rw[Int.tdiv_eq_ediv_of_nonneg (by omega),Za (by omega) (by omega)];omega
    · simp only
      rw[←h3,show k-b.length=(k-(b++ [u8i (m:Int)]).length)+1 by simp;omega]
      simp only[leB,u8i_nat,List.append_assoc,List.singleton_append]
  · right
    rw[if_neg (by omega)]
    refine⟨_,rfl,?_⟩
    rw[show k-b.length=0 by omega]at h3
    simpa[leB]using h3) (s:=((n:Int),([]:List UInt8))) ⟨n,rfl,hn,by simp,by simp⟩ (Nat.lt_of_le_of_lt (Nat.sub_le _ _) (small_lt (by omega)))
 rw[h1,h2]
theorem pow256{k:Nat}(h1:1≤k)(h4:k≤4):sli 1 (w64 (8*(k:Int)))=((256^k:Nat):Int)∧256^k≤4294967296:=by
 have:k=1∨k=2∨k=3∨k=4:=by omega
 rcases this with rfl|rfl|rfl|rfl<;>decide
theorem code_Put_eq{n k:Nat}(h1:1≤k)(h4:k≤4)(hn:n<256^k):code_Put (n:Int) (k:Int)=some (leB n k,0):=by
 unfold code_Put
 rw[sized_eq]
 simp only[Option.bind_some]
 obtain⟨h5,h6⟩:=pow256 h1 h4
 rw[decide_eq_true (show 0<(k:Int)∧(k:Int)≤4 by omega),decide_eq_false (show¬(n:Int)<0 by omega),chk_eq (by rw[Za (by omega) (by omega)];omega),h5,
  decide_eq_false (show¬((256^k:Nat):Int)≤(n:Int) by omega)]
 simp only[Bool.not_true,cond_false]
 rw[put_loop h4 (by omega)]
 rfl
theorem numB_snoc (p:List UInt8)(c:UInt8):numB (p++ [c])=numB p+256^p.length*c.toNat:=by
 induction p with
 |nil=>simp[numB]
 |cons b p ih=>simp only[List.cons_append,numB,ih,List.length_cons,Nat.pow_succ];rw[Nat.mul_add,←Nat.mul_assoc,Nat.mul_comm 256 (256^p.length)];omega
theorem bwd_length' (m:List UInt8)(k:Nat):(bwd m k).length=k:=by induction k with|zero=>rfl|succ k ih=>simp[bwd,ih]
theorem bwd_fold (m:List UInt8):∀(k a:Nat),k≤m.length→(bwd m k).foldl (λn y=>256*n+y.2.toNat) a=numB (m.take k)+256^k*a:=by
  intro k
  induction k with
  |zero=>intro a _;simp[bwd,numB]
  | succ k ih=>
    intro a hk
    simp only[bwd,List.foldl_cons]
    rw[ih _ (by omega),List.take_succ_eq_append_getElem (by omega),numB_snoc,List.length_take,Nat.min_eq_left (by omega),List.getD_eq_getElem?_getD,List.getElem?_eq_getElem (by omega),Option.getD_some,Nat.pow_succ,Nat.mul_add,←Nat.mul_assoc]
    omega
theorem get_loop:∀(l:List (Nat×UInt8)) (a j:Nat),a<256^j→j+l.length≤4→forL code_Get_r1 l (a:Int)=some (.inl ((l.foldl (λn y=>256*n+y.2.toNat) a:Nat):Int))
  |[],a,j,_,_=>rfl
  | y ::l,a,j,ha,hj=>by
    have hy:=y.2.toNat_lt
    have hp:(256:Nat)^(j+1)≤256^4:=Nat.pow_le_pow_right (by omega) (by simp at hj;omega)
    have h2:256*a+y.2.toNat<256^(j+1):=by rw[Nat.pow_succ];omega
    rw[forL_cons (s':=((256*a+y.2.toNat:Nat):Int)) (by
      have e4:(256:Nat)^4=4294967296:=by decide
      rw[e4]at hp
      generalize (256:Nat)^(j+1)=N at hp h2
      show some (Sum.inl (w64 ((w64 (256*(a:Int)))+(y.2.toNat:Int))))=_
      rw[Za (n:=256*(a:Int)) (by omega) (by omega),Za (by omega) (by omega)]
      rw[show(256*(a:Int)+(y.2.toNat:Int))=((256*a+y.2.toNat:Nat):Int) by omega]),get_loop l _ (j+1) h2 (by simp at hj;omega)]
    rfl
theorem cut_len{l:List UInt8}{a b:Nat}(h1:a≤b)(h2:b≤l.length):(cut l (a:Int) (b:Int)).length=b-a:=by
 unfold cut;simp only[List.length_take,List.length_drop];omega
theorem get_core{b:List UInt8}{at' k:Nat}(h4:k≤4)(hl:at'+k≤b.length):
 (slc b (at':Int) ((at'+k:Nat):Int) λm_16=>Option.bind (slices_Backward_byte m_16) λx_20=>Option.bind (forL code_Get_r1 (bwd m_16 m_16.length) 0) (λt_24=>Sum.elim (λs_27=>some (s_27,(0:Int))) (λ_=>none) t_24))=some ((numB ((b.drop at').take k):Int),0):=by
 rw[slc_eq (by omega) (by omega) (by omega)]
 have hm:(cut b (at':Int) ((at'+k:Nat):Int)).length=k:=by rw[cut_len (by omega) (by omega)];omega
 have he:cut b (at':Int) ((at'+k:Nat):Int)=(b.drop at').take k:=by unfold cut;rw[Int.toNat_natCast,Int.toNat_natCast,Nat.add_sub_cancel_left]
 rw[he]at hm⊢
 have:=get_loop (bwd ((b.drop at').take k) ((b.drop at').take k).length) 0 0 (by decide) (by rw[bwd_length',hm];omega)
 unfold slices_Backward_byte
 rw[Option.bind_some]
 rw[show((0:Nat):Int)=0 from rfl]at this
 rw[this,bwd_fold _ _ _ (Nat.le_refl _),List.take_length,Nat.mul_zero,Nat.add_zero]
 rfl
theorem get_cond{b:List UInt8}{a q k:Int}{K:Option (Int×Int)}(hk:0<k∧k≤4)(h0:0≤a)(h1:a≤b.length)(h2:q≤b.length):
 (Option.bind (code_sized k) λx_5=>Option.bind (cond (!x_5) (some true) (cond (decide (a<0)) (some true) (some (decide ((b.length:Int)<a))))) (λt_8=>cond t_8 (some (0,2)) (cond (decide ((b.length:Int)<q)) (some (0,8)) K)))=K:=by
 rw[sized_eq,Option.bind_some,decide_eq_true hk,decide_eq_false (show¬a<0 by omega),decide_eq_false (show¬(b.length:Int)<a by omega),decide_eq_false (show¬(b.length:Int)<q by omega)]
 rfl
theorem code_Get_eq{b:List UInt8}{at' k:Nat}(h1:1≤k)(h4:k≤4)(hl:at'+k≤b.length)(hb:b.length≤1000000):code_Get b (at':Int) (k:Int)=some ((numB ((b.drop at').take k):Int),0):=by
 unfold code_Get
 have hw:w64 ((at':Int)+(k:Int))=((at'+k:Nat):Int):=by rw[Za (by omega) (by omega)];omega
 rw[hw]
 exact(get_cond ⟨by omega,by omega⟩ (by omega) (by omega) (by omega)).trans (get_core h4 hl)
theorem rot_tot (a:UInt32)(n:Int):∃r,math_bits_RotateLeft32 a n=some r:=⟨_,rfl⟩
theorem turned1_tot (a b:Int)(x:A4 UInt32):∃r,mix_words_turned_1 a b x=some r:=by
 unfold mix_words_turned_1
 obtain⟨r,h⟩:=rot_tot (x.e3^^^(x.e0+x.e1)) a
 rw[h]
 simp only[Option.bind_some]
 obtain⟨r',h'⟩:=rot_tot (x.e1^^^(x.e2+r)) b
 rw[h']
 exact⟨_,rfl⟩
theorem turned_tot (x:A4 UInt32):∃r,mix_words_turned x=some r:=by
 unfold mix_words_turned
 obtain⟨r,h⟩:=turned1_tot 15 11 x
 rw[h]
 simp only[Option.bind_some]
 obtain⟨r',h'⟩:=turned1_tot 9 6 r
 rw[h']
 exact⟨_,rfl⟩
theorem often_tot (x:A4 UInt32)(n:Int)(hn:n≤100):∃r,mix_words_often x n=some r:=by
 unfold mix_words_often
 obtain⟨t,h1,-⟩:=loop_rule (body:=mix_words_often_l1 n) (λs=>0≤s.2.2.2.2∧s.2.2.2.2≤100) (λs=>100-s.2.2.2.2.toNat) (λ_=>True) (by
  rintro⟨a,b,c,d,i⟩ ⟨hi,hi'⟩
  simp only at hi hi'
  unfold mix_words_often_l1
  dsimp only
  by_cases h:i<n
  · left
    rw[decide_eq_true h]
    obtain⟨r,hr⟩:=turned_tot (A4.mk a b c d)
    simp only[cond_true]
    rw[hr]
    refine⟨_,rfl,?_,?_⟩
    · simp only;rw[Za (by omega) (by omega)];omega
    · simp only;rw[Za (by omega) (by omega)];omega
  · right
    rw[decide_eq_false h]
    exact⟨_,rfl,trivial⟩) (s:=(x.e0,x.e1,x.e2,x.e3,0)) ⟨by simp,by simp⟩ (Nat.lt_of_le_of_lt (Nat.sub_le _ _) (small_lt (by omega)))
 rw[h1]
 exact⟨_,rfl⟩
theorem number_tot{b:List UInt8}(h:b.length=4):∃r,mix_number b=some r:=by
 unfold mix_number
 rw[show(0:Int)=((0:Nat):Int)from rfl,show(4:Int)=((4:Nat):Int)from rfl,code_Get_eq (by omega) (by omega) (by omega) (by omega)]
 exact⟨_,rfl⟩
theorem forL_tot{α σ τ:Type}{body:α→σ→Option (σ ⊕ τ)}:∀{l:List α} {s:σ},(∀y∈l,∀s,∃s',body y s=some (.inl s'))→∃s',forL body l s=some (.inl s')
  |[],s,_=>⟨s,rfl⟩
  | y::l,s,h=>by
    obtain⟨s',h1⟩:=h y (by simp) s
    rw[forL_cons h1]
    exact forL_tot (λy hy=>h y (by simp[hy]))
theorem chunks_len{n:Nat}(hn:0<n):∀(f:Nat) (l:List UInt8),l.length≤f→l.length%n=0→∀y∈chunks n f l,y.length=n
  |0,l,h,_,y,hy=>by simp[chunks]at hy
  | f + 1,l,h,hm,y,hy=>by
    by_cases c:l= []
    · subst c;simp[chunks]at hy
    · rw[chunks_step c]at hy
      have hpos:=List.length_pos_iff.2 c
      have hge:n≤l.length:=by
        rcases Nat.lt_or_ge l.length n with h'|h'
        · rw[Nat.mod_eq_of_lt h']at hm;omega
        · exact h'
      rcases List.mem_cons.1 hy with rfl|hy
      · simp only[List.length_take];omega
      · refine chunks_len hn f _ (by simp only[List.length_drop];omega) ?_ y hy
        rw[List.length_drop,←Nat.mod_eq_sub_mod hge];exact hm
def pad8 (n:Nat):Nat:=(8-n%8)%8
theorem pad8_step{n:Nat}(h:n%8≠0):pad8 (n+1)+1=pad8 n:=by
 unfold pad8
 have:n%8=1∨n%8=2∨n%8=3∨n%8=4∨n%8=5∨n%8=6∨n%8=7:=by omega
 rcases this with h|h|h|h|h|h|h<;>rw[Nat.add_mod,h]
theorem pad8_le (n:Nat):pad8 n≤8:=by unfold pad8;omega
theorem four_l1{l:List UInt8}(h:l.length≤100000):∃t,loop mix_four_l1 l=some t∧t.length%8=0∧t.length≤100016:=by
 obtain⟨t,h1,h2⟩:=loop_rule (body:=mix_four_l1) (λs=>s.length+pad8 s.length≤100008) (λs=>pad8 s.length) (λt=>t.length%8=0∧t.length≤100016) (by
  intro s hs
  unfold mix_four_l1
  rw[Int.tmod_eq_emod_of_nonneg (by omega)]
  by_cases c:s.length%8=0
  · right
    rw[decide_eq_true (show(s.length:Int)%8=0 by omega)]
    exact⟨_,rfl,c,by omega⟩
  · left
    have:=pad8_step c
    rw[decide_eq_false (show¬(s.length:Int)%8=0 by omega)]
    simp only[Bool.not_false,cond_true]
    rw[Zr (by simp only[List.length_cons,List.length_nil,LIM];omega)]
    exact⟨_,rfl,by simp only[List.length_append,List.length_cons,List.length_nil,Nat.zero_add];omega,by simp only[List.length_append,List.length_cons,List.length_nil,Nat.zero_add];omega⟩) (s:=l) (by have:=pad8_le l.length;omega) (Nat.lt_of_le_of_lt (pad8_le _) (small_lt (by omega)))
 exact⟨t,h1,h2⟩
theorem mix_Sum_tot{b:List UInt8}(h:b.length≤10000):∃r,mix_Sum b=some r:=by
 unfold mix_Sum mix_four slices_Clone_byte slices_Clip_byte
 rw[Zr (by simp only[List.length_nil,LIM];omega)]
 simp only[Option.bind_some,List.nil_append]
 rw[slc_eq (by omega) (by omega) (by omega)]
 simp only[Option.bind_some]
 have hc:cut b 0 (b.length:Int)=b:=by simp[cut]
 rw[hc,Zr (by simp only[List.length_cons,List.length_nil,LIM];omega)]
 obtain⟨t,h1,h2,h3⟩:=four_l1 (l:=b++ [1]) (by simp;omega)
 rw[h1]
 simp only[Option.bind_some]
 unfold slices_Chunk_byte
 rw[if_pos ⟨by omega,by omega,by simp only[LIM];omega⟩]
 simp only[Option.bind_some]
 obtain⟨s,hs⟩:=forL_tot (body:=mix_four_r2) (l:=chunks (8:Int).toNat t.length t) (s:=((1:UInt32),(2:UInt32),(3:UInt32),(4:UInt32))) (λy hy s=>by
  have hy8:y.length=8:=chunks_len (n:=8) (by omega) t.length t (Nat.le_refl _) h2 y hy
  unfold mix_four_r2
  rw[slc_eq (by omega) (by omega) (by omega)]
  obtain⟨n1,e1⟩:=number_tot (b:=cut y 0 4) (by rw[show(0:Int)=((0:Nat):Int)from rfl,show(4:Int)=((4:Nat):Int)from rfl,cut_len (by omega) (by omega)])
  rw[e1]
  simp only[Option.bind_some]
  rw[slc_eq (by omega) (by omega) (by omega)]
  obtain⟨n2,e2⟩:=number_tot (b:=cut y 4 (y.length:Int)) (by rw[show(4:Int)=((4:Nat):Int)from rfl,cut_len (by omega) (by omega)];omega)
  rw[e2]
  simp only[Option.bind_some]
  obtain⟨w,e3⟩:=often_tot (A4.mk (s.1^^^n1) s.2.1 (s.2.2.1^^^n2) s.2.2.2) 4 (by omega)
  rw[e3]
  exact⟨_,rfl⟩)
 rw[hs]
 simp only[Option.bind_some,Sum.elim_inl]
 obtain⟨w,e3⟩:=often_tot (A4.mk s.1 (s.2.1^^^(u32i (b.length:Int))) s.2.2.1 s.2.2.2) 8 (by omega)
 rw[e3]
 exact⟨_,rfl⟩
def sumOf (b:List UInt8):UInt32:=(mix_Sum b).getD 0
theorem mix_Sum_eq{b:List UInt8}(h:b.length≤10000):mix_Sum b=some (sumOf b):=by
 obtain⟨r,hr⟩:=mix_Sum_tot h
 unfold sumOf;rw[hr];rfl
end Go.Ow
namespace Go.Ow
theorem Zt{σ τ:Type}{body:σ→Option (σ ⊕ τ)}{n:Nat}{s s':σ}(h:body s=some (.inl s')):run body (n+1) s=run body n s':=by
 show Option.bind (body s) _=_;rw[h];rfl
theorem Zu{σ τ:Type}{body:σ→Option (σ ⊕ τ)}{n:Nat}{s:σ}{t:τ}(h:body s=some (.inr t)):run body (n+1) s=some t:=by
 show Option.bind (body s) _=_;rw[h];rfl
theorem six_fuel:6≤FUEL:=by decide
theorem run5{σ τ:Type}{body:σ→Option (σ ⊕ τ)}{s0 s1 s2 s3 s4 s5:σ}{t:τ}(h0:body s0=some (.inl s1))(h1:body s1=some (.inl s2))(h2:body s2=some (.inl s3))(h3:body s3=some (.inl s4))(h4:body s4=some (.inl s5))(h5:body s5=some (.inr t)):
 loop body s0=some t:=loop_of six_fuel (by rw[Zt h0,Zt h1,Zt h2,Zt h3,Zt h4,Zu h5])
def isNone (p:Ptr):Prop:=p.At=0∧p.Birth=0∧p.Iv=0∧p.Tag=0∧p.Sum=0
instance (p:Ptr):Decidable (isNone p):=by unfold isNone;infer_instance
def okR (p:Ptr):Prop:=12≤p.At∧p.At<256∧(1:UInt32)≤p.Birth∧p.Birth≤16777215
instance (p:Ptr):Decidable (okR p):=by unfold okR;infer_instance
theorem none_dec (p:Ptr):(decide (p.At=0)&&(decide (p.Birth=(0:UInt32))&&(decide (p.Iv=(0:UInt32))&&(decide (p.Tag=(0:UInt32))&&(decide (p.Sum=(0:UInt32))&&true)))))=decide (isNone p):=by
 rw[Bool.eq_iff_iff]
 simp only[Bool.and_eq_true,decide_eq_true_eq,and_true]
 exact Iff.rfl
theorem ptr_Check_eq' (p:Ptr):ptr_Check p=some (if isNone p∨okR p then 0 else 8):=by
 unfold ptr_Check
 rw[none_dec]
 by_cases h0:isNone p
 · rw[decide_eq_true h0,if_pos (.inl h0)];rfl
 rw[decide_eq_false h0]
 by_cases h:okR p
 · rw[if_pos (.inr h)]
   obtain⟨h1,h2,h3,h4⟩:=h
   rw[decide_eq_false (show¬p.At<12 by omega),decide_eq_false (show¬256≤p.At by omega),decide_eq_false (show¬p.Birth<1 from UInt32.not_lt.2 h3),decide_eq_false (show¬(16777215:UInt32)<p.Birth from UInt32.not_lt.2 h4)]
   rfl
 · rw[if_neg (λe=>e.elim h0 h)]
   by_cases h1:p.At<12
   · rw[decide_eq_true h1];rfl
   by_cases h2:256≤p.At
   · rw[decide_eq_false h1,decide_eq_true h2];rfl
   by_cases h3:p.Birth<1
   · rw[decide_eq_false h1,decide_eq_false h2,decide_eq_true h3];rfl
   by_cases h4:(16777215:UInt32)<p.Birth
   · rw[decide_eq_false h1,decide_eq_false h2,decide_eq_false h3,decide_eq_true h4];rfl
   exact absurd ⟨by omega,by omega,UInt32.not_lt.1 h3,UInt32.not_lt.1 h4⟩ h
end Go.Ow
namespace Go.Ow
end Go.Ow
namespace Go.Ow
def okS (s:List UInt8):Prop:=s.length=256∧(∀b∈s,b≤2)∧∀b∈s.take 12,b=1
instance (s:List UInt8):Decidable (okS s):=by unfold okS;infer_instance
theorem maxB_le{a b c:UInt8}:maxB a b≤c↔a≤c∧b≤c:=by
 unfold maxB
 simp only[UInt8.le_iff_toNat_le,UInt8.lt_iff_toNat_lt]
 split<;>omega
theorem max_loop (s:List UInt8)(h:s.length≤1000)(a:UInt8):loop (slices_Max_byte_l1 s) (a,1)=some ((s.drop 1).foldl maxB a):=by
 have:=loop_each' (s.drop 1) (λi r=>(r,i+1)) (body:=slices_Max_byte_l1 s) (τ:=UInt8) (λy r=>some (.inl (maxB r y))) (λr=>r)
  (λi hi r=>by
   have hi':i+1<s.length:=by rw[List.length_drop]at hi;omega
   unfold slices_Max_byte_l1
   rw[cI,if_pos hi',ZN _ hi']
   simp only[List.getElem_drop,Nat.add_comm 1 i]
   rfl)
  (λr=>by
   unfold slices_Max_byte_l1
   rw[cI,if_neg (by rw[List.length_drop];omega)])
  (Nat.lt_of_le_of_lt (by rw[List.length_drop];omega) (show 1000<FUEL by decide)) a
 rw[this,forL_map];rfl
theorem foldl_max (l:List UInt8)(a c:UInt8):l.foldl maxB a≤c↔a≤c∧∀b∈l,b≤c:=by
 induction l generalizing a with
 |nil=>simp
 |cons b l ih=>rw[List.foldl_cons,ih,maxB_le];simp[and_assoc]
theorem max_eq{s:List UInt8}(h:s.length≤1000)(h0:0<s.length):∃m,slices_Max_byte s=some m∧∀c,m≤c↔∀b∈s,b≤c:=by
 refine⟨(s.drop 1).foldl maxB s[0],?_,λc=> ?_⟩
 · unfold slices_Max_byte
   rw[decide_eq_false (by omega),cond_false,show(0:Int)=((0:Nat):Int)from rfl,ZN _ h0,max_loop s h,Option.bind_some]
 · rw[foldl_max]
   cases s with
   |nil=>simp at h0
   |cons a l=>simp
theorem cnt_all (l:List UInt8)(k:Nat):l.foldl (λn x=>if x==(1:UInt8)then n+1 else n) k≤k+l.length∧(l.foldl (λn x=>if x==(1:UInt8)then n+1 else n) k=k+l.length↔∀b∈l,b=1):=by
  induction l generalizing k with
  |nil=>simp
  | cons b l ih=>
    rw[List.foldl_cons]
    by_cases c:b=1
    · subst c
      have:=ih (k+1)
      simp only[beq_self_eq_true,if_true,List.length_cons,List.forall_mem_cons,true_and]
      exact⟨by omega,by rw[←this.2];omega⟩
    · have:=ih k
      rw[if_neg (by simpa using c)]
      simp only[List.length_cons,List.forall_mem_cons]
      exact⟨by omega,⟨λe=>by omega,λe=>absurd e.1 c⟩⟩
theorem space_Check_eq (s:List UInt8):space_Check s=some (if okS s then 0 else 8):=by
 unfold space_Check
 by_cases hl:s.length=256
 · rw [show(!decide ((s.length:Int)=256))=false by rw[decide_eq_true (by omega)];rfl,cond_false]
   obtain⟨m,hm,hmc⟩:=max_eq (s:=s) (by omega) (by omega)
   rw[hm,Option.bind_some]
   by_cases hb:∀b∈s,b≤2
   · have:=(hmc 2).2 hb
     rw[decide_eq_false (by rw[UInt8.lt_iff_toNat_lt];rw[UInt8.le_iff_toNat_le]at this;omega),cond_false,slc_eq (by omega) (by omega) (by omega)]
     have hc:cut s 0 12=s.take 12:=by simp[cut]
     rw[hc]
     unfold bytes_Count
     rw[decide_eq_false (by simp),cond_false,decide_eq_true (by simp),cond_true,show(0:Int)=((0:Nat):Int)from rfl,ZN _ (by simp),Option.bind_some]
     have hk:=cnt_all (s.take 12) 0
     have hlt:(s.take 12).length=12:=by rw[List.length_take];omega
     rw[hlt]at hk
     obtain⟨q,hq⟩:∃q,q=cntB (s.take 12) ([(1:UInt8)][0]):=⟨_,rfl⟩
     rw[←hq]
     have hq':q=(s.take 12).foldl (λn x=>if x==(1:UInt8)then n+1 else n) 0:=hq
     by_cases h1:∀b∈s.take 12,b=1
     · have e:=hk.2.2 h1
       rw[if_pos ⟨hl,hb,h1⟩,decide_eq_true (by omega)];rfl
     · have e:¬q=12:=λe=>h1 (hk.2.1 (by omega))
       rw[if_neg (λh=>h1 h.2.2),decide_eq_false (by omega)];rfl
   · have:¬m≤2:=λh=>hb ((hmc 2).1 h)
     rw[decide_eq_true (by rw[UInt8.lt_iff_toNat_lt];rw[UInt8.le_iff_toNat_le]at this;omega),cond_true,if_neg (λh=>hb h.2.1)]
 · rw[show(!decide ((s.length:Int)=256))=true by rw[decide_eq_false (by omega)];rfl,cond_true,if_neg (λh=>hl h.1)]
end Go.Ow
namespace Go.Ow
theorem lim_le{n:Nat}(h:n≤1000000):n≤LIM:=Nat.le_trans h (by decide)
theorem grow_eq{n:Nat}(h:n≤1000000):slices_Grow_byte (n:Int)=some []:=by
 unfold slices_Grow_byte
 rw[decide_eq_false (by omega),cond_false,show(n:Int)-0=(n:Int) by omega,Za (by omega) (by omega)]
 by_cases c:0<(n:Int)
 · rw[decide_eq_true c,cond_true,mks_eq (lim_le h),slc_eq (by omega) (by omega) (by omega)]
   simp[cut]
 · rw[decide_eq_false c,cond_false];rfl
theorem concat_eq (p:List (List UInt8))(h:p.length≤1000)(hs:(p.map List.length).sum≤1000000):slices_Concat_byte p=some p.flatten:=by
  unfold slices_Concat_byte
  have key:∀(l:List (List UInt8)) (a:Nat),a+(l.map List.length).sum≤1000000→forL (fun(y:List UInt8) (r:Int)=>bif decide (w64 (r+(y.length:Int))<0)then(none:Option (Int ⊕ Int))else some (.inl (w64 (r+(y.length:Int))))) l (a:Int)=some (.inl ((a+(l.map List.length).sum:Nat):Int)):=by
    intro l
    induction l with
    |nil=>intro a _;simp[forL]
    | cons y l ih=>
      intro a ha
      rw[List.map_cons,List.sum_cons]at ha
      have e:w64 ((a:Int)+(y.length:Int))=((a+y.length:Nat):Int):=by rw[Za (by omega) (by omega)];omega
      rw[forL_cons (s':=((a+y.length:Nat):Int)) (by rw[decide_eq_false (by rw[e];omega),cond_false,e]),ih _ (by omega),List.map_cons,List.sum_cons,Nat.add_assoc]
  have l1:=loop_each' p (λi r=>(r,i)) (body:=slices_Concat_byte_l1 p) (τ:=Int) (fun(y:List UInt8) (r:Int)=>bif decide (w64 (r+(y.length:Int))<0)then none else some (.inl (w64 (r+(y.length:Int))))) (λr=>r)
    (λi hi r=>by
      unfold slices_Concat_byte_l1
      rw[cI,if_pos hi,ZN _ hi]
      by_cases c:w64 (r+(p[i].length:Int))<0
      · rw[decide_eq_true c];rfl
      · rw[decide_eq_false c];rfl)
    (λr=>by unfold slices_Concat_byte_l1;rw[cI,if_neg (by omega)]) (lt_fuel (m:=1000) h rfl) 0
  have k0:=key p 0 (by omega)
  rw[show((0:Nat):Int)=0 from rfl]at k0
  have e1:Option.bind (forL (fun(y:List UInt8) (r:Int)=>bif decide (w64 (r+(y.length:Int))<0)then(none:Option (Int ⊕ Int))else some (.inl (w64 (r+(y.length:Int))))) p 0) (ends λr=>r)=some (((0+(p.map List.length).sum:Nat):Int)):=by rw[k0];rfl
  rw[l1,e1,Option.bind_some,grow_eq (by omega),Option.bind_some]
  have key2:∀(l:List (List UInt8)) (a:List UInt8),a.length+(l.map List.length).sum≤1000000→forL (fun(y:List UInt8) (r:List UInt8)=>app r y λq=>(some (.inl q):Option (List UInt8 ⊕ List UInt8))) l a=some (.inl (a++l.flatten)):=by
    intro l
    induction l with
    |nil=>intro a _;simp[forL]
    | cons y l ih=>
      intro a ha
      rw[List.map_cons,List.sum_cons]at ha
      rw[forL_cons (s':=a++y) (by rw[Zr (lim_le (by omega))]),ih _ (by rw[List.length_append];omega),List.flatten_cons,List.append_assoc]
  have l2:=loop_each' p (λi r=>(r,i)) (body:=slices_Concat_byte_l2 p) (τ:=List UInt8) (fun(y:List UInt8) (r:List UInt8)=>app r y λq=>some (.inl q)) (λr=>r)
    (λi hi r=>by
      unfold slices_Concat_byte_l2
      rw[cI,if_pos hi,ZN _ hi]
      unfold app
      by_cases c:r.length+p[i].length≤LIM
      · rw[if_pos c,if_pos c];rfl
      · rw[if_neg c,if_neg c];rfl)
    (λr=>by unfold slices_Concat_byte_l2;rw[cI,if_neg (by omega)]) (lt_fuel (m:=1000) h rfl) []
  have e2:Option.bind (forL (fun(y:List UInt8) (r:List UInt8)=>app r y λq=>(some (.inl q):Option (List UInt8 ⊕ List UInt8))) p []) (ends λr=>r)=some ([]++p.flatten):=by rw[key2 p [] (by simpa using hs)];rfl
  rw[l2,e2,Option.bind_some,List.nil_append]
theorem mix_Four_tot{b:List UInt8}(h:b.length≤10000):∃r,mix_four b=some r:=by
 have:=mix_Sum_tot h
 obtain⟨r,hr⟩:=this
 unfold mix_Sum at hr
 obtain⟨x,hx,-⟩:=ZU hr
 exact⟨x,hx⟩
theorem put4 (a:UInt32):code_Put (a.toNat:Int) 4=some (leB a.toNat 4,0):=by
 have:=code_Put_eq (n:=a.toNat) (k:=4) (by omega) (by omega) (by have:=a.toNat_lt;omega)
 exact this
theorem four_fuel:5≤FUEL:=by decide
theorem mix_Key_tot{b:List UInt8}(h:b.length≤10000):∃r,mix_Key b=some r∧r.length=16:=by
 obtain⟨x,hx⟩:=mix_Four_tot h
 unfold mix_Key
 rw[hx,Option.bind_some]
 have hl:x.l.length=4:=rfl
 have step:∀(i:Nat) (r:List UInt8) (hi:i<x.l.length),r.length≤100→mix_Key_l1 x (r,i)=some (.inl (r++leB (x.l[i]).toNat 4,i+1)):=by
  intro i r hi hr
  unfold mix_Key_l1
  rw[decide_eq_true (by omega),cond_true,ZN _ hi,put4,Option.bind_some,Zr (lim_le (by simp only[Zf];omega))]
 have e:loop (mix_Key_l1 x) ([],0)=some ([]++leB (x.l[0]).toNat 4++leB (x.l[1]).toNat 4++leB (x.l[2]).toNat 4++leB (x.l[3]).toNat 4):=by
  refine loop_of four_fuel ?_
  rw[Zt (step 0 [] (by omega) (by simp)),Zt (step 1 _ (by omega) (by simp[Zf])),Zt (step 2 _ (by omega) (by simp[Zf])),Zt (step 3 _ (by omega) (by simp[Zf]))]
  refine Zu ?_
  unfold mix_Key_l1
  rfl
 rw[e,Option.bind_some]
 exact⟨_,rfl,by simp[Zf]⟩
def keyOf (b:List UInt8):List UInt8:=(mix_Key b).getD []
theorem mix_Key_eq{b:List UInt8}(h:b.length≤10000):mix_Key b=some (keyOf b):=by
 obtain⟨r,hr,-⟩:=mix_Key_tot h
 unfold keyOf;rw[hr];rfl
theorem keyOf_length{b:List UInt8}(h:b.length≤10000):(keyOf b).length=16:=by
 obtain⟨r,hr,hl⟩:=mix_Key_tot h
 unfold keyOf;rw[hr];exact hl
theorem mac_inner_eq{a b c:List UInt8}(h:a.length+b.length+c.length≤10000):mac_inner [a,b,c]=some (keyOf (a++b++c)):=by
 unfold mac_inner
 rw[concat_eq _ (by simp) (by simp;omega),Option.bind_some,show [a,b,c].flatten=a++b++c by simp,mix_Key_eq (by simp;omega)];rfl
def tagB (key b:List UInt8):UInt32:=sumOf (key++ [2]++keyOf (key++ [1]++b))
theorem mac_Tag_eq{key b:List UInt8}(hk:key.length=16)(hb:b.length≤9000):mac_Tag key b=some (tagB key b,0):=by
 unfold mac_Tag tagB
 have hl:=keyOf_length (b:=key++ [1]++b) (by simp;omega)
 rw[show(!decide ((key.length:Int)=16))=false by rw[hk];rfl,cond_false,mac_inner_eq (by simp;omega),Option.bind_some,concat_eq _ (by simp) (by simp only[List.map_cons,List.map_nil,List.sum_cons,List.sum_nil,hl,List.length_cons,List.length_nil];omega),Option.bind_some]
 rw[show [key,[(2:UInt8)],keyOf (key++ [1]++b)].flatten=key++ [2]++keyOf (key++ [1]++b) by simp,mix_Sum_eq (by rw[List.length_append,List.length_append,hl];simp;omega),Option.bind_some]
def pieceK (key:List UInt8)(iv:UInt32)(j:Nat):List UInt8:=keyOf (key++leB iv.toNat 4++leB j 4)
theorem pieceK_length{key:List UInt8}{iv:UInt32}{j:Nat}(hk:key.length=16):(pieceK key iv j).length=16:=keyOf_length (by simp[Zf];omega)
def pieces (key:List UInt8)(iv:UInt32):Nat→List UInt8
 |0=> []
 |j+1=>pieces key iv j++pieceK key iv j
theorem pieces_length{key:List UInt8}{iv:UInt32}(hk:key.length=16):∀j,(pieces key iv j).length=16*j
 |0=>rfl
 |j+1=>by rw[pieces,List.length_append,pieces_length hk j,pieceK_length hk];omega
theorem pieces_loop{key:List UInt8}{iv:UInt32}(hk:key.length=16){n:Nat}(hn:n≤4096):∀(k j f:Nat),j+k=(n+15)/16→k<f→
    run (cipher_pieces_1_l1 (cipher_Stream_r1 (n:Int)) key (leB iv.toNat 4)) f (pieces key iv j,(j:Int))=some (pieces key iv ((n+15)/16))
  |k,j,0,_,hf=>by omega
  | k,j,f+1,hj,hf=>by
    have hpl:=pieces_length (iv:=iv) hk j
    have hput:code_Put ((j:Nat):Int) 4=some (leB j 4,0):=code_Put_eq (n:=j) (k:=4) (by omega) (by omega) (by omega)
    have hcc:slices_Concat_byte [key,leB iv.toNat 4,leB j 4]=some (key++leB iv.toNat 4++leB j 4):=by
      rw[concat_eq _ (by simp) (by simp[Zf];omega)];simp
    have hkey:mix_Key (key++leB iv.toNat 4++leB j 4)=some (pieceK key iv j):=mix_Key_eq (by simp[Zf];omega)
    show Option.bind (cipher_pieces_1_l1 _ _ _ _) _=_
    unfold cipher_pieces_1_l1
    rw[hput,Option.bind_some,hcc,Option.bind_some,hkey,Option.bind_some]
    unfold cipher_Stream_r1
    by_cases c:n≤16*j
    · rw[decide_eq_true (by rw[hpl];omega),cond_true]
      have:j=(n+15)/16:=by omega
      rw[←this];rfl
    · rw[decide_eq_false (by rw[hpl];omega),cond_false,Zr (lim_le (by rw[hpl,pieceK_length hk];omega))]
      obtain⟨k,rfl⟩:∃m,k=m+1:=⟨k-1,by omega⟩
      simp only[Option.bind_some,Sum.elim_inl]
      rw[Za (by omega) (by omega)]
      have:=pieces_loop (iv:=iv) hk hn k (j+1) f (by omega) (by omega)
      rw[show((j+1:Nat):Int)=(j:Int)+1 by omega]at this
      exact this
def streamB (key:List UInt8)(iv:UInt32)(n:Nat):List UInt8:=(pieces key iv ((n+15)/16)).take n
theorem streamB_length{key:List UInt8}{iv:UInt32}{n:Nat}(hk:key.length=16):(streamB key iv n).length=n:=by
 unfold streamB;rw[List.length_take,pieces_length hk];omega
theorem cipher_Stream_eq{key:List UInt8}{iv:UInt32}{n:Nat}(hk:key.length=16)(hn:n≤4096):cipher_Stream key iv (n:Int)=some (streamB key iv n,0):=by
 unfold cipher_Stream
 rw[show(!decide ((key.length:Int)=16))=false by rw[hk];rfl,cond_false,decide_eq_false (by omega),cond_false,decide_eq_false (by omega),cond_false]
 unfold cipher_pieces
 rw[put4,Option.bind_some,Option.bind_some]
 unfold cipher_pieces_1
 have:=pieces_loop (iv:=iv) hk hn ((n+15)/16) 0 FUEL (by omega) (Nat.lt_of_le_of_lt (by omega) (show 1000<FUEL by decide))
 rw[show loop (cipher_pieces_1_l1 (cipher_Stream_r1 (n:Int)) (key,(leB iv.toNat 4,(0:Int)).1).1 (key,(leB iv.toNat 4,(0:Int)).1).2) ([],0)=_ from this]
 simp only[Option.bind_some,Sum.elim_inr]
 rw[slc_eq (by omega) (by omega) (by rw[pieces_length hk];omega)]
 unfold slices_Clone_byte
 have hl:=streamB_length (iv:=iv) (n:=n) hk
 have hc:cut (pieces key iv ((n+15)/16)) 0 (n:Int)=streamB key iv n:=by simp[cut,streamB]
 rw[hc,Zr (lim_le (by simp only[List.length_nil];omega))];rfl
def turnB (key:List UInt8)(iv:UInt32)(b:List UInt8):List UInt8:=List.zipWith (· ^^^ ·) (streamB key iv b.length) b
theorem turnB_length{key:List UInt8}{iv:UInt32}{b:List UInt8}(hk:key.length=16):(turnB key iv b).length=b.length:=by
 unfold turnB;rw[List.length_zipWith,streamB_length hk,Nat.min_self]
theorem turn_loop{b s:List UInt8}(hs:s.length=b.length)(hb:b.length≤4096):loop (cipher_Turn_l1 b) (s,0)=some (List.zipWith (· ^^^ ·) s b):=by
  have key:∀(k i n:Nat),i+k=b.length→k<n→run (cipher_Turn_l1 b) n ((List.zipWith (· ^^^ ·) s b).take i++s.drop i,i)=some (List.zipWith (· ^^^ ·) s b):=by
    intro k
    induction k with
    | zero=>
      intro i n hi hn
      obtain⟨n,rfl⟩:∃m,n=m+1:=⟨n-1,by omega⟩
      refine Zu ?_
      unfold cipher_Turn_l1
      rw[cI,if_neg (by omega),List.drop_eq_nil_of_le (by omega),List.append_nil,List.take_of_length_le (by rw[List.length_zipWith];omega)]
    | succ k ih=>
      intro i n hi hn
      obtain⟨n,rfl⟩:∃m,n=m+1:=⟨n-1,by omega⟩
      have hlt:i<b.length:=by omega
      have hzl:(List.zipWith (· ^^^ ·) s b).length=b.length:=by rw[List.length_zipWith];omega
      have hal:((List.zipWith (· ^^^ ·) s b).take i++s.drop i).length=b.length:=by rw[List.length_append,List.length_take,List.length_drop];omega
      have hat:((List.zipWith (· ^^^ ·) s b).take i++s.drop i)[i]'(by omega)=s[i]'(by omega):=by
        rw[List.getElem_append_right (by rw[List.length_take];omega)]
        simp only[List.length_take,hzl,Nat.min_eq_left (Nat.le_of_lt hlt),Nat.sub_self,List.getElem_drop,Nat.add_zero]
      rw[Zt (s':=((List.zipWith (· ^^^ ·) s b).take (i+1)++s.drop (i+1),i+1))]
      · exact ih (i+1) n (by omega) (by omega)
      · unfold cipher_Turn_l1
        dsimp only
        rw[cI,if_pos hlt,ZN _ hlt,ZN _ (by omega),chk_eq ⟨by omega,by simp only[Int.toNat_natCast];omega⟩,setI_eq (by omega) (by simp only[Int.toNat_natCast];omega),hat]
        congr 3
        rw[Int.toNat_natCast,List.set_append_right _ _ (by rw[List.length_take];omega),List.length_take,hzl,Nat.min_eq_left (Nat.le_of_lt hlt),Nat.sub_self,List.drop_eq_getElem_cons (by omega),List.set_cons_zero,List.take_succ_eq_append_getElem (by omega),List.getElem_zipWith,List.append_assoc]
        rfl
  have:=key b.length 0 FUEL (by omega) (Nat.lt_of_le_of_lt hb (by decide))
  simpa[loop]using this
theorem cipher_Turn_eq{key:List UInt8}{iv:UInt32}{b:List UInt8}(hk:key.length=16)(hb:b.length≤4096):cipher_Turn key iv b=some (turnB key iv b,0):=by
 unfold cipher_Turn
 rw[show(!decide ((key.length:Int)=16))=false by rw[hk];rfl,cond_false,decide_eq_false (by omega),cond_false,cipher_Stream_eq hk hb,Option.bind_some,turn_loop (streamB_length hk) hb];rfl
theorem seal_turned_eq{key:List UInt8}{iv:UInt32}{b:List UInt8}(hk:key.length=16)(hb:b.length≤256):seal_turned key iv b=some (turnB key iv b,0):=by
 unfold seal_turned
 rw[decide_eq_true (by omega),cond_true,decide_eq_false (by omega),cond_false,Option.bind_some,cipher_Turn_eq hk (by omega)];rfl
def sealT (key:List UInt8)(iv:UInt32)(c:List UInt8):UInt32:=tagB key (leB iv.toNat 4++c)
theorem seal_tagged_eq{key:List UInt8}{iv:UInt32}{b:List UInt8}(hk:key.length=16)(hb:b.length≤4096):seal_tagged key iv b=some (sealT key iv b,0):=by
 unfold seal_tagged sealT
 rw[put4,Option.bind_some]
 rw[show(!decide ((leB iv.toNat 4,(0:Int)).2=0))=false from rfl,cond_false,concat_eq _ (by simp) (by simp[Zf];omega),Option.bind_some,show [leB iv.toNat 4,b].flatten=leB iv.toNat 4++b by simp,mac_Tag_eq hk (by simp[Zf];omega)];rfl
theorem seal_Open_eq{key:List UInt8}{iv t:UInt32}{b:List UInt8}(hk:key.length=16)(hb:b.length≤256):seal_Open key iv b t=some (if sealT key iv b=t then(turnB key iv b,0)else([],131)):=by
 unfold seal_Open
 rw[seal_turned_eq hk hb,Option.bind_some]
 rw[show(!decide ((turnB key iv b,(0:Int)).2=0))=false from rfl,cond_false,seal_tagged_eq hk (by omega),Option.bind_some]
 rw[show(!decide ((sealT key iv b,(0:Int)).2=0))=false from rfl,cond_false]
 by_cases c:sealT key iv b=t
 · rw[if_pos c,decide_eq_true c];rfl
 · rw[if_neg c,decide_eq_false c];rfl
end Go.Ow
namespace Go.Ow
def noP:Ptr:=⟨0,0,0,0,0⟩
def OKSt (s:Store):Prop:=OKD s.Disk∧okS s.Space∧(1:UInt32)≤s.Epoch∧s.Epoch≤65535∧s.Count≤65535
instance (s:Store):Decidable (OKSt s):=by unfold OKSt;infer_instance
theorem ndec{e:Int}(h:e≠0):(!decide (e=0))=true:=by rw[decide_eq_false h];rfl
theorem zdec:(!decide ((0:Int)=0))=false:=rfl
theorem d32lt (a b:UInt32):decide (a<b)= !decide (b≤a):=by
 rw[←decide_not];apply decide_eq_decide.2;rw[UInt32.lt_iff_toNat_lt,UInt32.le_iff_toNat_le];omega
theorem store_Check_eq{s:Store}(h:Sized s.Disk):store_Check s=some (if OKSt s then 0 else 8):=by
 unfold store_Check
 rw[dev_Check_eq h,Option.bind_some]
 by_cases c1:OKD s.Disk
 · rw [if_pos c1,zdec,cond_false,space_Check_eq,Option.bind_some]
   by_cases c2:okS s.Space
   · rw [if_pos c2,zdec,cond_false,d32lt,d32lt,d32lt]
     by_cases c3:(1:UInt32)≤s.Epoch
     · by_cases c4:s.Epoch≤65535
       · by_cases c5:s.Count≤65535
         · rw[if_pos ⟨c1,c2,c3,c4,c5⟩,decide_eq_true c3,decide_eq_true c4,decide_eq_true c5];rfl
         · rw[if_neg (λh=>c5 h.2.2.2.2),decide_eq_true c3,decide_eq_true c4,decide_eq_false c5];rfl
       · rw[if_neg (λh=>c4 h.2.2.2.1),decide_eq_true c3,decide_eq_false c4];rfl
     · rw[if_neg (λh=>c3 h.2.2.1),decide_eq_false c3];rfl
   · rw[if_neg c2,ndec (by omega),cond_true,if_neg (λh=>c2 h.2.1)]
 · rw[if_neg c1,ndec (by omega),cond_true,if_neg (λh=>c1 h.1)]
def birthOk (b:UInt32):Prop:=(1:UInt32)≤b∧b≤16777215
instance (b:UInt32):Decidable (birthOk b):=by unfold birthOk;infer_instance
def more (s:Store):Store:=⟨s.Disk,s.Space,s.Epoch,s.Count+1⟩
def lookS (s:Store)(p:Ptr):List UInt8×Int:=
 if OKSt s∧(isNone p∨okR p)then(if isNone p then([],6)else(if sumOf ((seenB s.Disk).getD p.At.toNat [])=p.Sum then((seenB s.Disk).getD p.At.toNat [],0)else([],130)))else([],8)
theorem seen_mem{d:Disk}(h:OKD d){i:Nat}(hi:i<256):((seenB d).getD i []).length=256:=by
 have hl:=seenB_length h
 rw[List.getD_eq_getElem?_getD,List.getElem?_eq_getElem (by omega),Option.getD_some]
 exact layW_all h.2.2.1 (λw hw=>okW_data (h.2.2.2 w hw)) _ (List.getElem_mem _)
theorem none_dec' (p:Ptr):(decide (p.At=0)&&(decide (p.Birth=(0:UInt32))&&(decide (p.Iv=(0:UInt32))&&(decide (p.Tag=(0:UInt32))&&(decide (p.Sum=(0:UInt32))&&true)))))=decide (isNone p):=none_dec p
theorem store_Look_eq{s:Store}(h:Sized s.Disk)(p:Ptr):store_Look s p=some (lookS s p):=by
 unfold store_Look lookS
 rw[store_Check_eq h,Option.bind_some]
 by_cases c1:OKSt s
 · rw [if_pos c1,zdec,cond_false,ptr_Check_eq',Option.bind_some]
   by_cases c2:isNone p∨okR p
   · rw[if_pos c2,zdec,cond_false,none_dec',if_pos ⟨c1,c2⟩]
     by_cases c3:isNone p
     · rw[if_pos c3,decide_eq_true c3];rfl
     · rw[if_neg c3,decide_eq_false c3,cond_false]
       have hr:=c2.resolve_left c3
       obtain⟨i,hi⟩:=Int.eq_ofNat_of_zero_le (show 0≤p.At by have:=hr.1;omega)
       have hi2:i<256:=by have:=hr.2.1;omega
       have hl:=seenB_length c1.1
       rw[show(Disk.mk s.Disk.Blocks s.Disk.Waits)=s.Disk from rfl,hi,dev_Read_eq c1.1 hi2,Option.bind_some]
       dsimp only
       have hm:=seen_mem c1.1 hi2
       have e:(seenB s.Disk).getD i []=(seenB s.Disk)[i]'(by omega):=by rw[List.getD_eq_getElem?_getD,List.getElem?_eq_getElem (by omega),Option.getD_some]
       rw[Int.toNat_natCast,e]
       rw[e]at hm
       rw[show decide ((0:Int)=0)=true from rfl,cond_true,mix_Sum_eq (by omega),Option.bind_some]
       by_cases c4:sumOf ((seenB s.Disk)[i]'(by omega))=p.Sum
       · rw[if_pos c4,decide_eq_true c4];rfl
       · rw[if_neg c4,decide_eq_false c4];rfl
   · rw[if_neg c2,ndec (by omega),if_neg (λh=>c2 h.2)];rfl
 · rw[if_neg c1,ndec (by omega),if_neg (λh=>c1 h.1)];rfl
theorem lookS_ok{s:Store}{p:Ptr}(h:(lookS s p).2=0):OKSt s∧¬isNone p∧okR p∧(lookS s p).1=(seenB s.Disk).getD p.At.toNat []∧sumOf ((seenB s.Disk).getD p.At.toNat [])=p.Sum:=by
 unfold lookS at h⊢
 by_cases c1:OKSt s∧(isNone p∨okR p)
 · rw[if_pos c1]at h⊢
   by_cases c2:isNone p
   · rw[if_pos c2]at h;simp at h
   · rw[if_neg c2]at h⊢
     by_cases c3:sumOf ((seenB s.Disk).getD p.At.toNat [])=p.Sum
     · rw[if_pos c3];exact⟨c1.1,c2,c1.2.resolve_left c2,rfl,c3⟩
     · rw[if_neg c3]at h;simp at h
 · rw[if_neg c1]at h;simp at h
def openS (s:Store)(p:Ptr)(key:List UInt8):List UInt8×Int:=
 if(lookS s p).2=0 then(if key.length=16 then(if sealT key p.Iv (lookS s p).1=p.Tag then(turnB key p.Iv (lookS s p).1,0)else([],131))else([],3))else([],(lookS s p).2)
theorem store_Open_eq{s:Store}(h:Sized s.Disk)(p:Ptr)(key:List UInt8):store_Open s p key=some (openS s p key):=by
 unfold store_Open openS
 rw[store_Look_eq h,Option.bind_some]
 by_cases c1:(lookS s p).2=0
 · rw[if_pos c1,c1,zdec,cond_false]
   by_cases c2:key.length=16
   · rw[if_pos c2,show(!decide ((key.length:Int)=16))=false by rw[c2];rfl,cond_false]
     obtain⟨k1,k2,k3,k4,k5⟩:=lookS_ok c1
     have hm:((lookS s p).1).length=256:=by rw[k4];exact seen_mem k1.1 (by have:=k3.1;have:=k3.2.1;omega)
     rw[seal_Open_eq c2 (by omega),Option.bind_some]
     by_cases c3:sealT key p.Iv (lookS s p).1=p.Tag
     · rw[if_pos c3];rfl
     · rw[if_neg c3];rfl
   · rw[if_neg c2,show(!decide ((key.length:Int)=16))=true by rw[decide_eq_false (by omega)];rfl];rfl
 · rw[if_neg c1,ndec c1];rfl
end Go.Ow
namespace Go.Ow
theorem forL_tot'{α σ τ:Type}{f:α→σ→Option (σ ⊕ τ)}:∀{l:List α} {s:σ},(∀y s,∃o,f y s=some o)→∃o,forL f l s=some o
  |[],s,_=>⟨_,rfl⟩
  | y::l,s,h=>by
    obtain⟨o,h1⟩:=h y s
    cases o with
    |inl s'=>rw[forL_cons h1];exact forL_tot' h
    |inr e=>rw[forL_stop h1];exact⟨_,rfl⟩
def greatF (n:Nat)(r:Int):Option (Int ⊕ Int):=if r<2000000 then some (.inl (w64 (r+(n:Int))))else some (.inr r)
theorem great_tot{d:Disk}(h:Sized d):∃g,ref09_Great d=some g:=by
  have L1:∀r0,∃t,loop (ref09_Great_l1 d) (r0,0)=some t:=λr0=>by
    rw[loop_each' d.Blocks (λi (r:Int)=>(r,i)) (λb r=>greatF b.length r) (λr=>r) (λi hi r=> ?_) (λr=> ?_) (small_lt h.blocks) r0]
    · obtain⟨o,ho⟩:=forL_tot' (f:=fun(b:List UInt8) (r:Int)=>greatF b.length r) (l:=d.Blocks) (s:=r0) (λy s=>by unfold greatF;split<;>exact⟨_,rfl⟩)
      rw[ho];cases o<;>exact⟨_,rfl⟩
    · unfold ref09_Great_l1 greatF
      rw[cI,if_pos hi]
      by_cases c:r<2000000
      · rw[decide_eq_true c,if_pos c,cond_true,ZN _ hi];rfl
      · rw[decide_eq_false c,if_neg c];rfl
    · unfold ref09_Great_l1
      rw[cI,if_neg (by omega)]
  have L2:∀r0,∃t,loop (ref09_Great_l2 d) (r0,0)=some t:=λr0=>by
    rw[loop_each' d.Waits (λi (r:Int)=>(r,i)) (λb r=>greatF b.Data.length r) (λr=>r) (λi hi r=> ?_) (λr=> ?_) (small_lt h.waits) r0]
    · obtain⟨o,ho⟩:=forL_tot' (f:=fun(b:Write) (r:Int)=>greatF b.Data.length r) (l:=d.Waits) (s:=r0) (λy s=>by unfold greatF;split<;>exact⟨_,rfl⟩)
      rw[ho];cases o<;>exact⟨_,rfl⟩
    · unfold ref09_Great_l2 greatF
      rw[cI,if_pos hi]
      by_cases c:r<2000000
      · rw[decide_eq_true c,if_pos c,cond_true,ZN _ hi];rfl
      · rw[decide_eq_false c,if_neg c];rfl
    · unfold ref09_Great_l2
      rw[cI,if_neg (by omega)]
  unfold ref09_Great
  have key:∃t,(cond (decide (500<(d.Blocks.length:Int))) (some (.inr ())) (cond (decide (500<(d.Waits.length:Int))) (cond (decide ((d.Waits.length:Int)<4096)) (some (.inr ())) (cond (decide (4106<(d.Waits.length:Int))) (some (.inr ())) (some (.inl ())))) (cond (decide (4106<(d.Waits.length:Int))) (some (.inr ())) (some (.inl ())))))=some (t:Unit ⊕ Unit):=by
    generalize decide (500<(d.Blocks.length:Int))=b1
    generalize decide (500<(d.Waits.length:Int))=b2
    generalize decide ((d.Waits.length:Int)<4096)=b3
    generalize decide (4106<(d.Waits.length:Int))=b4
    cases b1<;>cases b2<;>cases b3<;>cases b4<;>exact⟨_,rfl⟩
  obtain⟨t,ht⟩:=key
  rw[ht,Option.bind_some]
  cases t with
  | inl _=>
    obtain⟨t1,h1⟩:=L1 0
    obtain⟨t2,h2⟩:=L2 t1
    simp only[Sum.elim_inl]
    rw[h1,Option.bind_some,h2,Option.bind_some]
    exact⟨_,rfl⟩
  |inr _=>exact⟨_,rfl⟩
theorem great13_tot{s:Store}(h:Sized s.Disk):∃g,ref13_Great s=some g:=by
 obtain⟨g,hg⟩:=great_tot h
 unfold ref13_Great
 rw[show ref09_Great (Disk.mk s.Disk.Blocks s.Disk.Waits)=some g from hg,Option.bind_some]
 cases g<;>exact⟨_,rfl⟩
theorem getD_set{B:List (List UInt8)}{j:Nat}(hj:j<B.length)(b:List UInt8)(i:Nat):(B.set j b).getD i []=if i=j then b else B.getD i []:=by
 rw[List.getD_eq_getElem?_getD,List.getElem?_set]
 by_cases c:i=j
 · subst c;rw[if_pos rfl,if_pos hj,if_pos rfl];rfl
 · rw[if_neg (λe=>c e.symm),if_neg c,List.getD_eq_getElem?_getD]
end Go.Ow
namespace Go.Ow
theorem noP_none:isNone noP:=⟨rfl,rfl,rfl,rfl,rfl⟩
end Go.Ow
namespace Go.Ow
def turned (B:List (List UInt8))(j i:Nat)(by':UInt8):List (List UInt8):=B.set j ((B.getD j []).set i (((B.getD j []).getD i 0)^^^by'))
end Go.Ow
namespace Go.Ow
theorem nbeq{α:Type} [DecidableEq α]{a b:α}(h:a=b):(!decide (a=b))=false:=by rw[decide_eq_true h];rfl
theorem nbne{α:Type} [DecidableEq α]{a b:α}(h:¬a=b):(!decide (a=b))=true:=by rw[decide_eq_false h];rfl
end Go.Ow
