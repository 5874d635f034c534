import Derived.Test.YtebhagohhbmgoaaGreatOwMe
/-
  What is proved here: what is in a dataset is told alike by the program and the document: plain lists alone.
-/
set_option linter.unusedSimpArgs false
set_option linter.unusedVariables false
namespace Go.Ow
def noC:Change:=⟨0,0,0,0,0,0,[],noP⟩
def zeroL:Line:=⟨0,0,0,0,0,0,0,noP,[]⟩
theorem asked_eq{p:Pool}(hz:SizedP p)(id:Int):ref20_Asked p id=some (if dec (OKPool p)then(match findL p.Lines id with|some i=>((i:Int),(0:Int))|none=>((0:Int),(6:Int)))else((0:Int),(8:Int))):=by
  unfold ref20_Asked
  rw[may_eq hz,Option.bind_some]
  cases c:dec (OKPool p)with
  |false=>rfl
  | true=>
    have:=(of_dec c).lines.few
    rw[show(!true)=false from rfl,cond_false,ref_line _ _ (by omega),Option.bind_some]
    cases findL p.Lines id with
    |none=>rfl
    |some i=>rw[decide_eq_false (show¬(i:Int)<0 by omega)];rfl
theorem index_eq (l:List Line)(id:Int)(hl:l.length≤1000):∃j,slices_IndexFunc_Line_v2 l id=some (match findL l id with|some i=>(i:Int)|none=> -1,j):=by
  have step:∀i (h:i<l.length),slices_IndexFunc_Line_v2_l1 l (id,i)=some (if l[i].Id=id then .inr (.inr (id,(i:Int)))else .inl (id,i+1)):=λi h=>by
    unfold slices_IndexFunc_Line_v2_l1 data_find_1
    rw[show decide ((((id,i):Int×Nat).2:Int)<(l.length:Int))=true from beq_t _ _ h,cond_true,ZN _ h,Option.bind_some]
    by_cases c:l[i].Id=id<;>simp[c]
  have key:∀(k i f:Nat),i+k=l.length→k<f→(∀j (h:j<l.length),j<i→l[j].Id≠id)→
      run (slices_IndexFunc_Line_v2_l1 l) f (id,i)=some (match findL l id with|some i=>.inr (id,(i:Int))|none=>.inl id):=by
    intro k
    induction k with
    | zero=>
      intro i f hi hf hall
      obtain⟨f,rfl⟩:∃g,f=g+1:=⟨f-1,by omega⟩
      obtain rfl:i=l.length:=by omega
      have:findL l id=none:=by
        unfold findL;rw[List.findIdx?_eq_none_iff]
        intro x hx
        obtain⟨j,hj,rfl⟩:=List.mem_iff_getElem.1 hx
        simpa using hall j hj (by omega)
      rw[this]
      unfold run
      rw[show slices_IndexFunc_Line_v2_l1 l (id,l.length)=some (.inr (.inl id))from by
        unfold slices_IndexFunc_Line_v2_l1
        rw[show decide ((((id,l.length):Int×Nat).2:Int)<(l.length:Int))=false from beq_f _,cond_false]];rfl
    | succ k ih=>
      intro i f hi hf hall
      obtain⟨f,rfl⟩:∃g,f=g+1:=⟨f-1,by omega⟩
      have hlt:i<l.length:=by omega
      by_cases c:l[i].Id=id
      · have:findL l id=some i:=by
          unfold findL;rw[List.findIdx?_eq_some_iff_getElem]
          exact⟨hlt,by simpa using c,λj hj=>by simpa using hall j (by omega) hj⟩
        rw[this]
        unfold run;rw[step i hlt,if_pos c];rfl
      · unfold run;rw[step i hlt,if_neg c]
        refine ih (i+1) f (by omega) (by omega) (λj h hj=> ?_)
        rcases Nat.lt_or_ge j i with h'|h'
        · exact hall j h h'
        · obtain rfl:j=i:=by omega
          exact c
  unfold slices_IndexFunc_Line_v2
  rw[show loop (slices_IndexFunc_Line_v2_l1 l) (id,0)=_ from key l.length 0 FUEL (by omega) (by have:=fuel12 (n:=l.length) (by omega);omega) (λj h hj=>by omega),Option.bind_some]
  cases findL l id with
  |none=>exact⟨id,rfl⟩
  |some i=>exact⟨id,rfl⟩
theorem find_eq{p:Pool}(hz:SizedP p)(id:Int):data_find p id=some (if dec (OKPool p)then(match findL p.Lines id with|some i=>(p.Lines.getD i zeroL,(0:Int))|none=>(zeroL,(6:Int)))else(zeroL,(8:Int))):=by
  unfold data_find
  rw[check_eq hz,Option.bind_some]
  cases c:dec (OKPool p)with
  |false=>rfl
  | true=>
    have:=(of_dec c).lines.few
    obtain⟨j,hj⟩:=index_eq p.Lines id (by omega)
    rw[if_pos rfl,show(!decide ((0:Int)=0))=false from rfl,cond_false,hj,Option.bind_some]
    cases h:findL p.Lines id with
    |none=>rfl
    | some i=>
      obtain⟨h1,_⟩:=findL_some h
      simp only
      rw[decide_eq_false (show¬(i:Int)<0 by omega),cond_false,ZN _ h1,List.getD_eq_getElem?_getD,List.getElem?_eq_getElem h1];rfl
def isAt (a b c:Int)(x:Change):Bool:=decide (x.Set=a)&&(decide (x.Obj=b)&&decide (x.Index=c))
def findC (l:List Change)(a b c:Int):Option Nat:=l.findIdx? (isAt a b c)
theorem findC_some{l:List Change}{a b c:Int}{i:Nat}(h:findC l a b c=some i):∃hi:i<l.length,isAt a b c l[i]=true:=by
 unfold findC at h
 rw[List.findIdx?_eq_some_iff_getElem]at h
 obtain⟨hi,h1,_⟩:=h
 exact⟨hi,h1⟩
theorem ref_Change (l:List Change)(a b c:Int)(hl:l.length≤1000000000000):ref20_Change l a b c=some (match findC l a b c with|some i=>(l.getD i noC,true)|none=>(noC,false)):=by
  have step:∀i (h:i<l.length),ref20_Change_l1 l a b c i=some (if isAt a b c l[i]then .inr (.inr l[i])else .inl (i+1)):=λi h=>by
    unfold ref20_Change_l1 isAt
    simp only[beq_t _ _ h,cond_true,ZN _ h]
    by_cases k1:l[i].Set=a<;>by_cases k2:l[i].Obj=b<;>by_cases k3:l[i].Index=c<;>simp[k1,k2,k3]
  have key:∀(k i f:Nat),i+k=l.length→k<f→(∀j (h:j<l.length),j<i→isAt a b c l[j]=false)→
      run (ref20_Change_l1 l a b c) f i=some (match findC l a b c with|some i=>.inr (l.getD i noC)|none=>.inl ()):=by
    intro k
    induction k with
    | zero=>
      intro i f hi hf hall
      obtain⟨f,rfl⟩:∃g,f=g+1:=⟨f-1,by omega⟩
      obtain rfl:i=l.length:=by omega
      have:findC l a b c=none:=by
        unfold findC;rw[List.findIdx?_eq_none_iff]
        intro x hx
        obtain⟨j,hj,rfl⟩:=List.mem_iff_getElem.1 hx
        exact hall j hj hj
      rw[this]
      unfold run
      rw[show ref20_Change_l1 l a b c l.length=some (.inr (.inl ()))from by unfold ref20_Change_l1;rw[beq_f,cond_false]];rfl
    | succ k ih=>
      intro i f hi hf hall
      obtain⟨f,rfl⟩:∃g,f=g+1:=⟨f-1,by omega⟩
      have hlt:i<l.length:=by omega
      cases q:isAt a b c l[i]with
      | true=>
        have:findC l a b c=some i:=by
          unfold findC;rw[List.findIdx?_eq_some_iff_getElem]
          exact⟨hlt,q,λj hj=>by simpa using hall j (by omega) hj⟩
        rw[this]
        unfold run;rw[step i hlt,if_pos q]
        simp only[List.getD_eq_getElem?_getD,List.getElem?_eq_getElem hlt];rfl
      | false=>
        unfold run;rw[step i hlt,if_neg (by rw[q];simp)]
        refine ih (i+1) f (by omega) (by omega) (λj h hj=> ?_)
        rcases Nat.lt_or_ge j i with h'|h'
        · exact hall j h h'
        · obtain rfl:j=i:=by omega
          exact q
  unfold ref20_Change loop
  rw[key l.length 0 FUEL (by omega) (by have:=fuel12 hl;omega) (λj h hj=>by omega),Option.bind_some]
  cases findC l a b c<;>rfl
def RisingC (l:List Change):Prop:=∀a b (ha:a<l.length) (hb:b<l.length),a<b→lt3 l[a].Set l[a].Obj l[a].Index l[b].Set l[b].Obj l[b].Index
theorem risingC_of{p:Pool}(h:AllOk p.Changes (okCh p)):RisingC p.Changes:=by
  have one:∀a (ha:a+1<p.Changes.length),lt3 p.Changes[a].Set p.Changes[a].Obj p.Changes[a].Index p.Changes[a+1].Set p.Changes[a+1].Obj p.Changes[a+1].Index:=λa ha=>by
    have:=h (a+1) ha
    unfold okCh at this
    simp only[Bool.and_eq_true,Bool.or_eq_true,decide_eq_true_eq,Nat.add_sub_cancel]at this
    rw[List.getElem?_eq_getElem (show a<p.Changes.length by omega)]at this
    rcases this.2.2 with q|q
    · omega
    · simpa using q
  have key:∀d a (ha:a+d+1<p.Changes.length),lt3 p.Changes[a].Set p.Changes[a].Obj p.Changes[a].Index p.Changes[a+d+1].Set p.Changes[a+d+1].Obj p.Changes[a+d+1].Index:=by
    intro d
    induction d with
    |zero=>intro a ha;exact one a ha
    | succ d ih=>
      intro a ha
      have h1:=ih a (by omega)
      have h2:=one (a+d+1) (by omega)
      unfold lt3 at*
      have e:a+(d+1)+1=a+d+1+1:=by omega
      simp only[e]
      omega
  intro a b ha hb hab
  have:=key (b-a-1) a (by omega)
  simpa[show a+(b-a-1)+1=b by omega]using this
theorem change_eq{p:Pool}(h:RisingC p.Changes)(hl:p.Changes.length≤1000000000000)(a b c:Int):data_change p ⟨a,b,c⟩=ref20_Change p.Changes a b c:=by
 rw[ref_Change _ _ _ _ hl]
 obtain⟨n,hn,h1,h2,h3⟩:=bsearch p.Changes (λy=>data_order y ⟨a,b,c⟩) (λy=>sg3 y.Set y.Obj y.Index a b c) (λy _=>place_eq y ⟨a,b,c⟩) (body:=slices_BinarySearchFunc_place_l1 p.Changes ⟨a,b,c⟩) (λs=>rfl)
  (λi j hi hj hij hc=>by
   rw[sg3_neg]at*
   rcases Nat.lt_or_ge i j with q|q
   · have:=h i j hi hj q;unfold lt3 at*;omega
   · obtain rfl:i=j:=by omega
     exact hc) hl
 unfold data_change slices_BinarySearchFunc_place
 rw[h1,Option.bind_some]
 rcases Nat.lt_or_ge n p.Changes.length with q|q
 · rw [show decide ((n:Int)<(p.Changes.length:Int))=true from beq_t _ _ q,cond_true,ZN _ q,place_eq,Option.bind_some,Option.bind_some,Option.bind_some]
   by_cases e:isAt a b c p.Changes[n]=true
   · have hf:findC p.Changes a b c=some n:=by
      unfold findC;rw[List.findIdx?_eq_some_iff_getElem]
      refine⟨q,e,λj hj=> ?_⟩
      have:=h j n (by omega) q hj
      unfold isAt at e⊢
      simp only[Bool.and_eq_true,decide_eq_true_eq]at e
      simp only[Bool.not_eq_true',Bool.and_eq_false_iff,decide_eq_false_iff_not,Bool.not_eq_true]
      unfold lt3 at this;omega
     rw[hf]
     have e':=e
     unfold isAt at e'
     simp only[Bool.and_eq_true,decide_eq_true_eq]at e'
     rw[decide_eq_true (sg3_zero.2 ⟨e'.1,e'.2.1,e'.2.2⟩)]
     simp only[Bool.not_true,cond_false]
     rw[ZN _ q,List.getD_eq_getElem?_getD,List.getElem?_eq_getElem q];rfl
   · have hne:¬(p.Changes[n].Set=a∧p.Changes[n].Obj=b∧p.Changes[n].Index=c):=λw=>e (by unfold isAt;simp[w])
     have hf:findC p.Changes a b c=none:=by
      unfold findC;rw[List.findIdx?_eq_none_iff]
      intro x hx
      obtain⟨j,hj,rfl⟩:=List.mem_iff_getElem.1 hx
      have e9:¬(p.Changes[j].Set=a∧p.Changes[j].Obj=b∧p.Changes[j].Index=c):=by
       rcases Nat.lt_trichotomy j n with w|w|w
       · have:=h2 j hj w;rw[sg3_neg]at this;unfold lt3 at this;omega
       · subst w;exact hne
       · have:=h n j q hj w;have h4:=h3 n q (Nat.le_refl _);rw[sg3_neg]at h4;unfold lt3 at*;omega
      unfold isAt
      by_cases k1:p.Changes[j].Set=a<;>by_cases k2:p.Changes[j].Obj=b<;>by_cases k3:p.Changes[j].Index=c<;>simp[k1,k2,k3]
      exact e9 ⟨k1,k2,k3⟩
     rw[hf,decide_eq_false (λw=>hne (sg3_zero.1 w))]
     rfl
 · have hf:findC p.Changes a b c=none:=by
    unfold findC;rw[List.findIdx?_eq_none_iff]
    intro x hx
    obtain⟨j,hj,rfl⟩:=List.mem_iff_getElem.1 hx
    have e9:=h2 j hj (by omega)
    rw[sg3_neg]at e9
    unfold isAt
    by_cases k1:p.Changes[j].Set=a<;>by_cases k2:p.Changes[j].Obj=b<;>by_cases k3:p.Changes[j].Index=c<;>simp[k1,k2,k3]
    unfold lt3 at e9;omega
   rw[show decide ((n:Int)<(p.Changes.length:Int))=false from decide_eq_false (by omega),cond_false,Option.bind_some,Option.bind_some,hf];rfl
theorem rooted_eq{p:Pool}(hz:SizedP p){i:Nat}(h:i<p.Lines.length)(n:Int):data_rooted p p.Lines[i] n=ref20_rooted p (i:Int) n:=by
 unfold data_rooted ref20_rooted
 rw[ZN _ h,eta_store]
 rw[show Ptr.mk p.Lines[i].Root.At p.Lines[i].Root.Birth p.Lines[i].Root.Iv p.Lines[i].Root.Tag p.Lines[i].Root.Sum=p.Lines[i].Root from rfl]
 rw[set_Object_eq hz.disk,ref_object15]
theorem head_eq{p:Pool}(hz:SizedP p)(hc:RisingC p.Changes){i:Nat}(h:i<p.Lines.length)(n:Int):data_head p p.Lines[i] n=ref20_got p (i:Int) n:=by
 unfold data_head ref20_got
 rw[ZN _ h,change_eq hc hz.changes,rooted_eq hz h]
theorem within4 (a b:Int):data_within [a,16,b,15]=some (decide (0≤a∧a<16)&&decide (0≤b∧b<15)):=by
 unfold data_within
 rw[show slices_Chunk_int [a,16,b,15] 2=some ()from by unfold slices_Chunk_int;rw[if_pos ⟨by decide,by decide,by simp[LIM]⟩],Option.bind_some]
 rw[show chunks (2:Int).toNat [a,16,b,15].length [a,16,b,15]= [[a,16],[b,15]]from rfl]
 have one:∀x y:Int,data_within_r1 [x,y] ()=some (if 0≤x∧x<y then .inl ()else .inr ()):=λx y=>by
  unfold data_within_r1 idx
  by_cases h1:x<0
  · have:¬(0≤x∧x<y):=by omega
    simp[h1,this]
  · by_cases h2:y≤x
    · have:¬(0≤x∧x<y):=by omega
      simp[h1,h2,this]
    · have:0≤x∧x<y:=by omega
      simp[h1,h2,this]
 by_cases k1:0≤a∧a<16
 · rw[forL_cons (s':=()) (by rw[one,if_pos k1])]
   by_cases k2:0≤b∧b<15
   · rw[forL_cons (s':=()) (by rw[one,if_pos k2]),decide_eq_true k1,decide_eq_true k2];rfl
   · rw[forL_stop (e:=()) (by rw[one,if_neg k2]),decide_eq_true k1,decide_eq_false k2];rfl
 · rw[forL_stop (e:=()) (by rw[one,if_neg k1]),decide_eq_false k1];rfl
theorem within2 (a:Int):data_within [a,16]=some (decide (0≤a∧a<16)):=by
 unfold data_within
 rw[show slices_Chunk_int [a,16] 2=some ()from by unfold slices_Chunk_int;rw[if_pos ⟨by decide,by decide,by simp[LIM]⟩],Option.bind_some]
 rw[show chunks (2:Int).toNat [a,16].length [a,16]= [[a,16]]from rfl]
 have one:∀x y:Int,data_within_r1 [x,y] ()=some (if 0≤x∧x<y then .inl ()else .inr ()):=λx y=>by
  unfold data_within_r1 idx
  by_cases h1:x<0
  · have:¬(0≤x∧x<y):=by omega
    simp[h1,this]
  · by_cases h2:y≤x
    · have:¬(0≤x∧x<y):=by omega
      simp[h1,h2,this]
    · have:0≤x∧x<y:=by omega
      simp[h1,h2,this]
 by_cases k1:0≤a∧a<16
 · rw[forL_cons (s':=()) (by rw[one,if_pos k1]),decide_eq_true k1];rfl
 · rw[forL_stop (e:=()) (by rw[one,if_neg k1]),decide_eq_false k1];rfl
end Go.Ow
namespace Go.Ow
theorem ref_opened{s:Store}{p:Ptr}(c:OKSt s)(d:okP p)(key:List UInt8):ref13_Opened s p key=some (openS s p key):=by
 have h:=ref_open_is s p key
 unfold ref13_Open at h
 rw[ref_may13,Option.bind_some,decide_eq_true c,Bool.not_true,cond_false,ref_may10,Option.bind_some,decide_eq_true d,Bool.not_true,cond_false]at h
 cases e:ref13_Opened s p key with
 |none=>rw[e]at h;cases h
 |some r=>rw[e]at h;exact h
theorem objectS_ok{s:Store}{root:Ptr}{n:Int}(h:(objectS s root n).2=0):okO (objectS s root n).1:=by
 unfold objectS at h⊢
 split at h
 · rename_i c;rw[if_pos c]
   split at h
   · cases h
   · rename_i c2;rw[if_neg c2]
     split at h
     · rename_i c3;rw[if_pos c3];exact(oneS_ok h).1
     · rename_i c3;exact absurd h c3
 · cases h
theorem rooted_is{p:Pool}(hz:SizedP p)(L:Line)(n:Int):∃r,data_rooted p L n=some r∧(r.2=0→r.1.Data.length=15∧∀q∈r.1.Data,okP q):=by
 unfold data_rooted
 rw[eta_store,show Ptr.mk L.Root.At L.Root.Birth L.Root.Iv L.Root.Tag L.Root.Sum=L.Root from rfl,set_Object_eq hz.disk,Option.bind_some]
 by_cases c:(objectS p.Store L.Root n).2=6
 · rw[decide_eq_true c,cond_true]
   refine⟨(⟨0,0,0,List.replicate 15 noP⟩,0),mks_eq (n:=15) (by decide),λ_=>⟨List.length_replicate,λq hq=> ?_⟩⟩
   rw[(List.mem_replicate.1 hq).2];exact okP_no
 · rw[decide_eq_false c,cond_false]
   exact⟨_,rfl,λe=>⟨(objectS_ok e).2.2.2.1,(objectS_ok e).2.2.2.2⟩⟩
theorem openS_le (s:Store)(p:Ptr)(key:List UInt8):(openS s p key).1.length≤256:=by
 unfold openS
 split
 · split
   · rename_i k
     split
     · show(turnB key p.Iv (lookS s p).1).length≤256
       rw[turnB_length k];exact lookS_le s p
     · exact Nat.zero_le _
   · exact Nat.zero_le _
 · exact Nat.zero_le _
theorem got_tail{s:Store}{q:Ptr}(hs:Sized s.Disk)(c:OKSt s)(d:okP q)(key:List UInt8):∃v:List UInt8×Int,
 cond (decide (q.At=0)&&(decide (q.Birth=(0:UInt32))&&(decide (q.Iv=(0:UInt32))&&(decide (q.Tag=(0:UInt32))&&(decide (q.Sum=(0:UInt32))&&true))))) (mks 256 (0:UInt8) λx_98=>some (x_98,(0:Int))) (Option.bind (store_Open s q key) λx_100=>some (x_100.1,x_100.2))=some v∧
 (Option.bind (ref10_None q) λx_91=>cond x_91 (mks 256 (0:UInt8) λx_97=>some (x_97,(0:Int))) (Option.bind (ref13_Opened s q key) λx_99=>some (x_99.1,x_99.2)))=some v∧v.1.length≤256:=by
 rw[none_dec',ref_none,Option.bind_some]
 by_cases k:isNone q
 · rw[decide_eq_true k,cond_true,cond_true]
   refine⟨(List.replicate 256 0,0),mks_eq (n:=256) (by decide),mks_eq (n:=256) (by decide),Nat.le_of_eq List.length_replicate⟩
 · rw[decide_eq_false k,cond_false,cond_false,store_Open_eq hs,ref_opened c d]
   exact⟨_,rfl,rfl,openS_le _ _ _⟩
theorem change_is{p:Pool}(ok:OKPool p)(hz:SizedP p)(a b c:Int):∃x:Change×Bool,data_change p ⟨a,b,c⟩=some x∧ref20_Change p.Changes a b c=some x∧(x.2=true→0≤c→c≠15→(x.1.Data.length=0∨x.1.Data.length=256)∧okP x.1.Laid):=by
  rw[change_eq (risingC_of ok.changes) hz.changes,ref_Change _ _ _ _ hz.changes]
  cases h:findC p.Changes a b c with
  |none=>exact⟨_,rfl,rfl,λe=>by cases e⟩
  | some i=>
    obtain⟨hi,hat⟩:=findC_some h
    have e:p.Changes.getD i noC=p.Changes[i]:=by rw[List.getD_eq_getElem?_getD,List.getElem?_eq_getElem hi];rfl
    refine⟨_,rfl,rfl,λ_ h0 h15=> ?_⟩
    simp only[e]
    have:=ok.changes i hi
    unfold okCh okC at this
    unfold isAt at hat
    simp only[Bool.and_eq_true,decide_eq_true_eq]at this hat
    have h2:=this.2.1.2.2.2.2
    rw[if_neg (by omega)]at h2
    unfold okB at h2
    simp only[Bool.and_eq_true,Bool.or_eq_true,decide_eq_true_eq]at h2
    exact⟨h2.2.2.2.1,h2.2.2.2.2⟩
theorem head_is{p:Pool}(ok:OKPool p)(hz:SizedP p){i:Nat}(h:i<p.Lines.length)(n:Int):∃x:Change×Int,data_head p p.Lines[i] n=some x∧ref20_got p (i:Int) n=some x:=by
  rw[←head_eq hz (risingC_of ok.changes) h]
  suffices H:∃x,data_head p p.Lines[i] n=some x from H.imp λx e=>⟨e,e⟩
  unfold data_head
  obtain⟨x,h1,-,-⟩:=change_is ok hz p.Lines[i].Id n 15
  obtain⟨r,h2,-⟩:=rooted_is hz p.Lines[i] n
  rw[h1,Option.bind_some,h2,Option.bind_some]
  cases x.2 with
  | true=>
    rw[show(!true)=false from rfl,cond_false,Option.bind_some]
    show∃y,cond _ _ _=some y
    cases decide (x.1.Kind=0)<;>exact⟨_,rfl⟩
  | false=>
    rw[show(!false)=true from rfl,cond_true]
    cases(!decide (r.2=0))with
    |true=>exact⟨_,rfl⟩
    | false=>
      rw[cond_false,Option.bind_some]
      show∃y,cond _ _ _=some y
      cases decide (r.1.Kind=0)<;>exact⟨_,rfl⟩
theorem getD_line{l:List Line}{i:Nat}(h:i<l.length):l.getD i zeroL=l[i]:=by rw[List.getD_eq_getElem?_getD,List.getElem?_eq_getElem h];rfl
theorem read_both{p:Pool}(hz:SizedP p)(id n b:Int):∃v,data_Read p id n b=some v∧ref20_Read p id n b=some v∧v.1.length≤256:=by
  unfold data_Read ref20_Read
  rw[find_eq hz,asked_eq hz,Option.bind_some,Option.bind_some]
  cases c:dec (OKPool p)with
  |false=>exact⟨([],8),rfl,rfl,Nat.zero_le _⟩
  | true=>
    have ok:=of_dec c
    cases hf:findL p.Lines id with
    |none=>exact⟨([],6),rfl,rfl,Nat.zero_le _⟩
    | some i=>
      obtain⟨hi,hid⟩:=findL_some hf
      simp only[if_true,getD_line hi,decide_true,Bool.not_true,cond_false]
      rw[within4,Option.bind_some]
      by_cases k:(0≤n∧n<16)∧(0≤b∧b<15)
      · rw [decide_eq_true k.1,decide_eq_true k.2,show(!(true&&true))=false from rfl,cond_false,decide_eq_false (show¬n<0 by omega),decide_eq_false (show¬16≤n by omega),decide_eq_false (show¬b<0 by omega),decide_eq_false (show¬15≤b by omega),
          cond_false,cond_false,cond_false,cond_false,ZN _ hi]
        have h2:=ok.lines.two i hi
        unfold ok2 at h2
        simp only[Bool.and_eq_true,decide_eq_true_eq]at h2
        obtain⟨t,ht⟩:∃t:Nat,p.Lines[i].Key=(t:Int):=⟨p.Lines[i].Key.toNat,by omega⟩
        have htl:t<p.Loaded.length:=by have:=ok.loaded.len;omega
        rw[ht,ZN _ htl,ZN _ htl]
        by_cases k2:((p.Loaded[t]).length:Int)=0
        · rw[decide_eq_true k2];exact⟨([],200),rfl,rfl,Nat.zero_le _⟩
        · rw [decide_eq_false k2,cond_false,cond_false]
          obtain⟨x,h3,h4⟩:=head_is ok hz hi n
          rw[h3,h4,Option.bind_some,Option.bind_some]
          by_cases k3:x.2=0
          · rw [nbeq k3,cond_false,cond_false]
            obtain⟨y,h5,h6,h7⟩:=change_is ok hz id n b
            rw[h5,h6,Option.bind_some,Option.bind_some,←rooted_eq hz hi]
            obtain⟨r,h8,h9⟩:=rooted_is hz p.Lines[i] n
            rw[h8,Option.bind_some]
            cases hy:y.2 with
            | true=>
              obtain⟨hd,hl⟩:=h7 hy (by omega) (by omega)
              rw[cond_true,cond_true,show(!true)=false from rfl,cond_false,cond_false]
              by_cases k4:y.1.Data.length=0
              · rw[decide_eq_false (show¬(0:Int)<(y.1.Data.length:Int) by omega),cond_false,cond_false,Option.bind_some,Option.bind_some]
                exact got_tail hz.disk ok.store hl _
              · have e:y.1.Data.length=256:=by omega
                rw[decide_eq_true (show(0:Int)<(y.1.Data.length:Int) by omega),cond_true,cond_true]
                unfold bytes_Clone
                rw[Zr (by rw[e];decide),Zr (by rw[e];decide)]
                exact⟨(y.1.Data,0),rfl,rfl,Nat.le_of_eq e⟩
            | false=>
              simp only[cond_false,cond_true,Bool.not_false,Option.bind_some,Sum.elim_inl]
              by_cases k4:r.2=0
              · rw[nbeq k4,cond_false,cond_false]
                obtain⟨e1,e2⟩:=h9 k4
                obtain⟨m,hm⟩:∃m:Nat,b=(m:Int):=⟨b.toNat,by omega⟩
                have hml:m<r.1.Data.length:=by omega
                rw[hm,ZN _ hml,ZN _ hml,Option.bind_some]
                exact got_tail hz.disk ok.store (e2 _ (List.getElem_mem hml)) _
              · rw[nbne k4,cond_true,cond_true]
                exact⟨([],r.2),rfl,rfl,Nat.zero_le _⟩
          · rw[nbne k3];exact⟨([],x.2),rfl,rfl,Nat.zero_le _⟩
      · refine⟨([],2),?_,?_,Nat.zero_le _⟩
        · have:(decide (0≤n∧n<16)&&decide (0≤b∧b<15))=false:=by
            rw[Bool.and_eq_false_iff,decide_eq_false_iff_not,decide_eq_false_iff_not]
            omega
          rw[this];rfl
        · by_cases c1:n<0
          · rw[decide_eq_true c1];rfl
          · by_cases c2:16≤n
            · rw[decide_eq_false c1,decide_eq_true c2];rfl
            · by_cases c3:b<0
              · rw[decide_eq_false c1,decide_eq_false c2,decide_eq_true c3];rfl
              · rw[decide_eq_false c1,decide_eq_false c2,decide_eq_false c3,decide_eq_true (show 15≤b by omega)];rfl
theorem get_both{p:Pool}(hz:SizedP p)(id n:Int):∃v,data_Get p id n=some v∧ref20_Get p id n=some v:=by
  unfold data_Get ref20_Get
  rw[find_eq hz,asked_eq hz,Option.bind_some,Option.bind_some]
  cases c:dec (OKPool p)with
  |false=>exact⟨(0,0,0,8),rfl,rfl⟩
  | true=>
    have ok:=of_dec c
    cases hf:findL p.Lines id with
    |none=>exact⟨(0,0,0,6),rfl,rfl⟩
    | some i=>
      obtain⟨hi,hid⟩:=findL_some hf
      simp only[if_true,getD_line hi,decide_true,Bool.not_true,cond_false,cond_true]
      rw[within2,Option.bind_some]
      by_cases k:0≤n∧n<16
      · rw[decide_eq_true k,decide_eq_false (show¬n<0 by omega),decide_eq_false (show¬16≤n by omega),show(!true)=false from rfl,cond_false,cond_false,cond_false,Option.bind_some,zdec,cond_false]
        obtain⟨x,h3,h4⟩:=head_is ok hz hi n
        rw[h3,h4]
        exact⟨_,rfl,rfl⟩
      · refine⟨(0,0,0,2),?_,?_⟩
        · rw[decide_eq_false k];rfl
        · by_cases c1:n<0
          · rw[decide_eq_true c1];rfl
          · rw[decide_eq_false c1,decide_eq_true (show 16≤n by omega)];rfl
end Go.Ow
namespace Go.Ow
structure FitP (p:Pool):Prop where
  sized:Sized p.Store.Disk
  disk:FitD p.Store.Disk
  metas:p.MetaL.length≤140737488351232
  lines:p.Lines.length≤140737488351232
  keys:p.Keys.length≤140737488351232
  loaded:p.Loaded.length≤140737488351232
  changes:p.Changes.length≤140737488351232
  dead:∀L∈p.Lines,L.Dead.length≤140737488351232
  key:∀k∈p.Keys,k.length≤140737488351232
  load:∀k∈p.Loaded,k.length≤140737488351232
  data:∀c∈p.Changes,c.Data.length≤140737488351232
structure FewP (p:Pool):Prop where
  store:Few p.Store
  metas:p.MetaL.length≤1000
  lines:p.Lines.length≤1000
  keys:p.Keys.length≤1000
  loaded:p.Loaded.length≤1000
  changes:p.Changes.length≤1000
  dead:∀L∈p.Lines,L.Dead.length≤5000
  key:∀k∈p.Keys,k.length≤1000000
  load:∀k∈p.Loaded,k.length≤1000000
  data:∀c∈p.Changes,c.Data.length≤140737488351232
theorem sum_run{α:Type}(l:List α)(f:α→Int){body:Int×Nat→Option ((Int×Nat) ⊕ Int)}(hf:∀x,0≤f x∧f x≤1000000)
    (step:∀(a:Int) i (h:i<l.length),0≤a→a≤10000000000000→body (a,i)=some (.inl (a+f l[i],i+1)))(stop:∀a,body (a,l.length)=some (.inr a)):
    ∀(k i n:Nat) (a:Int),i+k=l.length→k<n→0≤a→a+k*1000000≤10000000000000→∃t,run body n (a,i)=some t∧a≤t∧t≤a+k*1000000∧∀j (h:j<l.length),i≤j→f l[j]+a≤t:=by
  intro k
  induction k with
  | zero=>
    intro i n a hi hn h0 h1
    obtain⟨n,rfl⟩:∃q,n=q+1:=⟨n-1,by omega⟩
    obtain rfl:i=l.length:=by omega
    exact⟨a,Zu (stop a),Int.le_refl _,by omega,λj h hj=>by omega⟩
  | succ k ih=>
    intro i n a hi hn h0 h1
    obtain⟨n,rfl⟩:∃q,n=q+1:=⟨n-1,by omega⟩
    have hlt:i<l.length:=by omega
    have hx:=hf l[i]
    obtain⟨t,e,h2,h3,h4⟩:=ih (i+1) n (a+f l[i]) (by omega) (by omega) (by omega) (by omega)
    rw[Zt (step a i hlt h0 (by omega))]
    refine⟨t,e,by omega,by omega,λj h hj=> ?_⟩
    rcases Nat.lt_or_ge i j with q|q
    · have:=h4 j h (by omega);omega
    · obtain rfl:i=j:=by omega
      omega
theorem sum_loop{α:Type}(l:List α)(f:α→Int){body:Int×Nat→Option ((Int×Nat) ⊕ Int)}(hf:∀x,0≤f x∧f x≤1000000)
 (step:∀(a:Int) i (h:i<l.length),0≤a→a≤10000000000000→body (a,i)=some (.inl (a+f l[i],i+1)))(stop:∀a,body (a,l.length)=some (.inr a))(hl:l.length≤1000)(a:Int)(h0:0≤a)(h1:a≤5000000000):
 ∃t,loop body (a,0)=some t∧a≤t∧t≤a+1000000000∧∀x∈l,f x+a≤t:=by
 obtain⟨t,e,h2,h3,h4⟩:=sum_run l f hf step stop l.length 0 FUEL a (by omega) (small_lt (by omega)) h0 (by omega)
 exact⟨t,e,h2,by omega,λx hx=>by obtain⟨j,hj,rfl⟩:=List.mem_iff_getElem.1 hx;exact h4 j hj (by omega)⟩
theorem tdiv_le{a m:Int}(h:0≤a)(hm:0<m):0≤a.tdiv m∧a.tdiv m≤a:=by
 rw[Int.tdiv_eq_ediv_of_nonneg h]
 exact⟨Int.ediv_nonneg h (by omega),Int.ediv_le_self _ h⟩
theorem great17{p:Pool}(h:FitP p):∃g,ref17_Great p=some g∧(g=false→FewP p):=by
  unfold ref17_Great
  rw[eta_store]
  obtain⟨g,hg⟩:=great13_tot h.sized
  rw[hg,Option.bind_some]
  cases g with
  |true=>exact⟨true,rfl,λe=>by cases e⟩
  | false=>
    rw[cond_false]
    have h1:=h.metas;have h2:=h.lines;have h3:=h.keys;have h4:=h.loaded;have h5:=h.changes
    rw[Za (n:=(p.MetaL.length:Int)+(p.Lines.length:Int)) (by omega) (by omega),Za (n:=(p.MetaL.length:Int)+(p.Lines.length:Int)+(p.Keys.length:Int)) (by omega) (by omega),
      Za (n:=(p.MetaL.length:Int)+(p.Lines.length:Int)+(p.Keys.length:Int)+(p.Loaded.length:Int)) (by omega) (by omega),Za (n:=(p.MetaL.length:Int)+(p.Lines.length:Int)+(p.Keys.length:Int)+(p.Loaded.length:Int)+(p.Changes.length:Int)) (by omega) (by omega)]
    generalize hs:(p.MetaL.length:Int)+(p.Lines.length:Int)+(p.Keys.length:Int)+(p.Loaded.length:Int)+(p.Changes.length:Int)=a
    by_cases c:1000<a
    · rw[decide_eq_true c];exact⟨true,rfl,λe=>by cases e⟩
    rw[decide_eq_false c,cond_false]
    obtain⟨t1,e1,b1,c1,f1⟩:=sum_loop p.Lines (λL=>min (L.Dead.length:Int) 100000) (body:=ref17_Great_l1 p) (λx=>by omega) (λa i hi q1 q2=>by
      unfold ref17_Great_l1;dsimp only;rw[beq_t _ _ hi,cond_true,ZN _ hi,Za (by omega) (by omega)]) (λa=>by unfold ref17_Great_l1;dsimp only;rw[beq_f,cond_false]) (by omega) a (by omega) (by omega)
    rw[e1,Option.bind_some]
    obtain⟨t2,e2,b2,c2,f2⟩:=sum_loop p.Changes (λL=>(min (L.Data.length:Int) 1000000).tdiv 256) (body:=ref17_Great_l2 p) (λx=>by
      have:=tdiv_le (a:=min (x.Data.length:Int) 1000000) (m:=256) (by omega) (by omega);omega) (λa i hi q1 q2=>by
      have:=tdiv_le (a:=min ((p.Changes[i]).Data.length:Int) 1000000) (m:=256) (by omega) (by omega)
      unfold ref17_Great_l2;dsimp only;rw[beq_t _ _ hi,cond_true,ZN _ hi,Za (n:=(min ((p.Changes[i]).Data.length:Int) 1000000).tdiv 256) (by omega) (by omega),Za (by omega) (by omega)]) (λa=>by unfold ref17_Great_l2;dsimp only;rw[beq_f,cond_false]) (by omega) t1 (by omega) (by omega)
    rw[e2,Option.bind_some]
    obtain⟨t3,e3,b3,c3,f3⟩:=sum_loop p.Keys (λL=>(min (L.length:Int) 1000000).tdiv 24) (body:=ref17_Great_l3 p) (λx=>by
      have:=tdiv_le (a:=min (x.length:Int) 1000000) (m:=24) (by omega) (by omega);omega) (λa i hi q1 q2=>by
      have:=tdiv_le (a:=min ((p.Keys[i]).length:Int) 1000000) (m:=24) (by omega) (by omega)
      unfold ref17_Great_l3;dsimp only;rw[beq_t _ _ hi,cond_true,ZN _ hi,Za (n:=(min ((p.Keys[i]).length:Int) 1000000).tdiv 24) (by omega) (by omega),Za (by omega) (by omega)]) (λa=>by unfold ref17_Great_l3;dsimp only;rw[beq_f,cond_false]) (by omega) t2 (by omega) (by omega)
    rw[e3,Option.bind_some]
    obtain⟨t4,e4,b4,c4,f4⟩:=sum_loop p.Loaded (λL=>(min (L.length:Int) 1000000).tdiv 16) (body:=ref17_Great_l4 p) (λx=>by
      have:=tdiv_le (a:=min (x.length:Int) 1000000) (m:=16) (by omega) (by omega);omega) (λa i hi q1 q2=>by
      have:=tdiv_le (a:=min ((p.Loaded[i]).length:Int) 1000000) (m:=16) (by omega) (by omega)
      unfold ref17_Great_l4;dsimp only;rw[beq_t _ _ hi,cond_true,ZN _ hi,Za (n:=(min ((p.Loaded[i]).length:Int) 1000000).tdiv 16) (by omega) (by omega),Za (by omega) (by omega)]) (λa=>by unfold ref17_Great_l4;dsimp only;rw[beq_f,cond_false]) (by omega) t3 (by omega) (by omega)
    rw[e4,Option.bind_some]
    refine⟨_,rfl,λhd=> ?_⟩
    have hd:=of_decide_eq_false hd
    refine⟨great13_few h.disk hg,by omega,by omega,by omega,by omega,by omega,λL hL=> ?_,λk hk=> ?_,λk hk=> ?_,h.data⟩
    · have:=f1 L hL;omega
    · have:=f3 k hk
      rw[Int.tdiv_eq_ediv_of_nonneg (by omega)]at this
      omega
    · have:=f4 k hk
      rw[Int.tdiv_eq_ediv_of_nonneg (by omega)]at this
      omega
theorem appN_nil{N:Nat}{α β:Type}{l:List α}{k:List α→Option β}(h:l.length≤N):appN N [] l k=k l:=by rw[appN_eq (by simpa using h)];rfl
theorem app_nil'{α β:Type}{l:List α}{k:List α→Option β}(h:l.length≤1000000):app [] l k=k l:=by rw[Zr (by simp only[List.length_nil,LIM];omega)];rfl
theorem setI_same{α β:Type}{l:List α}{i:Nat}{y:α}{k:List α→Option β}(h:i<l.length)(e:y=l[i]):setI l (i:Int) y k=k l:=by
 rw[setI_eq (by omega) (by simpa using h)]
 subst e
 simp
theorem stay_loop{α:Type}(l:List α){body:List α×Nat→Option ((List α×Nat) ⊕ List α)}(step:∀i (h:i<l.length),body (l,i)=some (.inl (l,i+1)))(stop:body (l,l.length)=some (.inr l))(hl:l.length≤1000000):loop body (l,0)=some l:=by
  have key:∀(k i n:Nat),i+k=l.length→k<n→run body n (l,i)=some l:=by
    intro k
    induction k with
    | zero=>
      intro i n hi hn
      obtain⟨n,rfl⟩:∃q,n=q+1:=⟨n-1,by omega⟩
      obtain rfl:i=l.length:=by omega
      exact Zu stop
    | succ k ih=>
      intro i n hi hn
      obtain⟨n,rfl⟩:∃q,n=q+1:=⟨n-1,by omega⟩
      rw[Zt (step i (by omega))]
      exact ih (i+1) n (by omega) (by omega)
  exact key l.length 0 FUEL (by omega) (small_lt (by omega))
theorem copy_loop{α:Type}(l:List α){body:List α×Nat→Option ((List α×Nat) ⊕ List α)}(step:∀i (h:i<l.length),body (l.take i,i)=some (.inl (l.take i++ [l[i]],i+1)))(stop:body (l,l.length)=some (.inr l))(hl:l.length≤1000000):loop body ([],0)=some l:=by
  have key:∀(k i n:Nat),i+k=l.length→k<n→run body n (l.take i,i)=some l:=by
    intro k
    induction k with
    | zero=>
      intro i n hi hn
      obtain⟨n,rfl⟩:∃q,n=q+1:=⟨n-1,by omega⟩
      obtain rfl:i=l.length:=by omega
      rw[List.take_length];exact Zu stop
    | succ k ih=>
      intro i n hi hn
      obtain⟨n,rfl⟩:∃q,n=q+1:=⟨n-1,by omega⟩
      have hlt:i<l.length:=by omega
      rw[Zt (step i hlt),←List.take_succ_eq_append_getElem hlt]
      exact ih (i+1) n (by omega) (by omega)
  have:=key l.length 0 FUEL (by omega) (small_lt (by omega))
  rw[List.take_zero]at this;exact this
theorem twins_eq{l:List (List UInt8)}(hl:l.length≤1000)(h:∀k∈l,k.length≤1000000):ref17_twins l=some l:=by
 unfold ref17_twins
 rw[copy_loop l (λi hi=>by
  have:=h _ (List.getElem_mem hi)
  unfold ref17_twins_l1;dsimp only
  rw[beq_t _ _ hi,cond_true,ZN _ hi,appN_nil (by omega),Zr (by simp only[List.length_take,List.length_cons,List.length_nil,LIM];omega)]) (by unfold ref17_twins_l1;dsimp only;rw[beq_f,cond_false]) (by omega)];rfl
theorem twin17{p:Pool}(h:FewP p):ref17_Twin p=some p:=by
 have h1:=h.metas;have h2:=h.lines;have h5:=h.changes
 unfold ref17_Twin
 rw[eta_store,ref_twin h.store.small,Option.bind_some,app_nil' (by omega),app_nil' (by omega),
  stay_loop p.Lines (λi hi=>by
   have:=h.dead _ (List.getElem_mem hi)
   unfold ref17_Twin_l1;dsimp only
   rw[beq_t _ _ hi,cond_true,ZN _ hi,app_nil' (by omega),ZN _ hi,setI_same hi rfl]) (by unfold ref17_Twin_l1;dsimp only;rw[beq_f,cond_false]) (by omega),
  Option.bind_some,twins_eq h.keys h.key,Option.bind_some,twins_eq h.loaded h.load,Option.bind_some,app_nil' (by omega),
  stay_loop p.Changes (λi hi=>by
   have:=h.data _ (List.getElem_mem hi)
   unfold ref17_Twin_l2;dsimp only
   rw[beq_t _ _ hi,cond_true,ZN _ hi,appN_nil (by omega),ZN _ hi,setI_same hi rfl]) (by unfold ref17_Twin_l2;dsimp only;rw[beq_f,cond_false]) (by omega)]
 rfl
theorem all_loop{α:Type}(l:List α){body:Nat→Option (Nat ⊕ (Unit ⊕ Unit))}(step:∀i (h:i<l.length),body i=some (.inl (i+1)))(stop:body l.length=some (.inr (.inl ())))(hl:l.length≤1000000000000):loop body 0=some (.inl ()):=by
 obtain⟨t,h1,h2⟩:=loop_tests l (λ_ _=>true) (λi h=>by rw[step i h];rfl) stop hl
 rcases h2 with⟨rfl,-⟩|⟨-,h⟩
 · exact h1
 · exact absurd (λi h=>rfl) h
theorem refl32 (q:Ptr):(decide (q.At=q.At)&&(decide (q.Birth=q.Birth)&&(decide (q.Iv=q.Iv)&&(decide (q.Tag=q.Tag)&&(decide (q.Sum=q.Sum)&&true)))))=true:=by simp
theorem ref_same12 (l:List Int)(h:l.length≤1000000):ref12_Same l l=some true:=by
 unfold ref12_Same
 rw[nbeq rfl,cond_false,all_loop l (λi hi=>by unfold ref12_Same_l1;rw[beq_t _ _ hi,cond_true,ZN _ hi,ZN _ hi,nbeq rfl,cond_false]) (by unfold ref12_Same_l1;rw[beq_f,cond_false]) (by omega)];rfl
theorem same_texts (l:List (List UInt8))(h:l.length≤1000000):ref17_sameTexts l l=some true:=by
 unfold ref17_sameTexts
 rw[nbeq rfl,cond_false,all_loop l (λi hi=>by unfold ref17_sameTexts_l1;rw[beq_t _ _ hi,cond_true,ZN _ hi,ZN _ hi,nbeq rfl,cond_false]) (by unfold ref17_sameTexts_l1;rw[beq_f,cond_false]) (by omega)];rfl
theorem same_line{L:Line}(h:L.Dead.length≤5000):ref17_SameLine L L=some true:=by
 unfold ref17_SameLine
 simp[ref_same10 L.Dead (by omega)]
theorem same_change (c:Change):ref17_SameChange c c=some true:=by
 unfold ref17_SameChange ref17_place
 simp
theorem same17{p:Pool}(hs:Sized p.Store.Disk)(h:FewP p):ref17_Same p p=some true:=by
 have h1:=h.metas;have h2:=h.lines;have h3:=h.keys;have h4:=h.loaded;have h5:=h.changes
 unfold ref17_Same
 rw[eta_store,ref_same13 hs,Option.bind_some,Bool.not_true,cond_false,nbeq rfl,cond_false,refl32,Bool.not_true,cond_false,ref_same12 _ (by omega),Option.bind_some,Bool.not_true,cond_false,nbeq rfl,cond_false,nbeq rfl,cond_false,
  all_loop p.Lines (λi hi=>by unfold ref17_Same_l1;rw[beq_t _ _ hi,cond_true,ZN _ hi,ZN _ hi,same_line (h.dead _ (List.getElem_mem hi)),Option.bind_some,Bool.not_true,cond_false]) (by unfold ref17_Same_l1;rw[beq_f,cond_false]) (by omega),
  Option.bind_some,Sum.elim_inl,
  all_loop p.Changes (λi hi=>by unfold ref17_Same_l2;rw[beq_t _ _ hi,cond_true,ZN _ hi,ZN _ hi,same_change,Option.bind_some,Bool.not_true,cond_false]) (by unfold ref17_Same_l2;rw[beq_f,cond_false]) (by omega),
  Option.bind_some,Sum.elim_inl,same_texts _ (by omega),Option.bind_some,cond_true,same_texts _ (by omega),Option.bind_some,cond_true]
 simp
theorem law20_l1_run:∀(k i n:Nat) (l:List UInt8),i+k=l.length→k<n→run law20_DataReads_l1 n (l,i)=some ():=by
  intro k
  induction k with
  | zero=>
    intro i n l hi hn
    obtain⟨n,rfl⟩:∃q,n=q+1:=⟨n-1,by omega⟩
    obtain rfl:i=l.length:=by omega
    refine Zu ?_
    unfold law20_DataReads_l1;dsimp only;rw[beq_f,cond_false]
  | succ k ih=>
    intro i n l hi hn
    obtain⟨n,rfl⟩:∃q,n=q+1:=⟨n-1,by omega⟩
    have hlt:i<l.length:=by omega
    rw[Zt (s':=(l.set i (l[i]+1),i+1)) (by
      unfold law20_DataReads_l1;dsimp only
      rw[beq_t _ _ hlt,cond_true,ZN _ hlt,chk_eq ⟨by omega,by simpa using hlt⟩,setI_eq (by omega) (by simpa using hlt)]
      rfl)]
    exact ih (i+1) n _ (by rw[List.length_set];omega) (by omega)
theorem law_DataReads (p:Pool)(id n b:Int)(h:FitP p):law20_DataReads p id n b=some true:=by
  unfold law20_DataReads
  obtain⟨g,e,hg⟩:=great17 h
  rw[e,Option.bind_some]
  cases g with
  |true=>rfl
  | false=>
    have hf:=hg rfl
    have hz:SizedP p:=⟨h.sized,by have:=hf.metas;omega,by have:=hf.changes;omega⟩
    obtain⟨v,e1,e2,e3⟩:=read_both hz id n b
    obtain⟨u,e4,e5⟩:=get_both hz id n
    rw[cond_false,twin17 hf,Option.bind_some,e1,Option.bind_some,e2,Option.bind_some,e4,Option.bind_some,e5,Option.bind_some,nbeq rfl,cond_false,nbeq rfl,cond_false,nbeq rfl,cond_false,nbeq rfl,cond_false,nbeq rfl,cond_false,nbeq rfl,cond_false,
      show loop law20_DataReads_l1 (v.1,0)=some ()from law20_l1_run v.1.length 0 FUEL v.1 (by omega) (small_lt (by omega)),Option.bind_some,same17 h.sized hf,Option.bind_some]
end Go.Ow
namespace Go.Ow
open Go.RowKit
theorem fitP_of{p:Pool}(k:fit_Pool p):FitP p:=by
 obtain⟨⟨⟨k1,k2⟩,-,-⟩,-,-,k3,k4,k5,k6,k7,-⟩:=k
 refine⟨⟨Nat.le_trans k1.1 (by decide),Nat.le_trans k2.1 (by decide),λw hw=>(k2.2 w hw).1⟩,⟨k1.1,k2.1,λb hb=>(k1.2 b hb).1,λw hw=>(k2.2 w hw).2.1⟩,k3.1,k4.1,k5.1,k6.1,k7.1,λL hL=> ?_,λx hx=>(k5.2 x hx).1,λx hx=>(k6.2 x hx).1,λc hc=> ?_⟩
 · obtain⟨-,-,-,-,-,-,-,-,h⟩:=k4.2 L hL;exact h.1
 · obtain⟨-,-,-,-,-,-,h,-⟩:=k7.2 c hc;exact h.1
theorem law_DataReads' (p:Pool)(id n b:Int)(k:fit_Pool p):law20_DataReads p id n b=some true:=law_DataReads p id n b (fitP_of k)
end Go.Ow
