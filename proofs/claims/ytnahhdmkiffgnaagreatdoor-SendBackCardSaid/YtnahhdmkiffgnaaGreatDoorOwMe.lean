import Derived.Test.YtnahhdmkiffgnaaGreatDoorOwMd
import Derived.RangeFuncIn
import Derived.Test.YtnahhdmkiffgnaaGreatDoorOwMa
import Derived.LoopNIn
import Derived.RangeFuncLeaves
import Derived.Laws.Sem
import Derived.Test.YtnahhdmkiffgnaaGreatDoorOwMc
/-
  What is proved here: append, whole.
-/
set_option linter.unusedSimpArgs false
set_option linter.unusedVariables false
namespace Go.Ev
open Go Go.Ow Go.RowKit
variable{P:Program}{m:Mp}{st:St}{ρ:Operand→Value}{S:Nat→Prop}{w0 w:World}{k:KV}{q:Ex×St}
def ResV (P:Program)(S:Nat→Prop)(w0:World)(m:Mp)(h:Hp)(w:World)(x:Sem Value)(k:KV)(q:Ex×St):Prop:=
 ∃m' v h' w',k v h'=some q∧Ext h.nx m m'∧h.nx≤h'.nx∧Rel m' h' S w0 w'∧bel h'.nx v∧x.run P w=.ok (inst m' v) w'
theorem zsT_some{e:TypeId}(h:zsT P e=true):∃i z,P.info? e=some i∧i.zero=some z∧z.cells.size=i.size:=by
 unfold zsT at h
 split at h
 · rename_i i hi
   split at h
   · rename_i v hv;exact⟨i,v,hi,hv,by rw[←Array.length_toList];exact Nat.eq_of_beq_eq_true h⟩
   · cases h
 · cases h
theorem zeroCells_size (z:Array Value)(n:Nat):(Builtin.zeroCells z n).toList.length=n*z.size:=by simp[Builtin.zeroCells]
theorem grow_ok{h:Hp}(r:Rel m h S w0 w){e:TypeId}{i:TypeInfo}{z:Value}{l:List Value}{sz need c0 nn:Nat}(hm:need≤1099511627776)(hz:z.cells.size=sz)(hpos:0<sz)(hl:l.length=need*sz)(hnn:nn=need*sz)(hb:∀v∈l,bel h.nx v)
 (e':sRow h l nn e sz need k=some q){x:Sem Value}{olds news:Array Value}(ho:olds++news=(l.map (inst m)).toArray)
 (hx:x.run P w=.ok (.slice (some ⟨w.heap.size,0,none⟩) need (grownCap w need c0 e)) (w.drew.alloc (.cells (olds++news++Builtin.zeroCells z.cells (grownCap w need c0 e-need)) e))):ResV P S w0 m h w x k q:=by
 obtain⟨h',h1,h2,h3⟩:=push_some e'
 have hc:=grownCap_ge w need c0 e
 have rd:=r.drew
 have hK:Kept [] w.drew (w.drew.alloc (.cells (olds++news++Builtin.zeroCells z.cells (grownCap w need c0 e-need)) e)):=alloc_kept _
 have hsz:w.drew.heap.size=w.heap.size:=rfl
 refine⟨upd m h.nx ⟨w.heap.size,0,grownCap w need c0 e,sz,grownCap_le_maxLen w need c0 e (Nat.le_trans hm (by decide))⟩,_,h',_,h1,upd_ext _ _ _,by rw[h2];exact Nat.le_succ _,rd.add hK h2 h3 ?_ ⟨Nat.le_refl _,by simp⟩,bel_slice.2 (by rw[h2];exact Nat.lt_succ_self _),?_⟩
 · refine⟨rfl,rfl,by rw[hl];exact hnn,λv hv=>bel_mono (Nat.le_succ _) v (hb v hv),(Builtin.zeroCells z.cells (grownCap w need c0 e-need)).toList,?_,?_,hpos⟩
   · rw[map_ext (upd_ext m h.nx _) hb]
     have:=heap_alloc_new w.drew (.cells (olds++news++Builtin.zeroCells z.cells (grownCap w need c0 e-need)) e)
     rw[show w.drew.heap.size=w.heap.size from rfl]at this
     refine .of ?_
     rw[this,ho]
     congr 2
     apply Array.ext';simp
   · have key:grownCap w need c0 e*sz=l.length+(Builtin.zeroCells z.cells (grownCap w need c0 e-need)).toList.length:=by
      rw[hl,zeroCells_size,hz,←Nat.add_mul];congr 1;omega
     exact⟨by show l.length≤grownCap w need c0 e*sz;omega,by show grownCap w need c0 e*sz≤_;omega⟩
 · rw[hx,inst_slice,iCap_unk,upd_same]
   simp
theorem appNil_ok{h:Hp}(r:Rel m h S w0 w){e:TypeId}{sz n:Nat}{new:List Value}(hsz:szT P e=some sz)(hl:new.length=n*sz)(hb:∀v∈new,bel h.nx v)(e':appNil P h sz e k new n=some q)
    {x:Sem Value}{zeros:Bool}{mayS:Sem Bool}{appended:Sem (Array Value)}(hx:∀i,P.info? e=some i→(0+n≤0∨i.bytes*(0+n)≤1099511627776∧0+n≤1099511627776)→x.run P w=(appCore e i.bytes sz n zeros mayS appended none 0 0).run P w)
    (hA:appended.run P w=.ok (new.map (inst m)).toArray w)(hAd:appended.run P w.drew=.ok (new.map (inst m)).toArray w.drew):ResV P S w0 m h w x k q:=by
  obtain⟨i,hi,hs⟩:=szT_info hsz
  cases n with
  | zero=>
    refine⟨m,.slice none 0 0,h,w,e',Ext.refl _ _,Nat.le_refl _,r,(by simp only[bel];intro x c;cases c),?_⟩
    rw[hx i hi (.inl (Nat.le_refl _)),inst_nilSl,iCap_known (by decide)]
    simp only[appCore,Nat.add_zero,Nat.le_refl,if_true,Sem.run_bind,hA,Result.andThen,Sem.run_pure]
  | succ n=>
    have e'':fN (n+1) (λn'=>Bool.rec none (fN (Nat.mul n' sz) λmm=>sRow h new mm e sz n' k) (and (fitT P e n') (zsT P e)))=some q:=e'
    rw[fN_eq]at e''
    obtain⟨h1,h2⟩:=bT e''
    rw[fN_eq]at h2
    rw[Bool.and_eq_true]at h1
    obtain⟨i',hi',b1,b2,b3⟩:=fitT_some h1.1
    rw[hi]at hi';cases hi'
    obtain⟨i',z,hi',hz,hzs⟩:=zsT_some h1.2
    rw[hi]at hi';cases hi'
    have hpos:0<sz:=by rw[←hs];exact b2
    have hb':i.bytes*(0+(n+1))≤1099511627776:=by rw[Nat.zero_add];exact b1
    have hn':0+(n+1)≤1099511627776:=by omega
    have ho:=appCore_out (P:=P) (elem:=e) (zeros:=zeros) (mayS:=mayS) (appended:=appended) (base:=none) (sLen:=0) (sCap:=0) (n:=n+1) (w:=w) (olds:=#[]) (news:=(new.map (inst m)).toArray) hi hz (run_firstCells_none _ _ _ _ _) hAd (by omega) hb' hn'
    refine grow_ok (i:=i) (c0:=0) r (by omega) (hz:=by rw[hzs,hs]) hpos hl rfl hb h2 (olds:=#[]) (news:=(new.map (inst m)).toArray) (by simp) ?_
    rw[hx i hi (.inr ⟨hb',hn'⟩)]
    rw[hs]at ho
    simpa using ho
theorem Rel.adopt{h h':Hp}(r:Rel m h S w0 w){mb:MB}{b:Blk}(hnx:h'.nx=h.nx+1)(hg:∀j,h'.t.get j=if j=h.nx then some b else h.t.get j)
 (hb:BR (upd m h.nx mb) (h.nx+1) mb w b)(hap:∀i c,h.t.get i=some c→(m i).blk≠mb.blk)(hf:S mb.blk∨w0.heap.size≤mb.blk∨(b.own=false∧S (w0.heap.size+mb.blk))):Rel (upd m h.nx mb) h' S w0 w:=by
 have he:=upd_ext m h.nx mb
 have mo:∀i,i≠h.nx→upd m h.nx mb i=m i:=λi hi=>if_neg hi
 have cs:∀i c,h'.t.get i=some c→(i=h.nx∧c=b)∨(i≠h.nx∧h.t.get i=some c):=λi c e=>by
  rw[hg]at e
  by_cases hi:i=h.nx
  · rw[if_pos hi]at e;exact .inl ⟨hi,(Option.some.inj e).symm⟩
  · rw[if_neg hi]at e;exact .inr ⟨hi,e⟩
 refine⟨λi c e=> ?_,λi j c d e e' hij ho=> ?_,λi c e=> ?_,r.os,r.tape,r.output,r.size,r.drawn,r.keep⟩
 · rcases cs i c e with⟨rfl,rfl⟩|⟨hi,e⟩
   · rw[upd_same,hnx];exact⟨Nat.lt_succ_self _,hb⟩
   · obtain⟨h1,h2⟩:=r.br i c e
     rw[mo i hi,hnx];exact⟨Nat.lt_succ_of_lt h1,h2.ext he (Nat.le_succ _) rfl⟩
 · rcases cs i c e with⟨rfl,rfl⟩|⟨hi,e⟩<;>rcases cs j d e' with⟨rfl,rfl⟩|⟨hj,e'⟩
   · exact absurd rfl hij
   · rw[upd_same,mo j hj];exact(hap j d e').symm
   · rw[upd_same,mo i hi];exact hap i c e
   · rw[mo i hi,mo j hj];exact r.apart i j c d e e' hij ho
 · rcases cs i c e with⟨rfl,rfl⟩|⟨hi,e⟩
   · rw[upd_same];exact hf
   · rw[mo i hi];exact r.fresh i c e
theorem ppos{n:Nat}(h:0<n):∃j,n=j+1:=⟨n-1,by omega⟩
theorem appRow_ok {h:Hp}(r:Rel m h S w0 w){e:TypeId}{b o ln cap sz n:Nat}{new:List Value}(hbl:b<h.nx)(hsz:szT P e=some sz)(hl:new.length=n*sz)(hb:∀v∈new,bel h.nx v)(e':appRow P h b o ln cap sz e k new n=some q)
    {x:Sem Value}{zeros:Bool}{mayS:Sem Bool}{appended:Sem (Array Value)}(hx:∀i,P.info? e=some i→(ln+n≤iCap m (some ⟨b,o,none⟩) cap∨i.bytes*(ln+n)≤1099511627776∧ln+n≤1099511627776)→x.run P w=(appCore e i.bytes sz n zeros mayS appended (some ⟨(m b).blk,(m b).base+o,none⟩) ln (iCap m (some ⟨b,o,none⟩) cap)).run P w)
    (hA:appended.run P w=.ok (new.map (inst m)).toArray w)(hAd:appended.run P w.drew=.ok (new.map (inst m)).toArray w.drew):ResV P S w0 m h w x k q:=by
  obtain⟨i,hi,hs⟩:=szT_info hsz
  rcases Nat.eq_zero_or_pos n with rfl|hn0
  · obtain⟨h1,h2⟩:=bT (show(Bool.rec none (k (.slice (some ⟨b,o,none⟩) ln cap) h) (Bool.rec (Nat.ble ln cap) (unkB h b o ln sz) (Nat.beq cap UNK)):Out)=some q from e')
    have hle:ln≤iCap m (some ⟨b,o,none⟩) cap:=by
      cases hc:Nat.beq cap UNK with
      | true=>
        rw[hc]at h1
        have:=Nat.eq_of_beq_eq_true hc
        subst this
        obtain⟨u1,u2,u3⟩:=unk_some r h1
        exact unk_cap u1 u2 u3
      | false=>
        rw[hc]at h1
        have:cap≠UNK:=λq=>by rw[q,Nat.beq_refl]at hc;cases hc
        rw[iCap_known this];exact ble_le h1
    have hn:new= []:=List.length_eq_zero_iff.1 (by rw[hl,Nat.zero_mul])
    subst hn
    refine⟨m,_,h,w,h2,Ext.refl _ _,Nat.le_refl _,r,bel_slice.2 hbl,?_⟩
    rw[hx i hi (.inl (by omega)),inst_slice]
    exact appCore_in (n:=0) hA (by omega) rfl
  · obtain ⟨n,rfl⟩:=ppos hn0
    have e'':fN (ln+(n+1)) (λneed=>Bool.rec none (Bool.rec (appK h b o ln cap sz e new need k) (appU h b o ln sz e new need k) (Nat.beq cap UNK)) (and (fitT P e need) (zsT P e)))=some q:=e'
    rw[fN_eq]at e''
    obtain⟨h1,h2⟩:=bT e''
    rw[Bool.and_eq_true]at h1
    obtain⟨i',hi',b1,b2,b3⟩:=fitT_some h1.1
    rw[hi]at hi';cases hi'
    obtain⟨i',z,hi',hz,hzs⟩:=zsT_some h1.2
    rw[hi]at hi';cases hi'
    have hpos:0<sz:=by rw[←hs];exact b2
    have hX:=hx i hi (.inr ⟨b1,b3⟩)
    have hzsz:z.cells.size=sz:=by rw[hzs,hs]
    -- what is answered where the row is laid anew
    have out:∀(olds:List Value) (need nn:Nat),(∀v∈olds,bel h.nx v)→olds.length=ln*sz→(∀j v,olds[j]? =some v→w.cell? ⟨(m b).blk,(m b).base+o+j,none⟩=some (inst m v))→iCap m (some ⟨b,o,none⟩) cap<ln+(n+1)→nn=(ln+(n+1))*sz→
        ∀h2:Hp,h2.nx=h.nx→Rel m h2 S w0 w→sRow h2 (olds++new) nn e sz (ln+(n+1)) k=some q→ResV P S w0 m h w x k q:=λolds need nn ob ol oc hlt hnn h2 hnx r2 es=>by
      have hO:(Builtin.firstCells i.size ln (.slice (some ⟨(m b).blk,(m b).base+o,none⟩) ln (iCap m (some ⟨b,o,none⟩) cap))).run P w.drew=.ok (olds.map (inst m)).toArray w.drew:=by
        refine run_firstCells_some w.drew i.size ln _ ln _ (olds.map (inst m)) (by rw[List.length_map,ol,hs]) (λj v ej=> ?_)
        rw[List.getElem?_map]at ej
        cases hq:olds[j]? with
        |none=>rw[hq]at ej;cases ej
        | some u=>
          rw[hq]at ej;cases ej
          rw[add_eq];exact oc j u hq
      have ho:=appCore_out (P:=P) (elem:=e) (zeros:=zeros) (mayS:=mayS) (appended:=appended) (w:=w) hi hz hO hAd hlt b1 b3
      have:=grow_ok (P:=P) (c0:=iCap m (some ⟨b,o,none⟩) cap) (i:=i) (x:=x) r2 (by omega) hzsz hpos (l:=olds++new) (need:=ln+(n+1)) (by rw[List.length_append,ol,hl,←Nat.add_mul]) hnn (λv hv=>by
        rw[hnx]
        rcases List.mem_append.1 hv with hv|hv
        · exact ob v hv
        · exact hb v hv) es (olds:=(olds.map (inst m)).toArray) (news:=(new.map (inst m)).toArray) (by simp) (by rw[hX,←hs];exact ho)
      obtain⟨m',v,h',w',j1,j2,j3,j4,j5,j6⟩:=this
      exact⟨m',v,h',w',j1,by rw[←hnx];exact j2,by rw[←hnx];exact j3,j4,j5,j6⟩
    -- what is answered where it stays in its place
    have inn:∀(cap':Nat),ln+(n+1)≤iCap m (some ⟨b,o,none⟩) cap→iCap m (some ⟨b,o,none⟩) cap'=iCap m (some ⟨b,o,none⟩) cap→overAt h b (Nat.add o (Nat.mul ln sz)) new (λh=>k (.slice (some ⟨b,o,none⟩) (ln+(n+1)) cap') h)=some q→ResV P S w0 m h w x k q:=λcap' hle hc eo=>by
      obtain⟨h',w',j1,j2,j3,j4⟩:=over_some (P:=P) eo r hb
      refine⟨m,_,h',w',j1,Ext.refl _ _,by rw[j2];exact Nat.le_refl _,j3,bel_slice.2 (by rw[j2];exact hbl),?_⟩
      rw[hX,inst_slice,hc]
      refine appCore_in hA hle ?_
      rw[add_eq,show(new.map (inst m)).toArray.toList=new.map (inst m)from rfl,Nat.add_assoc]
      exact j4
    rcases bb_some h2 with⟨hc,h3⟩|⟨hc,h3⟩
    · have hc:=Nat.eq_of_beq_eq_true hc
      subst hc
      obtain⟨bl,h4,h5⟩:=oB_some h3
      have h4':h.t.get b=some bl:=h4
      cases bl with
      | gr nb l t zz=>
        obtain⟨h6,h7⟩:=bT (show(Bool.rec none (Bool.rec (Bool.rec none (overAt h b (Nat.add o (Nat.mul ln sz)) new λh=>k (.slice (some ⟨b,o,none⟩) (ln+(n+1)) UNK) h) (Nat.ble (Nat.add o (Nat.mul (ln+(n+1)) sz)) nb)) (Bool.rec none (appA l new λl'=>h.put b none λh=>fN (Nat.mul (ln+(n+1)) sz) λn'=>sRow h l' n' e sz (ln+(n+1)) k) (ones new)) (and (Nat.beq o 0) (Nat.beq nb (Nat.mul ln sz)))) (and (Nat.beq zz sz) (and (Nat.blt 0 sz) (Nat.beq t e))):Out)=some q from h5)
        simp only[Bool.and_eq_true]at h6
        have hzz:=Nat.eq_of_beq_eq_true h6.1
        have hte:=Nat.eq_of_beq_eq_true h6.2.2
        subst hzz;subst hte
        obtain⟨_,c0,c1,c2,c3,rest,c4,c5,c6⟩:=r.br b _ h4'
        rcases bb_some h7 with⟨h8,h9⟩|⟨h8,h9⟩
        · rw [Bool.and_eq_true]at h8
          have ho:=Nat.eq_of_beq_eq_true h8.1
          have hnb:nb=ln*zz:=Nat.eq_of_beq_eq_true h8.2
          subst ho
          obtain⟨hon,h9⟩:=bT h9
          rw[appA_eq]at h9
          obtain⟨h2',k1,k2,k3⟩:=put_some h9
          rw[fN_eq]at k1
          have r2:Rel m h2' S w0 w:=r.sub k2 (λi' c' ec=>by
            rw[k3]at ec
            by_cases q':i'=b
            · rw[if_pos q']at ec;cases ec
            · rwa[if_neg q']at ec)
          have hcapv:iCap m (some ⟨b,0,none⟩) UNK=(m b).C:=by rw[iCap_unk,Nat.zero_div,Nat.sub_zero]
          by_cases hfit:ln+(n+1)≤(m b).C
          · -- in its place
            obtain⟨h3',p1,p2,p3⟩:=push_some k1
            have hrest:new.length≤rest.length:=by
              have:(ln+(n+1))*zz≤(m b).C*zz:=Nat.mul_le_mul_right _ hfit
              rw[c0]at c5
              rw[Nat.add_mul]at this
              rw[hl];omega
            have hone:∀v∈new.map (inst m),v.oneCell'=true:=λv hv=>by
              obtain⟨u,hu,rfl⟩:=List.mem_map.1 hv
              exact one1_inst (ones_all hon u hu)
            have hst:=c4.store (P:=P) (o:=ln*zz) (vs:=new.map (inst m)) (by simp;omega) hone
            have hcs:(l.map (inst m)++rest).take (ln*zz)++new.map (inst m)++(l.map (inst m)++rest).drop (ln*zz+new.length)=(l++new).map (inst m)++rest.drop new.length:=by
              have hll:(l.map (inst m)).length=ln*zz:=by rw[List.length_map,←c2];exact hnb
              rw[←hll,List.take_left,List.drop_length_add_append,List.map_append]
            have r3:Rel m h2' S w0 (w.setRow (m b).blk ((l++new).map (inst m)++rest.drop new.length).toArray):=
              r.relay h4' rfl k2 k3 (λk' hk=>setRow_other k' hk) setRow_size rfl rfl rfl rfl (λb' eb=>by cases eb)
            have hbn:∀v∈l++new,bel h2'.nx v:=λv hv=>by
              rw[k2]
              rcases List.mem_append.1 hv with hv|hv
              · exact c3 v hv
              · exact hb v hv
            have he:=upd_ext m h2'.nx (m b)
            have hmb:(m b)=⟨(m b).blk,0,(m b).C,zz,(m b).hC⟩:=by have:=(m b).hC;revert c0 c1;cases(m b);rintro rfl rfl;rfl
            refine⟨upd m h2'.nx (m b),_,h3',_,p1,by rw[←k2];exact he,by rw[p2,k2];exact Nat.le_succ _,r3.adopt p2 p3 ?_ (λi' c' ec=> ?_) ((r.fresh b _ h4').imp id λq=>q.imp id λq=>absurd q.1 (by simp[Blk.own])),bel_slice.2 (by rw[p2];exact Nat.lt_succ_self _),?_⟩
            · refine⟨c0,c1,?_,λv hv=>bel_mono (Nat.le_succ _) v (hbn v hv),rest.drop new.length,?_,?_,c6⟩
              · rw[List.length_append,←c2,hnb,hl,←Nat.add_mul];rfl
              · rw[map_ext he hbn];exact c4.set (by simp;omega)
              · refine⟨?_,?_⟩
                · show(l++new).length≤(m b).C*(m b).sz
                  rw[List.length_append,c0,hl]
                  have:=Nat.mul_le_mul_right zz hfit
                  rw[Nat.add_mul]at this
                  omega
                · show(m b).C*(m b).sz≤_
                  rw[List.length_append,List.length_drop];omega
            · rw[k3]at ec
              by_cases q':i'=b
              · rw[if_pos q']at ec;cases ec
              · rw[if_neg q']at ec
                exact λc''=>r.apart b i' _ c' h4' ec (λq''=>q' q''.symm) rfl c''.symm
            · rw[hX,hcapv,inst_slice,iCap_unk,upd_same,c1,Nat.zero_add,Nat.zero_div,Nat.sub_zero]
              refine appCore_in hA hfit ?_
              rw[add_eq,Nat.zero_add,show(new.map (inst m)).toArray.toList=new.map (inst m)from rfl,hst,Nat.add_zero,List.length_map]
              rw[hcs]
          · refine out l 0 _ c3 (by rw[←c2];exact hnb) (λj v ej=> ?_) (by rw[hcapv];omega) rfl h2' k2 r2 k1
            rw[Nat.add_zero]
            exact(r.cell h4' rfl).2.2 j v ej
        · obtain⟨h10,h11⟩:=bT h9
          refine inn UNK ?_ rfl h11
          have h10:o+(ln+(n+1))*zz≤nb:=ble_le h10
          rw[c0]at c5
          exact unk_cap c0 hpos (by omega)
      |cs=>cases h5
      |im=>cases h5
      |df=>cases h5
      |lp=>cases h5
    · have hc:cap≠UNK:=λq=>by rw[q,Nat.beq_refl]at hc;cases hc
      rcases bb_some (show(Bool.rec (cellsB h b o (Nat.mul ln sz) λold=>appA old new λl'=>fN (Nat.mul (ln+(n+1)) sz) λn'=>sRow h l' n' e sz (ln+(n+1)) k) (overAt h b (Nat.add o (Nat.mul ln sz)) new λh=>k (.slice (some ⟨b,o,none⟩) (ln+(n+1)) cap) h) (Nat.ble (ln+(n+1)) cap):Out)=some q from h3)with⟨h4,h5⟩|⟨h4,h5⟩
      · exact inn cap (by rw[iCap_known hc];exact ble_le h4) rfl h5
      · obtain⟨olds,j1,j2,j3,j4⟩:=cellsB_some h5 r
        rw[appA_eq,fN_eq]at j1
        have hlt:cap<ln+(n+1):=by
          rcases Nat.lt_or_ge cap (ln+(n+1))with c|c
          · exact c
          · have:Nat.ble (ln+(n+1)) cap=true:=Nat.ble_eq_true_of_le c
            rw[this]at h4;cases h4
        exact out olds 0 _ j3 j2 j4 (by rw[iCap_known hc];exact hlt) rfl h rfl r j1
end Go.Ev
namespace Go.Ev
open Go Go.Ow Go.RowKit
variable{P:Program}{m:Mp}{st:St}{ρ:Operand→Value}{S:Nat→Prop}{w0 w:World}{k:KV}{q:Ex×St}{ty:TypeId}
theorem strL_bvs (l:List UInt8):strL l=bvs l:=rfl
theorem firstCells_string (sz:Nat)(s:ByteArray)(w:World):(Builtin.firstCells sz s.size (.string s)).run P w=.ok (bvs s.data.toList).toArray w:=by
 have:s.extract 0 s.size=s:=by simp
 simp only[Builtin.firstCells,Sem.run_pure,this]
 congr 1
 apply Array.ext'
 simp[bvs]
theorem zeroCells_flat (z:Array Value)(n:Nat)(hz:0<z.size):Builtin.zeroCells z n=((List.replicate n z.toList).flatten).toArray:=by
 apply Array.ext'
 exact madeCells_flat z n hz
theorem bvs_bel (l:List UInt8)(n:Nat):∀v∈bvs l,bel n v:=λv hv=>by
 obtain⟨b,_,rfl⟩:=List.mem_map.1 hv
 exact bel_int
theorem appY_some{h:Hp}{T T2 e:TypeId}{sz:Nat}{y:Value}{go:List Value→Nat→Out}(hT:P.underlying T=some (.slice e))(hs:szT P e=some sz)(r:Rel m h S w0 w)(e':appY P h T2 y e sz go=some q):
    ∃ (new:List Value) (n:Nat) (zeros:Bool) (mayS:Option Addr→Nat→Sem Bool) (appended:Sem (Array Value)),go new n=some q∧new.length=n*sz∧(∀v∈new,bel h.nx v)∧
      (∀(ty:TypeId) (base:Option Addr) (sLen sCap:Nat) (i:TypeInfo),P.info? e=some i→(sLen+n≤sCap∨i.bytes*(sLen+n)≤1099511627776∧sLen+n≤1099511627776)→
        (Builtin.append_ #[T,T2] ty #[.slice base sLen sCap,inst m y]).run P w=(appCore e i.bytes sz n zeros (mayS base sLen) appended base sLen sCap).run P w)∧
      appended.run P w=.ok (new.map (inst m)).toArray w∧appended.run P w.drew=.ok (new.map (inst m)).toArray w.drew:=by
  obtain⟨i,hi,rfl⟩:=szT_info hs
  unfold appY at e'
  split at e'
  · rename_i ao n c
    obtain⟨h1,h2⟩:=bT e'
    obtain⟨ao',ln,cap,vs,he,h3,h4,h5,h6⟩:=cellsAt_some h2 r
    cases he
    have hin:inst m (.slice ao n c)=.slice (ao.map (iA m)) n (iCap m ao c):=by simp[inst]
    have hA:∀w',(∀a,w'.cell? a=w.cell? a)→(Builtin.firstCells i.size n (.slice (ao.map (iA m)) n (iCap m ao c))).run P w'=.ok (vs.map (inst m)).toArray w':=λw' hw=>by
      rcases h6 with⟨rfl,rfl⟩|⟨b,o,rfl,h7⟩
      · exact run_firstCells_none _ _ _ _ _
      · refine run_firstCells_some w' i.size n _ n _ (vs.map (inst m)) (by rw[List.length_map,h4];rfl) (λj v ej=> ?_)
        rw[List.getElem?_map]at ej
        cases hq:vs[j]? with
        |none=>rw[hq]at ej;cases ej
        | some u=>
          rw[hq]at ej;cases ej
          rw[hw];show w.cell? ((⟨(m b).blk,(m b).base+o,none⟩:Addr).add j)=_;rw[add_eq];exact h7 j u hq
    refine⟨vs,n,false,λbase sLen=>Builtin.mayShare i.size sLen n base (.slice (ao.map (iA m)) n (iCap m ao c)),Builtin.firstCells i.size n (.slice (ao.map (iA m)) n (iCap m ao c)),h3,h4,h5,λty base sLen sCap i' hi' hh=> ?_,hA w (λ_=>rfl),hA w.drew (λ_=>rfl)⟩
    rw[hi]at hi';cases hi'
    rw[hin]
    exact append_slice hT (notIntT_some h1) hi hh w
  · rename_i s
    obtain⟨h1,h2⟩:=bT e'
    rw[allA_eq]at h2
    rw[Bool.and_eq_true]at h1
    have h1':i.size=1:=Nat.eq_of_beq_eq_true h1.2
    have hsz:s.data.toList.length=s.size:=by simp
    rw[hsz]at h2
    refine⟨_,s.size,false,λbase sLen=>Builtin.mayShare i.size sLen s.size base (.string s),Builtin.firstCells i.size s.size (.string s),h2,?_,?_,λty base sLen sCap i' hi' hh=> ?_,?_,?_⟩
    · rw[h1',strL_bvs];simp[bvs]
    · exact bvs_bel _ _
    · rw[hi]at hi';cases hi'
      rw[show inst m (.string s)=.string s by simp[inst]]
      exact append_string hT (notIntT_some h1.1) hi hh w
    · rw[strL_bvs,bvs_inst];exact firstCells_string _ _ _
    · rw[strL_bvs,bvs_inst];exact firstCells_string _ _ _
  · rename_i kd n
    obtain⟨h1,h2⟩:=bT e'
    obtain⟨z,h3,h4⟩:=oB_some h2
    rw[repA_eq]at h4
    simp only[Bool.and_eq_true]at h1
    obtain⟨kt,hkt⟩:=intT_some h1.1
    obtain⟨i',hi',b1,b2,b3⟩:=fitT_some h1.2.1
    rw[hi]at hi';cases hi'
    obtain⟨i',zv,hi',hz,rfl,hf,hlen⟩:=zrT_some h3
    rw[hi]at hi';cases hi'
    have hzs:0<zv.cells.size:=by rw[←Array.length_toList,hlen];exact b2
    refine⟨_,n,true,λbase sLen=>Builtin.mayShare i.size sLen n base (.int kd (n:Int)),pure (Builtin.zeroCells zv.cells n),h4,?_,zeros_bel hf _ _,λty base sLen sCap i' hi' hh=> ?_,?_,?_⟩
    · rw[List.length_flatten];simp[hlen]
    · rw[hi]at hi';cases hi'
      rw[inst_int,show Int.ofNat n=(n:Int)from rfl]
      exact append_made hT hkt hi hz b1 b3 b2 hh w
    · rw[zeros_inst hf,Sem.run_pure,zeroCells_flat _ _ hzs]
    · rw[zeros_inst hf,Sem.run_pure,zeroCells_flat _ _ hzs]
  · cases e'
theorem appendV_ok{h:Hp}(r:Rel m h S w0 w){T T2:TypeId}{x y:Value}(hx:bel h.nx x)(e:appendV P h T T2 x y k=some q):ResV P S w0 m h w (Builtin.append_ #[T,T2] ty #[inst m x,inst m y]) k q:=by
 obtain⟨⟨el,sz⟩,h1,h2⟩:=oB_some e
 obtain⟨hT,hs⟩:=elT_some h1
 split at h2
 · obtain⟨new,n,zeros,mayS,appended,g1,g2,g3,g4,g5,g6⟩:=appY_some hT hs r h2
   exact appNil_ok r hs g2 g3 g1 (λi hi hh=>by rw[inst_nilSl,iCap_known (by decide)];exact g4 ty none 0 0 i hi hh) g5 g6
 · rename_i b o ln cap
   obtain⟨new,n,zeros,mayS,appended,g1,g2,g3,g4,g5,g6⟩:=appY_some hT hs r h2
   exact appRow_ok r (bel_slice.1 hx) hs g2 g3 g1 (λi hi hh=>by rw[inst_slice];exact g4 ty _ ln _ i hi hh) g5 g6
 · cases h2
theorem ResV.same{h:Hp}{x:Sem Value}{v:Value}(r:Rel m h S w0 w)(e:k v h=some q)(hb:bel h.nx v)(hx:x.run P w=.ok (inst m v) w):ResV P S w0 m h w x k q:=
 ⟨m,v,h,w,e,Ext.refl _ _,Nat.le_refl _,r,hb,hx⟩
def PResV (P:Program)(m:Mp)(h:Hp)(x:Sem Value)(k:KV)(q:Ex×St):Prop:=∃v,k v h=some q∧bel h.nx v∧∀w,x.run P w=.ok (inst m v) w
theorem PResV.same{h:Hp}{x:Sem Value}{v:Value}(r:Rel m h S w0 w)(e:k v h=some q)(hb:bel h.nx v)(hx:∀w,x.run P w=.ok (inst m v) w):PResV P m h x k q:=⟨v,e,hb,hx⟩
theorem PResV.res{h:Hp}{x:Sem Value}(p:PResV P m h x k q)(r:Rel m h S w0 w):ResV P S w0 m h w x k q:=by
 obtain⟨v,e,hb,hx⟩:=p
 exact .same r e hb (hx w)
theorem slT_some{T:TypeId}(h:slT P T=true):∃e,P.underlying T=some (.slice e):=by
 unfold slT at h
 split at h
 · rename_i e hu;exact⟨e,hu⟩
 · cases h
theorem strT'_some{T:TypeId}(h:strT' P T=true):P.underlying T=some .string:=by
 unfold strT' at h
 split at h
 · rename_i hu;exact hu
 · cases h
theorem len_p{h:Hp}(r:Rel m h S w0 w){T:TypeId}{ts:List TypeId}{x:Value}(e:lenV P h T x k=some q):PResV P m h (Builtin.len_ (T::ts).toArray ty #[inst m x]) k q:=by
 unfold lenV at e
 split at e
 · rename_i ao n c
   obtain⟨h1,h2⟩:=bT e
   obtain⟨el,hu⟩:=slT_some h1
   refine .same r h2 bel_int ?_
   intro w
   rw[inst_int,show inst m (.slice ao n c)=.slice (ao.map (iA m)) n (iCap m ao c) by simp[inst]]
   simp[Builtin.len_,run_underlying hu,goInt]
 · rename_i s
   obtain⟨h1,h2⟩:=bT e
   rw[fN_eq]at h2
   have hu:=strT'_some h1
   refine .same r h2 bel_int ?_
   intro w
   rw[inst_int,show inst m (.string s)=.string s by simp[inst]]
   simp[Builtin.len_,run_underlying hu,goInt]
 · cases e
theorem cap_p{h:Hp}(r:Rel m h S w0 w){T:TypeId}{ts:List TypeId}{x:Value}(e:capV P h T x k=some q):PResV P m h (Builtin.cap_ (T::ts).toArray ty #[inst m x]) k q:=by
 unfold capV at e
 split at e
 · rename_i ao n c
   rcases bb_some (show(Bool.rec (Bool.rec none (k (.int .i64 (.ofNat c)) h) (slT P T)) none (Nat.beq c UNK):Out)=some q from e)with⟨_,h1⟩|⟨hc,h1⟩
   · cases h1
   · obtain⟨h1,h2⟩:=bT h1
     have hc:c≠UNK:=λq=>by rw[q,Nat.beq_refl]at hc;cases hc
     obtain⟨el,hu⟩:=slT_some h1
     refine .same r h2 bel_int ?_
     intro w
     rw[inst_int,show inst m (.slice ao n c)=.slice (ao.map (iA m)) n (iCap m ao c) by simp[inst],iCap_known hc]
     simp[Builtin.cap_,run_underlying hu,goInt]
 · cases e
theorem ltI_iff (a b:Int):ltI a b=decide (a<b):=ltI_eq a b
theorem min_p{h:Hp}(r:Rel m h S w0 w){ts:Array TypeId}{x y:Value}(e:minV h x y k=some q):PResV P m h (Builtin.min_ ts ty #[inst m x,inst m y]) k q:=by
 obtain⟨kd,a,rfl,h1⟩:=vInt_some e
 obtain⟨kd',b,rfl,h2⟩:=vInt_some h1
 refine .same r h2 bel_int ?_
 intro w
 rw[inst_int,inst_int,inst_int,ltI_iff]
 by_cases hl:b<a<;>simp[Builtin.min_,Builtin.min2,hl,bb]
theorem max_p{h:Hp}(r:Rel m h S w0 w){ts:Array TypeId}{x y:Value}(e:maxV h x y k=some q):PResV P m h (Builtin.max_ ts ty #[inst m x,inst m y]) k q:=by
 obtain⟨kd,a,rfl,h1⟩:=vInt_some e
 obtain⟨kd',b,rfl,h2⟩:=vInt_some h1
 refine .same r h2 bel_int ?_
 intro w
 rw[inst_int,inst_int,inst_int,ltI_iff]
 by_cases hl:a<b<;>simp[Builtin.max_,Builtin.max2,hl,bb]
theorem copy_ok {h :Hp}(r:Rel m h S w0 w){T:TypeId}{ts:List TypeId}{x y:Value}(hx:bel h.nx x)(e:copyV P h T x y k=some q):ResV P S w0 m h w (Builtin.copy_ (T::ts).toArray ty #[inst m x,inst m y]) k q:=by
  unfold copyV at e
  split at e
  · rename_i b o n cap
    obtain⟨⟨el,sz⟩,h1,h2⟩:=oB_some e
    obtain⟨hT,hs⟩:=elT_some h1
    obtain⟨i,hi,rfl⟩:=szT_info hs
    unfold copyY at h2
    split at h2
    · rename_i ao l c
      rw[fN_eq]at h2
      have hq:(bb (Nat.ble l n) l n:Nat)=Nat.min l n:=by
        show(Bool.rec n l (Nat.ble l n):Nat)=_
        cases hb:Nat.ble l n with
        |true=>have:=Nat.le_of_ble_eq_true hb;exact(Nat.min_eq_left this).symm
        | false => have:¬l≤n:=λq=>by rw[Nat.ble_eq_true_of_le q]at hb;cases hb
                   exact(Nat.min_eq_right (Nat.le_of_not_le this)).symm
      rw[hq]at h2
      obtain⟨ao',ln,cp,vs,he,h3,h4,h5,h6⟩:=cellsAt_some h2 r
      cases he
      have hA:(Builtin.firstCells i.size (Nat.min l n) (.slice (ao.map (iA m)) l (iCap m ao c))).run P w=.ok (vs.map (inst m)).toArray w:=by
        rcases h6 with⟨rfl,rfl⟩|⟨b,o,rfl,h7⟩
        · exact run_firstCells_none _ _ _ _ _
        · refine run_firstCells_some w i.size _ _ l _ (vs.map (inst m)) (by rw[List.length_map,h4];rfl) (λj v ej=> ?_)
          rw[List.getElem?_map]at ej
          cases hq:vs[j]? with
          |none=>rw[hq]at ej;cases ej
          |some u=>rw[hq]at ej;cases ej;show w.cell? ((⟨(m b).blk,(m b).base+o,none⟩:Addr).add j)=_;rw[add_eq];exact h7 j u hq
      have hsize:=run_size hs w
      have core:∀w',(storeCells ⟨(m b).blk,(m b).base+o,none⟩ (vs.map (inst m))).run P w=.ok () w'→
          (Builtin.copy_ (T::ts).toArray ty #[inst m (.slice (some ⟨b,o,none⟩) n cap),inst m (.slice ao l c)]).run P w=.ok (.int .i64 (Nat.min l n:Nat)) w':=λw' hw=>by
        rw[inst_slice,show inst m (.slice ao l c)=.slice (ao.map (iA m)) l (iCap m ao c) by simp[inst]]
        simp[Builtin.copy_,run_underlying hT,Builtin.lenOf,hsize,hA,hw,goInt,Result.andThen]
      unfold copyGo at h3
      cases hn:Nat.min l n with
      | zero=>
        rw[hn]at h3
        have hv:vs= []:=List.length_eq_zero_iff.1 (by rw[h4,hn];exact Nat.zero_mul _)
        refine .same r (show k (.int .i64 (.ofNat 0)) h=some q from h3) bel_int ?_
        rw[core w (by rw[hv];rfl),inst_int,hn];rfl
      | succ j=>
        rw[hn]at h3
        obtain⟨h',w',j1,j2,j3,j4⟩:=over_some (P:=P) (show overAt h b o vs (λh=>k (.int .i64 (.ofNat (j+1))) h)=some q from h3) r h5
        refine⟨m,_,h',w',j1,Ext.refl _ _,by rw[j2];exact Nat.le_refl _,j3,bel_int,?_⟩
        rw[core w' j4,inst_int,hn];rfl
    · cases h2
  · cases e
theorem clear_ok{h:Hp}(r:Rel m h S w0 w){T:TypeId}{ts:List TypeId}{x:Value}(e:clearV P h T x k=some q):ResV P S w0 m h w (Builtin.clear_ (T::ts).toArray ty #[inst m x]) k q:=by
 unfold clearV at e
 split at e
 · rename_i b o n c
   obtain⟨⟨el,sz⟩,h1,h2⟩:=oB_some e
   obtain⟨hT,hs⟩:=elT_some h1
   obtain⟨z,h3,h4⟩:=oB_some h2
   rw[repA_eq]at h4
   obtain⟨h5,h6⟩:=bT h4
   obtain⟨i,zv,hi,hz,rfl,hf,hlen⟩:=zrT_some h3
   obtain⟨h',w',j1,j2,j3,j4⟩:=over_some (P:=P) h6 r (zeros_bel hf _ _)
   refine⟨m,_,h',w',j1,Ext.refl _ _,by rw[j2];exact Nat.le_refl _,j3,bel_tuple.2 (λv hv=>by cases hv),?_⟩
   rw[zeros_inst hf]at j4
   obtain⟨n,rfl⟩:=ppos (blt_lt h5)
   rw[inst_slice,inst_tuple]
   by_cases hp:0<zv.cells.size
   · have hzc:=zeroCells_flat zv.cells (n+1) hp
     simp[Builtin.clear_,run_underlying hT,run_zero hi hz,hzc,j4,Result.andThen]
   · have hz0:zv.cells.toList= []:=List.length_eq_zero_iff.1 (by rw[Array.length_toList];omega)
     have hzc:Builtin.zeroCells zv.cells (n+1)=((List.replicate (n+1) zv.cells.toList).flatten).toArray:=by
      apply Array.ext'
      rw[hz0]
      have:zv.cells.size=0:=by omega
      simp[Builtin.zeroCells,this]
     simp[Builtin.clear_,run_underlying hT,run_zero hi hz,hzc,j4,Result.andThen]
 · rename_i n c
   obtain⟨h1,h2⟩:=bT e
   obtain⟨dd,hu⟩:=hasT_some h1
   refine .same r h2 (bel_tuple.2 (λv hv=>by cases hv)) ?_
   rw[inst_tuple,inst_nilSl]
   cases dd<;>simp[Builtin.clear_,run_underlying hu]
 · cases e
end Go.Ev
namespace Go.Ev
open Go Go.Ow Go.RowKit
variable{P:Program}{m:Mp}{st:St}{ρ:Operand→Value}{S:Nat→Prop}{w0 w:World}{k:KV}{q:Ex×St}
variable{d:Option Tmp}{ty:TypeId}{pos:String}{aft:Array Edge}{g:Option (Nat×Bool)}{a:Act}
theorem SR.put (h:SR m st a){m':Mp}{v:Value}{st':St}(he:Ext st.h.nx m m')(hn:st.h.nx≤st'.h.nx)(hb:bel st'.h.nx v)(hN:st'.N=st.N)(hd:st'.d=st.d)(hdst:∀t,d=some t→t<st.N)
    (hg:∀t,tmpG st' t=if d=some t then some v else tmpG st t):SR m' st' (a.put d (inst m' v)):=by
  refine⟨?_,λi u e=> ?_,?_⟩
  · rw[hN,←h.size];cases d<;>simp[Act.put]
  · rw [hg]at e
    by_cases c:d=some i
    · rw[if_pos c]at e;cases e
      subst c
      have:=hdst i rfl
      rw[←h.size]at this
      refine⟨?_,hb⟩
      simp[Act.put,Array.getElem?_setIfInBounds,this]
    · rw[if_neg c]at e
      obtain⟨h1,h2⟩:=h.slots i u e
      refine⟨?_,bel_mono hn u h2⟩
      rw[inst_ext he u h2,←h1]
      cases d with
      |none=>rfl
      | some t=>
        have:t≠i:=λq=>c (by rw[q])
        simp[Act.put,Array.getElem?_setIfInBounds,this]
  · rw[hd]
    have:(a.put d (inst m' v)).defers=a.defers:=by cases d<;>rfl
    rw[this];exact h.ds.ext he hn
theorem SR.ext (h:SR m st a){m':Mp}{h':Hp}(he:Ext st.h.nx m m')(hn:st.h.nx≤h'.nx):SR m' ⟨st.N,st.G,st.v,st.s,st.d,h'⟩ a:=by
 refine⟨h.size,?_,h.ds.ext he hn⟩
 exact h.slots.ext he hn
def Goes (m:Mp)(S:Nat→Prop)(w0:World)(n:Nat)(st':St)(next:Act→World→Prop):Prop:=∀m' a' w',Ext n m m'→n≤st'.h.nx→SR m' st' a'→Rel m' st'.h S w0 w'→next a' w'
theorem Goes.from{m1:Mp}{n n1:Nat}{st':St}{next:Act→World→Prop}(h:Goes m S w0 n st' next)(he:Ext n m m1)(hn:n≤n1):Goes m1 S w0 n1 st' next:=
 λm' a' w' h1 h2 h3 h4=>h m' a' w' (he.trans h1 hn) (Nat.le_trans hn h2) h3 h4
def Fr (m:Mp)(rd:Option Nat):Fence:=Fw (rd.map λl=>(m l).blk)
variable{rd:Option Nat}{nx:St→Out}{next:Act→World→Prop}{Q:Exit→Act→World→Prop}
theorem undef_inst:inst m undefV=undef:=by rw[show undefV=.tuple ⟨[]⟩from rfl,inst_tuple];rfl
theorem undef_bel{n:Nat}:bel n undefV:=bel_tuple.2 (λv hv=>by cases hv)
theorem put_goes (hs:SR m st a){m':Mp}{v:Value}{h':Hp}{w':World}(e:putO st d v h' nx=some q)(he:Ext st.h.nx m m')(hn:st.h.nx≤h'.nx)(r:Rel m' h' S w0 w')(hb:bel h'.nx v)
 (hnx:∀st',nx st'=some q→Goes m S w0 st.h.nx st' next):next (a.put d (inst m' v)) w':=by
 obtain⟨st',h1,h2,h3,h4,h5,h6⟩:=putO_some e
 have hn':st.h.nx≤st'.h.nx:=by rw[h4];exact hn
 exact hnx st' h1 m' _ w' he hn' (hs.put he hn' (by rw[h4];exact hb) h3 h5 h2 h6) (by rw[h4];exact r)
theorem fin (hs:SR m st a){op:Op}(hd:noDefer op=true)(e:Res P S w0 m st.h w (execOp a.eval ⟨d,op,ty,pos,aft,g⟩) (λv h=>putO st d v h nx) q)
 (hnx:∀st',nx st'=some q→Goes m S w0 st.h.nx st' next):(⟨d,op,ty,pos,aft,g⟩:Oper).wpIn (Fr m rd) 0 P a w next Q:=by
 obtain⟨m',v,h',w',h1,h2,h3,h4,h5,h6⟩:=e
 refine⟨λ_ _=>trivial,?_⟩
 rw[semAt_of hd,h6]
 exact put_goes (d:=d) hs h1 h2 h3 h4 h5 hnx
theorem finS (hs:SR m st a){op:Op}(hd:noDefer op=true)(e:ResS P S w0 m st.h w (execOp a.eval ⟨d,op,ty,pos,aft,g⟩) (λv h=>putO st d v h nx) q)
 (hnx:∀st',nx st'=some q→Goes m S w0 st.h.nx st' next):(⟨d,op,ty,pos,aft,g⟩:Oper).wpIn (Fr m rd) 0 P a w next Q:=by
 obtain⟨h',w',h1,h2,h3,h4⟩:=e
 refine⟨λ_ _=>trivial,?_⟩
 rw[semAt_of hd,h4]
 have:=put_goes (d:=d) (next:=next) hs h1 (Ext.refl _ m) (by rw[h2];exact Nat.le_refl _) h3 undef_bel hnx
 rw[undef_inst]at this
 exact this
theorem map_toArray{as:Array Operand}{vs:List Value}(hs:OpR m st ρ)(e:as.toList.mapM (Ev.opd st)=some vs):as.map ρ=(vs.map (inst m)).toArray∧∀v∈vs,bel st.h.nx v:=by
 obtain⟨h1,h2⟩:=hs.opds e
 exact⟨by apply Array.ext';rw[Array.toList_map,h1],h2⟩
theorem l1_some{l:List Value}{k:Value→Out}(e:l1 l k=some q):∃x,l= [x]∧k x=some q:=by
 unfold l1 at e;split at e
 · exact⟨_,rfl,e⟩
 · cases e
theorem l2_some{l:List Value}{k:Value→Value→Out}(e:l2 l k=some q):∃x y,l= [x,y]∧k x y=some q:=by
 unfold l2 at e;split at e
 · exact⟨_,_,rfl,e⟩
 · cases e
theorem t1_some{l:List TypeId}{k:TypeId→Out}(e:t1 l k=some q):∃x r,l=x::r∧k x=some q:=by
 unfold t1 at e;split at e
 · exact⟨_,_,rfl,e⟩
 · cases e
theorem t2_some{l:List TypeId}{k:TypeId→TypeId→Out}(e:t2 l k=some q):∃x y,l= [x,y]∧k x y=some q:=by
 unfold t2 at e;split at e
 · exact⟨_,_,rfl,e⟩
 · cases e
theorem ResV.v{h:Hp}{x:Sem Value}{y:Sem Next}(r:ResV P S w0 m h w x k q)(hy:y=(do pure (.value (←x)))):Res P S w0 m h w y k q:=by
 obtain⟨m',v,h',w',h1,h2,h3,h4,h5,h6⟩:=r
 exact⟨m',v,h',w',h1,h2,h3,h4,h5,by rw[hy];exact run_v h6⟩
theorem builtin_ok (r:Rel m st.h S w0 w){b:Builtin}{ts:List TypeId}{cs:Array Bool}{vs:List Value}(hb:∀v∈vs,bel st.h.nx v)(e:builtinV P st.h b ts vs k=some q):
 Res P S w0 m st.h w (Go.builtin b ts.toArray ty cs (vs.map (inst m)).toArray) k q:=by
 unfold builtinV at e
 split at e
 · obtain⟨T,rr,rfl,e⟩:=t1_some e
   obtain⟨x,rfl,e⟩:=l1_some e
   exact((len_p (ty:=ty) r e).res r).v rfl
 · obtain⟨T,rr,rfl,e⟩:=t1_some e
   obtain⟨x,rfl,e⟩:=l1_some e
   exact((cap_p (ty:=ty) r e).res r).v rfl
 · obtain⟨T,T2,rfl,e⟩:=t2_some e
   obtain⟨x,y,rfl,e⟩:=l2_some e
   exact(appendV_ok (ty:=ty) r (hb x (by simp)) e).v rfl
 · obtain⟨T,rr,rfl,e⟩:=t1_some e
   obtain⟨x,y,rfl,e⟩:=l2_some e
   exact(copy_ok (ty:=ty) r (hb x (by simp)) e).v rfl
 · obtain⟨x,y,rfl,e⟩:=l2_some e
   exact((min_p (ty:=ty) r e).res r).v rfl
 · obtain⟨x,y,rfl,e⟩:=l2_some e
   exact((max_p (ty:=ty) r e).res r).v rfl
 · obtain⟨T,rr,rfl,e⟩:=t1_some e
   obtain⟨x,rfl,e⟩:=l1_some e
   exact(clear_ok (ty:=ty) r e).v rfl
 · cases e
theorem callB_ok (hs:OpR m st ρ)(r:Rel m st.h S w0 w){b:Builtin}{as:Array Operand}{ts:Array TypeId}{vs:List Value}(hv:as.toList.mapM (Ev.opd st)=some vs)(e:builtinV P (ohp st) b ts.toList vs k=some q):
 Res P S w0 m st.h w (execOp ρ ⟨d,.call ⟨.builtin b,as,ts⟩,ty,pos,aft,g⟩) k q:=by
 obtain⟨h1,h2⟩:=map_toArray hs hv
 have key:∃cs,(execOp ρ ⟨d,.call ⟨.builtin b,as,ts⟩,ty,pos,aft,g⟩).run P w=(Go.builtin b ts ty cs (vs.map (inst m)).toArray).run P w:=
  ⟨_,by simp only[execOp,resolve,h1,Sem.run_bind,Sem.run_pure,Result.andThen,invoke];rfl⟩
 obtain⟨cs,key⟩:=key
 obtain⟨m',v,h',w',j1,j2,j3,j4,j5,j6⟩:=builtin_ok (ty:=ty) (cs:=cs) r h2 e
 exact⟨m',v,h',w',j1,j2,j3,j4,j5,by rw[key];exact j6⟩
end Go.Ev
namespace Go.Ev
open Go Go.Ow Go.RowKit
variable{P:Program}{m:Mp}{st:St}{ρ:Operand→Value}{S:Nat→Prop}{w0 w:World}{k:KV}{q:Ex×St}
variable{d:Option Tmp}{ty:TypeId}{pos:String}{aft:Array Edge}{g:Option (Nat×Bool)}{a:Act}
variable{rd:Option Nat}{nx:St→Out}{next:Act→World→Prop}{Q:Exit→Act→World→Prop}{E:EvF}
def exX:Ex→Exit
 | .norm=>.normal
 | .exit id=>.exit id
 | .ret=>.ret
def SC (P:Program)(E:EvF):Prop:=∀(rd:Option Nat) (c:Code) (st:St) (q:Ex×St),E.c rd c st=some q→(∀l,rd=some l→l<st.h.nx)→∀(m:Mp) (a:Act) (S:Nat→Prop) (w0 w:World),SR m st a→Rel m st.h S w0 w→
 ∀Q:Exit→Act→World→Prop,Goes m S w0 st.h.nx q.2 (Q (exX q.1))→c.wpIn (Fr m rd) 0 P Q a w
def CR (P:Program)(S:Nat→Prop)(w0:World)(m:Mp)(h:Hp)(k:KV)(q:Ex×St)(e:Ending)(w':World):Prop:=∃m' v h',k v h'=some q∧Ext h.nx m m'∧h.nx≤h'.nx∧Rel m' h' S w0 w'∧bel h'.nx v∧e=.returned (inst m' v)
def SF (P:Program)(E:EvF):Prop:=∀(f:FuncId) (vs:List Value) (h:Hp) (v:Value) (h':Hp),E.f f vs h=some (v,h')→Enters P f∧∀(m:Mp) (S:Nat→Prop) (w0 w:World),Rel m h S w0 w→(∀u∈vs,bel h.nx u)→
 CallsIn Fence.wide 0 P f (vs.map (inst m)).toArray w (λe w'=>∃m',Ext h.nx m m'∧h.nx≤h'.nx∧Rel m' h' S w0 w'∧bel h'.nx v∧e=.returned (inst m' v))
theorem setLp_some{β:Type}{h:Hp}{l:Nat}{s:LoopState}{pe:Option Code}{k:Hp→Option β}{x:β}(e:setLp h l s pe k=some x):
 ∃s0 pe0 tm N G ps asg body D h',h.t.get l=some (.lp s0 pe0 tm N G ps asg body D)∧k h'=some x∧h'.nx=h.nx∧∀j,h'.t.get j=if j=l then some (.lp s pe tm N G ps asg body D)else h.t.get j:=by
 unfold setLp at e
 split at e
 · rename_i s0 pe0 tm N G ps asg body D hg
   obtain⟨h',h1,h2,h3⟩:=put_some e
   exact⟨s0,pe0,tm,N,G,ps,asg,body,D,h',hg,h1,h2,h3⟩
 · cases e
theorem begLp_some{β:Type}{h:Hp}{l:Nat}{k:Hp→Option β}{x:β}(e:begLp h l k=some x):
 ∃pe tm N G ps asg body D h',h.t.get l=some (.lp .ready pe tm N G ps asg body D)∧k h'=some x∧h'.nx=h.nx∧∀j,h'.t.get j=if j=l then some (.lp .busy pe tm N G ps asg body D)else h.t.get j:=by
 unfold begLp at e
 split at e
 · rename_i pe tm N G ps asg body D hg
   obtain⟨h',h1,h2,h3⟩:=put_some e
   exact⟨pe,tm,N,G,ps,asg,body,D,h',hg,h1,h2,h3⟩
 · cases e
theorem relp{h h':Hp}(r:Rel m h S w0 w){l:Nat}{s:LoopState}{pe:Option Code}{tm:Tr Value}{N G:Nat}{ps:List Tmp}{asg body:Code}{D:Nat}(e:h.t.get l=some (.lp s pe tm N G ps asg body D))(s':LoopState)(pe':Option Code)
    (h2:h'.nx=h.nx)(h3:∀j,h'.t.get j=if j=l then some (.lp s' pe' tm N G ps asg body D)else h.t.get j):
    ∃ fn tmps,tmps.size=N∧SlotsR m h.nx (tmG N G tm) tmps∧D<h.nx∧w.heap[(m l).blk]? =some (.loop ⟨s,pe,fn,tmps,ps.toArray,asg,body,(m D).blk⟩)∧
      Rel m h' S w0 (w.putObj (m l).blk (.loop ⟨s',pe',fn,tmps,ps.toArray,asg,body,(m D).blk⟩)):=by
  obtain⟨hl,hD,fn,tmps,h4,h5,h6⟩:=r.br l _ e
  refine⟨fn,tmps,h4,h5,hD,h6,r.relay e rfl h2 h3 (λk hk=>World.putObj_heap_other hk) World.putObj_size rfl rfl rfl rfl (λb' eb=> ?_)⟩
  cases eb
  exact⟨hD,fn,tmps,h4,h5,World.putObj_heap_same (Array.getElem?_eq_some_iff.1 h6).1⟩
theorem putPs_some{β:Type}{x:β}:∀{ps:List Tmp} {vs:List Value} {st:St} {a:Act} {k:St→Option β},putPs ps vs st k=some x→SR m st a→(∀v∈vs,bel st.h.nx v)→
    ∃st',k st'=some x∧st'.h=st.h∧vs.length=ps.length∧SR m st' ⟨(ps.zip (vs.map (inst m))).foldl (λt p=>t.setIfInBounds p.1 p.2) a.tmps,a.defers⟩
  |[],[],st,a,k,e,hs,hv=>⟨st,e,rfl,rfl,hs⟩
  |[],v::vs,st,a,k,e,hs,hv=>by cases e
  |p::ps,[],st,a,k,e,hs,hv=>by cases e
  | p ::ps,v::vs,st,a,k,e,hs,hv=>by
    have e':putT st p v (ohp st) (λs=>putPs ps vs s k)=some x:=e
    obtain⟨st1,h1,h2,h3,h4,h5,h6⟩:=putT_some e'
    have hs1:SR m st1 (a.put (some p) (inst m v)):=hs.put (d:=some p) (Ext.refl _ m) (by rw[h4];exact Nat.le_refl _) (by rw[h4];exact hv v (by simp)) h3 h5 (λt ht=>by cases ht;exact h2) (λt=>by
      rw[h6];by_cases c:t=p
      · subst c;simp
      · have:¬p=t:=λq=>c q.symm
        simp[c,this])
    obtain⟨st',j1,j2,j3,j4⟩:=putPs_some h1 hs1 (λu hu=>by rw[h4];exact hv u (by simp[hu]))
    exact⟨st',j1,j2.trans h4,by simp[j3],j4⟩
theorem oNorm_some{r:Out}{k:St→Option (Ex×St)}(e:oNorm r k=some q):∃s,r=some (.norm,s)∧k s=some q:=by
 obtain⟨⟨x,s⟩,h1,h2⟩:=oB_some e
 cases x with
 |norm=>exact⟨s,h1,h2⟩
 |exit id=>cases h2
 |ret=>cases h2
theorem SR.heap (h:SR m st a){h':Hp}(hn:h'.nx=st.h.nx):SR m ⟨st.N,st.G,st.v,st.s,st.d,h'⟩ a:=h.ext (Ext.refl _ m) (by rw[hn];exact Nat.le_refl _)
theorem putH_eq{β:Type}(st:St)(h:Hp)(k:St→Option β):putH st h k=k ⟨st.N,st.G,st.v,st.s,st.d,h⟩:=rfl
theorem rnd_ok (ih:SC P E){h:Hp}(r:Rel m h S w0 w){l:Nat}{pe:Option Code}{tm:Tr Value}{N G:Nat}{ps:List Tmp}{asg body:Code}{D:Nat}(e:h.t.get l=some (.lp .ready pe tm N G ps asg body D)){vs:List Value}(hv:∀v∈vs,bel h.nx v)
 (e':rndV k E l tm N G ps asg body vs h=some q){fn:FuncId}{tmps:Array Value}(hN:tmps.size=N)(ht:SlotsR m h.nx (tmG N G tm) tmps){F:Fence}(hF:F=Fr m rd):
 vs.length=ps.length∧RoundIn F 0 P (m l).blk fn ((ps.toArray.zip (vs.map (inst m)).toArray).foldl (λt (p,v)=>t.setIfInBounds p v) tmps) asg body w (CR P S w0 m h k q):=by
 subst hF
 have hl:l<h.nx:=(r.br l _ e).1
 have hs0:SR m ⟨N,G,.e,tm,[],h⟩ ⟨tmps,[]⟩:=⟨hN,ht,trivial⟩
 obtain⟨st1,h1,h2,h3,h4⟩:=putPs_some e' hs0 hv
 refine⟨h3,?_⟩
 have hfold:(ps.toArray.zip (vs.map (inst m)).toArray).foldl (λt (p,v)=>t.setIfInBounds p v) tmps=(ps.zip (vs.map (inst m))).foldl (λt p=>t.setIfInBounds p.1 p.2) tmps:=by
  rw[←Array.foldl_toList];simp
 rw[hfold]
 obtain⟨st2,h5,h6⟩:=oNorm_some h1
 have h2:st1.h=h:=h2
 refine roundIn_of_wpIn trivial ?_
 have hwd:(Fr m rd).inRound (m l).blk=Fr m (some l):=rfl
 rw[hwd]
 refine ih (some l) asg st1 _ h5 (λl' q=>by cases q;rw[h2];exact hl) m _ S w0 w h4 (by rw[h2];exact r) _ ?_
 intro m1 a1 w1 x1 n1 s1 r1
 rw[h2]at x1 n1
 obtain⟨pe2,tm2,N2,G2,ps2,asg2,body2,D2,hb,hg2,hk,hn2,hget⟩:=begLp_some h6
 rw[putH_eq]at hk
 obtain⟨⟨x3,st3⟩,h7,h8⟩:=oB_some hk
 have hml:(m1 l)=m l:=x1 l hl
 obtain⟨fn2,tmps2,t1,t2,t3,t4,t5⟩:=relp r1 hg2 .busy pe2 hn2 hget
 rw[hml]at t4 t5
 refine⟨_,run_beginRound t4 rfl,?_⟩
 have hl1:l<st2.h.nx:=Nat.lt_of_lt_of_le hl n1
 have hwd2:Fr m (some l)=Fr m1 (some l):=by simp only[Fr,Option.map_some,hml]
 rw[hwd2]
 refine ih (some l) body _ _ h7 (λl' q=>by cases q;show l<hb.nx;rw[hn2];exact hl1) m1 a1 S w0 _ (s1.heap hn2) t5 _ ?_
 intro m3 a3 w3 x4 n3 s3 r3
 have x4:Ext st2.h.nx m1 m3:=by rw[←show hb.nx=st2.h.nx from hn2];exact x4
 have n3:st2.h.nx≤st3.h.nx:=by rw[←show hb.nx=st2.h.nx from hn2];exact n3
 have hm3:m3 l=m l:=by rw[x4 l hl1,hml]
 have x5:Ext h.nx m m3:=x1.trans x4 n1
 -- the round's end
 have fin:∀(j:Option Code) (s:LoopState) (b:Bool),s=(if j.isNone then .ready else .done)→b=j.isNone→setLp (ohp st3) l s j (λh=>k (.bool b) h)=some q→
  ∃v w',(Instr.endRound (m l).blk j).run P w3=.ok v w'∧CR P S w0 m h k q (.returned v) w':=λj s b hs hb2 es=>by
  obtain⟨s5,pe5,tm5,N5,G5,ps5,asg5,body5,D5,h5',hg5,hk5,hn5,hget5⟩:=setLp_some es
  obtain⟨fn5,tmps5,u1,u2,u3,u4,u5⟩:=relp r3 hg5 s j hn5 hget5
  rw[hm3]at u4 u5
  refine⟨_,_,run_endRound j u4,m3,.bool b,h5',hk5,x5,?_,?_,bel_bool,?_⟩
  · rw[hn5];exact Nat.le_trans n1 n3
  · subst hs;exact u5
  · rw[inst_bool,hb2]
 have h8:endRnd k l x3 (ohp st3)=some q:=h8
 cases x3 with
 |norm=>exact fin none .ready true rfl rfl h8
 |exit id=>exact fin (some (.exit id)) .done false rfl rfl h8
 |ret=>exact fin (some .ret) .done false rfl rfl h8
end Go.Ev
namespace Go.Ev
open Go Go.Ow Go.RowKit
variable{P:Program}{m:Mp}{st:St}{ρ:Operand→Value}{S:Nat→Prop}{w0 w:World}{k:KV}{q:Ex×St}
variable{d:Option Tmp}{ty:TypeId}{pos:String}{aft:Array Edge}{g:Option (Nat×Bool)}{a:Act}
variable{rd:Option Nat}{nx:St→Out}{next:Act→World→Prop}{Q:Exit→Act→World→Prop}{E:EvF}
theorem wp_enter{o:Oper}{f:FuncId}{args:Array Value}{R:Ending→World→Prop}(hd:noDefer o.op=true)(hrun:(execOp a.eval o).run P w=.ok (.enter f args) w)(C:CallsIn Fence.wide 0 P f args w R)
 (hR:∀e w',R e w'→∃v,e=.returned v∧next (a.put o.dst v) w'):o.wpIn (Fr m rd) 0 P a w next Q:=by
 refine⟨λ_ _=>trivial,?_⟩
 rw[semAt_of hd,hrun]
 show(_→_)∧CallsIn _ _ _ _ _ _ _
 refine⟨λe=>by simp[Fr,Fw]at e,?_⟩
 refine CallsIn.mono (show CallsIn (Fr m rd) (0-1) P f args w R from C) ?_
 intro e w' hr
 obtain⟨v,rfl,hn⟩:=hR e w' hr
 exact hn
theorem map_app (m:Mp)(vs:List Value)(cap:List Value):((vs++cap).map (inst m)).toArray=(vs.map (inst m)).toArray++(cap.map (inst m)).toArray:=by simp
theorem inst_fn0 (m:Mp)(fn:Fn)(cap:Array Value):inst m (.func fn ⟨[]⟩ cap)=.func (iFn m fn) #[] (cap.toList.map (inst m)).toArray:=by
 obtain⟨c⟩:=cap;rw[inst_func];rfl
theorem callV_ok (ihF:SF P E)(ihC:SC P E)(hs:SR m st a)(r:Rel m st.h S w0 w){f:Operand}{as:Array Operand}{ts:Array TypeId}{fv:Value}{vs:List Value}(hf:Ev.opd st f=some fv)(hv:as.toList.mapM (Ev.opd st)=some vs)
 (hrd:∀l,rd=some l→l<st.h.nx)(e:callV (λv h=>putO st d v h nx) E (ohp st) vs fv=some q)(hnx:∀st',nx st'=some q→Goes m S w0 st.h.nx st' next):
 (⟨d,.call ⟨.value f,as,ts⟩,ty,pos,aft,g⟩:Oper).wpIn (Fr m rd) 0 P a w next Q:=by
 obtain⟨i1,i2⟩:=hs.ops.opd hf
 obtain⟨i3,i4⟩:=map_toArray hs.ops hv
 unfold callV at e
 split at e
 · rename_i fn cap
   rw[inst_fn0]at i1
   have hcap:∀v∈cap.toList,bel st.h.nx v:=by
    obtain⟨c⟩:=cap
    exact(bel_func.1 i2).2.2
   unfold callFn at e
   split at e
   · rename_i fid
     rw[appA_eq]at e
     obtain⟨⟨v,h'⟩,h1,h2⟩:=oB_some e
     obtain⟨hE,hC⟩:=ihF fid _ _ v h' h1
     have hrun:(execOp a.eval ⟨d,.call ⟨.value f,as,ts⟩,ty,pos,aft,g⟩).run P w=.ok (.enter fid ((vs++cap.toList).map (inst m)).toArray) w:=by
      rw[map_app]
      simp only[execOp,resolve,i1,i3,iFn,Deferred.ofValue,Sem.run_bind,Sem.run_pure,Result.andThen,invoke]
      rw[hE]
      simp
     refine wp_enter rfl hrun (hC m S w0 w r (λu hu=>(List.mem_append.1 hu).elim (i4 u) (hcap u))) ?_
     rintro e w' ⟨m',x1,n1,r1,b1,rfl⟩
     exact⟨_,rfl,put_goes (d:=d) hs h2 x1 n1 r1 b1 hnx⟩
   · rename_i l
     unfold yldV at e
     split at e
     · rename_i pe tm N G ps asg body D hg
       obtain⟨_,hD,fn,tmps,t1,t2,t3⟩:=r.br l _ hg
       obtain⟨t4,t5⟩:=rnd_ok (F:=Fr m rd) ihC r hg i4 e t1 t2 (fn:=fn) rfl
       have hsz:((vs.map (inst m)).toArray).size=ps.toArray.size:=by simp[t4]
       have hrun:(execOp a.eval ⟨d,.call ⟨.value f,as,ts⟩,ty,pos,aft,g⟩).run P w=.ok (.round (m l).blk fn ((ps.toArray.zip (vs.map (inst m)).toArray).foldl (λt (p,v)=>t.setIfInBounds p v) tmps) asg body) w:=by
        have:=run_yield (P:=P) t3 hsz
        simp only[execOp,resolve,i1,i3,iFn,Deferred.ofValue,Sem.run_bind,Sem.run_pure,Result.andThen,invoke]
        rw[←this];simp
       refine⟨λ_ _=>trivial,?_⟩
       rw[semAt_of rfl,hrun]
       show(_→_)∧RoundIn _ _ _ _ _ _ _ _ _ _
       refine⟨λe=>by simp[Fr,Fw]at e,RoundIn.mono t5 ?_⟩
       rintro e w' ⟨m',v,h',h2,x1,n1,r1,b1,rfl⟩
       exact put_goes (d:=d) hs h2 x1 n1 r1 b1 hnx
     · cases e
   · cases e
 · rename_i fid fs cap _
   obtain⟨cap⟩:=cap
   have i1':a.eval f=.func (.func fid) (fs.map (inst m)).toArray (cap.map (inst m)).toArray:=by rw[i1,inst_func];rfl
   obtain⟨_,hfs,hcap⟩:=bel_func.1 i2
   rw[appA_eq,appA_eq]at e
   obtain⟨⟨v,h'⟩,h1,h2⟩:=oB_some e
   obtain⟨hE,hC⟩:=ihF fid _ _ v h' h1
   have hrun:(execOp a.eval ⟨d,.call ⟨.value f,as,ts⟩,ty,pos,aft,g⟩).run P w=.ok (.enter fid (((fs++vs)++cap).map (inst m)).toArray) w:=by
    rw[map_app,map_app]
    simp only[execOp,resolve,i1',i3,Deferred.ofValue,Sem.run_bind,Sem.run_pure,Result.andThen,invoke]
    rw[hE]
   refine wp_enter rfl hrun (hC m S w0 w r (λu hu=>(List.mem_append.1 hu).elim (λhu=>(List.mem_append.1 hu).elim (hfs u) (i4 u)) (hcap u))) ?_
   rintro e w' ⟨m',x1,n1,r1,b1,rfl⟩
   exact⟨_,rfl,put_goes (d:=d) hs h2 x1 n1 r1 b1 hnx⟩
 · cases e
theorem call_ok (ihF:SF P E)(ihC:SC P E)(hs:SR m st a)(r:Rel m st.h S w0 w){c:Call}(hrd:∀l,rd=some l→l<st.h.nx)(e:oCall P st (λv h=>putO st d v h nx) E c=some q)(hnx:∀st',nx st'=some q→Goes m S w0 st.h.nx st' next):
    (⟨d,.call c,ty,pos,aft,g⟩:Oper).wpIn (Fr m rd) 0 P a w next Q:=by
  obtain⟨ca,as,ts⟩:=c
  obtain⟨vs,h1,h2⟩:=opds_some (show opds st as.toList (λvs=>oCallee P st (λv h=>putO st d v h nx) E ts vs ca)=some q from e)
  cases ca with
  | value f=>
    obtain⟨fv,h3,h4⟩:=wth_some (show wth st f (callV (λv h=>putO st d v h nx) E (ohp st) vs)=some q from h2)
    exact callV_ok ihF ihC hs r h3 h1 hrd h4 hnx
  |invoke r n=>cases h2
  |builtin b=>exact fin hs rfl (callB_ok hs.ops r h1 h2) hnx
theorem defer_ok (hs:SR m st a)(r:Rel m st.h S w0 w){c:Call}(e:oDefer st rd c (λst=>putO st d undefV (ohp st) nx)=some q)(hnx:∀st',nx st'=some q→Goes m S w0 st.h.nx st' next):
 (⟨d,.defer c,ty,pos,aft,g⟩:Oper).wpIn (Fr m rd) 0 P a w next Q:=by
 unfold oDefer at e
 split at e
 · rename_i f as ts
   obtain⟨vs,h1,h2⟩:=opds_some e
   obtain⟨fv,h3,h4⟩:=wth_some h2
   obtain⟨i1,i2⟩:=hs.ops.opd h3
   obtain⟨i3,i4⟩:=map_toArray hs.ops h1
   unfold dfrV at h4
   split at h4
   · rename_i fid cap
     rw[appA_eq]at h4
     rw[inst_fn0]at i1
     have hcap:∀v∈cap.toList,bel st.h.nx v:=by
      obtain⟨c⟩:=cap
      exact(bel_func.1 i2).2.2
     have hrun:(execOp a.eval ⟨d,.defer ⟨.value f,as,ts⟩,ty,pos,aft,g⟩).run P w=.ok (.defer ⟨.fn (.func fid) (cap.toList.map (inst m)).toArray,(vs.map (inst m)).toArray⟩) w:=by
      simp[execOp,resolve,i1,i3,iFn,Deferred.ofValue,Sem.run_bind,Sem.run_pure,Result.andThen]
     refine⟨λ_ _=>trivial,?_⟩
     rw[show Fr m none=Fw none from rfl,show(Fw none).round=none from rfl,Oper.semAt_none,hrun]
     show next (Act.put {a with defers:=_::a.defers} d undef) w
     have hs2:SR m (pushD st (.call fid (vs++cap.toList))) {a with defers:=⟨.fn (.func fid) (cap.toList.map (inst m)).toArray,(vs.map (inst m)).toArray⟩::a.defers}:=by
      refine⟨hs.size,hs.slots,⟨⟨vs.map (inst m),cap.toList.map (inst m),rfl,by simp,λv hv=>(List.mem_append.1 hv).elim (i4 v) (hcap v)⟩,hs.ds⟩⟩
     have:=put_goes (d:=d) (next:=next) (m':=m) (v:=undefV) (w':=w) (S:=S) (w0:=w0) hs2 h4 (Ext.refl _ m) (Nat.le_refl _) r undef_bel hnx
     rw[undef_inst]at this
     exact this
   · cases h4
 · cases e
theorem runO_ok (ihF:SF P E)(ihC:SC P E)(hs:SR m st a)(r:Rel m st.h S w0 w){op:Op}(hrd:∀l,rd=some l→l<st.h.nx)(e:runO P st E rd d op nx=some q)(hnx:∀st',nx st'=some q→Goes m S w0 st.h.nx st' next):
 (⟨d,op,ty,pos,aft,g⟩:Oper).wpIn (Fr m rd) 0 P a w next Q:=by
 cases op with
 |move o=>exact fin hs rfl ((move_p (k:=λv h=>putO st d v h nx) (q:=q) hs.ops r e).res r) hnx
 |assign o=>exact fin hs rfl ((assign_p (k:=λv h=>putO st d v h nx) (q:=q) hs.ops r e).res r) hnx
 |pick c x y=>exact fin hs rfl ((pick_p (k:=λv h=>putO st d v h nx) (q:=q) hs.ops r e).res r) hnx
 |alloc T=>exact fin hs rfl (alloc_ok hs.ops r e) hnx
 |box T o=>exact fin hs rfl (box_ok hs.ops r e) hnx
 |build T ps=>exact fin hs rfl ((build_p (k:=λv h=>putO st d v h nx) (q:=q) hs.ops r e).res r) hnx
 |buildSlice T n ps=>exact fin hs rfl (buildSlice_ok hs.ops r e) hnx
 |load T o=>exact fin hs rfl (load_ok hs.ops r e) hnx
 |store T p o=>exact finS hs rfl (store_ok hs.ops r e) hnx
 |nilCheck o=>exact fin hs rfl ((nil_p (k:=λv h=>putO st d v h nx) (q:=q) hs.ops r e).res r) hnx
 |binOp op T x y T2=>exact fin hs rfl ((bin_p (k:=λv h=>putO st d v h nx) (q:=q) hs.ops r e).res r) hnx
 |unOp op T x=>exact fin hs rfl ((un_p (k:=λv h=>putO st d v h nx) (q:=q) hs.ops r e).res r) hnx
 |convert X T o=>exact fin hs rfl (convert_ok hs.ops r e) hnx
 |sliceToArrayPointer T o=>exact fin hs rfl ((s2a_p (k:=λv h=>putO st d v h nx) (q:=q) hs.ops r e).res r) hnx
 |makeInterface T o=>exact fin hs rfl ((iface_p (k:=λv h=>putO st d v h nx) (q:=q) hs.ops r e).res r) hnx
 |makeFunc fn fs cs=>exact fin hs rfl ((func_p (k:=λv h=>putO st d v h nx) (q:=q) hs.ops r e).res r) hnx
 |makeSlice T o p=>exact fin hs rfl (makeSlice_ok hs.ops r e) hnx
 |slice T o lo hi mx=>exact fin hs rfl (slice_ok (k:=λv h=>putO st d v h nx) (q:=q) hs.ops r e) hnx
 |fieldAddr T o i=>exact fin hs rfl ((fieldAddr_p (k:=λv h=>putO st d v h nx) (q:=q) hs.ops r e).res r) hnx
 |field T o i=>exact fin hs rfl ((field_p (k:=λv h=>putO st d v h nx) (q:=q) hs.ops r e).res r) hnx
 |indexAddr T o i=>exact fin hs rfl ((indexAddr_p (k:=λv h=>putO st d v h nx) (q:=q) hs.ops r e).res r) hnx
 |index T o i=>exact fin hs rfl ((index_p (k:=λv h=>putO st d v h nx) (q:=q) hs.ops r e).res r) hnx
 |typeAssert o X T ok=>exact fin hs rfl ((assert_p (k:=λv h=>putO st d v h nx) (q:=q) hs.ops r e).res r) hnx
 |extract o i=>exact fin hs rfl ((extract_p (k:=λv h=>putO st d v h nx) (q:=q) hs.ops r e).res r) hnx
 |call c=>exact call_ok ihF ihC hs r hrd e hnx
 |defer c=>exact defer_ok hs r e hnx
 |_=>cases e
theorem guard_some{ops:Array Oper}{j:Nat}{k:Bool→Out}{b:Bool}(hs:SR m st a)(e:guardR st ops.toList j k b=some q){dst:Option Tmp}{op:Op}:
    k (Region.wanted ⟨dst,op,ty,pos,aft,some (j,b)⟩ (yielded ops a.tmps))=some q:=by
  obtain⟨o,h1,h2⟩:=oB_some e
  obtain⟨t,h3,h4⟩:=oB_some h2
  obtain⟨v,h5,h6⟩:=oB_some h4
  rw[nth_eq,Array.getElem?_toList]at h1
  have h7:=(hs.slots t v h5).1
  simp only[Region.wanted,yielded,h1,Option.bind_some,h3]
  split at h6
  · rename_i c
    rw[inst_bool]at h7
    cases hq:a.tmps[t]? with
    |none=>rw[hq]at h7;cases h7
    | some u=>
      rw[hq]at h7
      have h7:u=.bool c:=h7
      subst h7
      cases c<;>cases b<;>exact h6
  · have h7:(a.tmps[t]?).getD undef=.tuple #[]:=by rw[h7,inst_tuple];rfl
    cases hq:a.tmps[t]? with
    |none=>cases b<;>exact h6
    | some u=>
      rw[hq]at h7
      have h7:u=.tuple #[]:=h7
      subst h7
      cases b<;>exact h6
  · cases h6
theorem cut_ok (hs:SR m st a):SR m (cutV st) a:=by
 obtain⟨N,G,v,s,d,h⟩:=st
 refine⟨hs.size,λi u e=>hs.slots i u ?_,hs.ds⟩
 have e':(Bool.rec (SL.e.get i) (s.get i) (bitB G i):Option Value)=some u:=e
 show(Bool.rec (v.get i) (s.get i) (bitB G i):Option Value)=some u
 cases hb:bitB G i with
 |true=>rw[hb]at e';exact e'
 |false=>rw[hb]at e';cases e'
theorem Fr_ext{m':Mp}{n:Nat}(h:Ext n m m')(hrd:∀l,rd=some l→l<n):rd.map (λl=>(m' l).blk)=rd.map (λl=>(m l).blk):=by
 cases rd with
 |none=>rfl
 |some l=>simp only[Option.map_some,h l (hrd l rfl)]
theorem Fr_ext'{m':Mp}{n:Nat}(h:Ext n m m')(hrd:∀l,rd=some l→l<n):Fr m rd=Fr m' rd:=by unfold Fr;rw[Fr_ext h hrd]
end Go.Ev
namespace Go.Ev
open Go Go.Ow Go.RowKit
section orders
variable{F:Fence}{n:Nat}{P:Program}{md:Region.Mode}{ops:Array Oper}{Q:Exit→Act→World→Prop}{S:Array Bool→World→Prop}
def wpAL (F:Fence)(n:Nat)(P:Program)(md:Region.Mode)(ops:Array Oper)(Q:Exit→Act→World→Prop)(S:Array Bool→World→Prop):Nat→Array Bool→Act→World→Prop
  |0,listed,a,w=>Region.ready md ops listed= []∧Q .normal a w
  | fuel+1,listed,a,w=>(Region.ready md ops listed= []→Q .normal a w)∧
    ∀i∈Region.ready md ops listed,wpOpIn F n P ops Q i (λa' w'=>S (listed.setIfInBounds i true) w'∧wpAL F n P md ops Q S fuel (listed.setIfInBounds i true) a' w') a w
theorem wpAL_sound:∀(fuel:Nat) (listed:Array Bool) (a:Act) (w:World),wpAL F n P md ops Q S fuel listed a w→wpAnyIn F n P md ops Q fuel listed a w
 |0,_,_,_,h=>h
 |fuel+1,listed,a,w,h=>⟨h.1,λi hi=>wpOpIn_mono (λa' w' h'=>wpAL_sound fuel _ a' w' h'.2) (h.2 i hi)⟩
def Dn (md:Region.Mode)(ops:Array Oper)(listed:Array Bool):Prop:=∀j o,ops[j]? =some o→listed.getD j false=true→∀e∈o.after,Region.binds md e=true→listed.getD e.on false=true
theorem Dn.set{listed:Array Bool}{j:Nat}(h:Dn md ops listed)(hj:j∈Region.ready md ops listed):Dn md ops (listed.setIfInBounds j true):=λi o hi hl e he hb=>by
 obtain⟨_,oj,hoj,hall⟩:=mem_ready.1 hj
 by_cases hij:i=j
 · subst hij
   rw[hoj]at hi;cases hi
   exact getD_set_true (hall e he hb)
 · rw[getD_set_ne false (Ne.symm hij)]at hl
   exact getD_set_true (h i o hi hl e he hb)
theorem Dn.zero (n:Nat):Dn md ops (Array.replicate n false):=λj o _ hl=>by
 rw[Array.getD_eq_getD_getElem?]at hl
 by_cases h:j<n
 · simp[h]at hl
 · simp[h]at hl
def YieldsL (P:Program)(md:Region.Mode)(ops:Array Oper)(S:Array Bool→World→Prop)(i:Nat)(o:Oper)(v:Value)(a:Act):Prop:=
 (Region.wanted o (yielded ops a.tmps)=true∧∀listed w,Dn md ops listed→i∈Region.ready md ops listed→S listed w→(execOp a.eval o).run P w=.ok (.value v) w)∨(Region.wanted o (yielded ops a.tmps)=false∧v=undef)
theorem YieldsL.of_same{i:Nat}{o:Oper}{v:Value}{a a':Act}(hy:YieldsL P md ops S i o v a)(he:execOp a'.eval o=execOp a.eval o)
 (hw:Region.wanted o (yielded ops a'.tmps)=Region.wanted o (yielded ops a.tmps)):YieldsL P md ops S i o v a':=by
 unfold YieldsL at*;rw[he,hw];exact hy
theorem YieldsL.op (hF:∀f,F.fn f){i:Nat}{o:Oper}{v:Value}{a:Act}(hi:ops[i]? =some o)(hn:noDefer o.op=true)(hy:YieldsL P md ops S i o v a)
 {K:Act→World→Prop}{w:World}{listed:Array Bool}(hDn:Dn md ops listed)(hr:i∈Region.ready md ops listed)(hS:S listed w)(h:K (a.put o.dst v) w):wpOpIn F n P ops Q i K a w:=by
 unfold wpOpIn
 simp only[hi]
 rcases hy with⟨hw,hv⟩|⟨hw,rfl⟩
 · simp only[hw,if_true]
   refine⟨λf _=>hF f,?_⟩
   rw[semAt_of hn,hv listed w hDn hr hS];exact h
 · simp only[hw,Bool.false_eq_true,if_false];exact⟨λf _=>hF f,h⟩
theorem wpOpIn_putL (hF:∀f,F.fn f){i j:Nat}{oi oj:Oper}{v:Value}(hj:ops[j]? =some oj)(hap:oi.apart ops oj=true)(hsi:∀cs b,oi.op≠.select cs b)(hsj:∀cs b,oj.op≠.select cs b)
    (hnj:noDefer oj.op=true)(hQ:∀c a w,Q (.panic c) (a.put oi.dst v) w→Q (.panic c) a w){K:Act→World→Prop}{a:Act}{w:World}
    (hy:YieldsL P md ops S i oi v a)(h:wpOpIn F n P ops Q j K (a.put oi.dst v) w):
    wpOpIn F n P ops Q j (λa' w'=>YieldsL P md ops S i oi v a'∧K (a'.put oi.dst v) w') a w:=by
  obtain⟨h1,h2,h3⟩:=Oper.apart_spec hap
  have keep:∀(a:Act),YieldsL P md ops S i oi v a→∀u,YieldsL P md ops S i oi v (a.put oj.dst u):=λa hy u=>
    hy.of_same (execOp_put oi hsi a oj.dst u h3) (wanted_put oi a oj.dst u h3)
  unfold wpOpIn at*
  simp only[hj]at*
  rw[wanted_put oj a oi.dst v h1]at h
  split
  · rename_i hw
    simp only[hw,if_true]at h
    refine⟨λf _=>hF f,?_⟩
    have h:=h.2
    rw[semAt_of hnj,execOp_put oj hsj a oi.dst v h1]at h
    rw[semAt_of hnj]
    generalize hr:(execOp a.eval oj).run P w=r at*
    cases r with
    | ok x w'=>
      cases x<;>simp only[Oper.uponIn]at h⊢
      case value u=>exact⟨keep a hy u,by rw[←Act.put_comm a v u h2];exact h⟩
      case skip=>exact⟨keep a hy _,by rw[←Act.put_comm a v undef h2];exact h⟩
      case defer d=>
        refine⟨keep {a with defers:=d::a.defers} (hy.of_same rfl rfl) _,?_⟩
        rw[←Act.put_comm _ v undef h2,←Act.put_defers]
        exact h
      case enter f args=>
        refine⟨h.1,CallsIn.mono h.2 λe w'' he=> ?_⟩
        cases e with
        |returned u=>exact⟨keep a hy u,by rw[←Act.put_comm a v u h2];exact he⟩
        |panicked c=>exact hQ _ _ _ he
        |outgrown=>exact he
      case row row args=>exact⟨h.1,RowsIn.mono h.2 λu w'' he=>⟨keep a hy u,by rw[←Act.put_comm a v u h2];exact he⟩⟩
      case round l f tmps assign body=>
        refine⟨h.1,RoundIn.mono h.2 λe w'' he=> ?_⟩
        cases e with
        |returned u=>exact⟨keep a hy u,by rw[←Act.put_comm a v u h2];exact he⟩
        |panicked c=>exact hQ _ _ _ he
        |outgrown=>exact he
    | halt x w'=>
      cases x<;>simp only[Oper.uponIn]at h⊢
      case panic u=>exact hQ _ _ _ h
  · rename_i hw
    simp only[hw]at h
    exact⟨λf _=>hF f,keep a hy _,by rw[←Act.put_comm a v undef h2];exact h.2⟩
theorem wpAL_first (hF:∀f,F.fn f){i:Nat}{oi:Oper}{v:Value}(hi:ops[i]? =some oi)(hsel:∀(j:Nat) (o:Oper) cs b,ops[j]? =some o→o.op≠.select cs b)
    (hdef:∀(j:Nat) (o:Oper),ops[j]? =some o→noDefer o.op=true)(hQ:∀c a w,Q (.panic c) (a.put oi.dst v) w→Q (.panic c) a w)(hS:∀listed w,S (listed.setIfInBounds i true) w↔S listed w):
    ∀ (fuel:Nat) (listed:Array Bool) (a:Act) (w:World),
      (∀j oj,ops[j]? =some oj→j≠i→listed.getD j true=false→(∀e∈oj.after,Region.binds md e=true→e.on≠i)→oi.apart ops oj=true)→
      Dn md ops listed→i∈Region.ready md ops listed→YieldsL P md ops S i oi v a→S listed w→
      wpAL F n P md ops Q S fuel (listed.setIfInBounds i true) (a.put oi.dst v) w→wpAL F n P md ops Q S (fuel+1) listed a w:=by
  intro fuel
  induction fuel with
  | zero=>
    intro listed a w _ hDn hr hy hSw H
    refine⟨λh=>(by rw[h]at hr;cases hr),λj hj=> ?_⟩
    by_cases hji:j=i
    · subst hji;exact hy.op hF hi (hdef _ _ hi) hDn hr hSw ⟨(hS _ _).2 hSw,H⟩
    · have:=ready_mono hj hji
      rw[H.1]at this
      cases this
  | succ fuel ih=>
    intro listed a w hfree hDn hr hy hSw H
    refine⟨λh=>(by rw[h]at hr;cases hr),λj hj=> ?_⟩
    by_cases hji:j=i
    · subst hji;exact hy.op hF hi (hdef _ _ hi) hDn hr hSw ⟨(hS _ _).2 hSw,H⟩
    · have h1:=H.2 j (ready_mono hj hji)
      obtain⟨hjun,oj,hoj,hall⟩:=mem_ready.1 hj
      have hnot:∀e∈oj.after,Region.binds md e=true→e.on≠i:=λe he hb heq=>by
        have h1:=hall e he hb
        have h0:=(mem_ready.1 hr).1
        rw[heq]at h1
        rcases Nat.lt_or_ge i listed.size with h'|h'
        · simp[h']at h0 h1;rw[h0]at h1;cases h1
        · simp[Array.getElem?_eq_none h']at h1
      have h2:=wpOpIn_putL hF hoj (hfree j oj hoj hji hjun hnot) (λcs b=>hsel i oi cs b hi) (λcs b=>hsel j oj cs b hoj) (hdef j oj hoj) hQ hy h1
      have hfree':∀k ok,ops[k]? =some ok→k≠i→(listed.setIfInBounds j true).getD k true=false→
          (∀e∈ok.after,Region.binds md e=true→e.on≠i)→oi.apart ops ok=true:=λk ok hk hki hun hno=>by
        refine hfree k ok hk hki ?_ hno
        by_cases hjk:j=k
        · subst hjk;exact hjun
        · rw[getD_set_ne true hjk]at hun;exact hun
      have hcomm:(listed.setIfInBounds i true).setIfInBounds j true=(listed.setIfInBounds j true).setIfInBounds i true:=Array.setIfInBounds_comm _ _ (Ne.symm hji)
      refine wpOpIn_mono (λa' w' h3=> ?_) h2
      have h4:S (listed.setIfInBounds j true) w':=(hS _ _).1 (by rw[←hcomm];exact h3.2.1)
      refine⟨h4,ih (listed.setIfInBounds j true) a' w' hfree' (hDn.set hj) (ready_mono hr (Ne.symm hji)) h3.1 h4 ?_⟩
      rw[←hcomm]
      exact h3.2.2
end orders
end Go.Ev
namespace Go.Ev
open Go Go.Ow Go.RowKit
variable{P:Program}{m:Mp}{st:St}{S:Nat→Prop}{w0 w:World}{k:KV}{q:Ex×St}{a:Act}{Q:Exit→Act→World→Prop}
def live (m:Mp)(h:Hp):Nat→Prop:=λk=>∃i b,h.t.get i=some b∧k=(m i).blk
def liveS (m:Mp)(h:Hp)(w:World):Nat→Prop:=λk=>(k<w.heap.size∧∃i b,h.t.get i=some b∧b.own=true∧k=(m i).blk)∨∃i b,h.t.get i=some b∧k=w.heap.size+(m i).blk
theorem Rel.root{h:Hp}(r:Rel m h S w0 w):Rel m h (liveS m h w) w w:=
 ⟨r.br,r.apart,λi b e=>by
  cases ho:b.own with
  |true=>exact .inl (.inl ⟨(r.br i b e).2.lt,i,b,e,ho,rfl⟩)
  |false=>exact .inr (.inr ⟨rfl,.inr ⟨i,b,e,rfl⟩⟩),rfl,rfl,rfl,Nat.le_refl _,Nat.le_refl _,λ_ _ _=>rfl⟩
theorem Rel.trans{m':Mp}{h h':Hp}{w':World}(r:Rel m h S w0 w)(r':Rel m' h' (liveS m h w) w w'):Rel m' h' S w0 w':=by
 refine⟨r'.br,r'.apart,λi b e=> ?_,r'.os.trans r.os,r'.tape.trans r.tape,r'.output.trans r.output,Nat.le_trans r.size r'.size,Nat.le_trans r.drawn r'.drawn,λk hk hs=> ?_⟩
 · have:=r.size
   rcases r'.fresh i b e with(⟨_,j,c,ej,ho,hj⟩|⟨j,c,ej,hj⟩)|h1|⟨hb,(⟨hl,_⟩|⟨j,c,ej,hj⟩)⟩
   · rw[hj]
     rcases r.fresh j c ej with q|q|⟨q,_⟩
     · exact .inl q
     · exact .inr (.inl q)
     · rw[ho]at q;cases q
   · exact .inr (.inl (by omega))
   · exact .inr (.inl (by omega))
   · exact absurd hl (by omega)
   · have hj:(m' i).blk=(m j).blk:=by omega
     rw[hj]
     rcases r.fresh j c ej with q|q|⟨_,q⟩
     · exact .inl q
     · exact .inr (.inl q)
     · exact .inr (.inr ⟨hb,q⟩)
 · have:=r.size
   rw[r'.keep k (Nat.lt_of_lt_of_le hk r.size) ?_]
   · exact r.keep k hk hs
   · rintro(⟨_,j,c,ej,ho,rfl⟩|⟨j,c,ej,hj⟩)
     · rcases r.fresh j c ej with h1|h1|⟨q,_⟩
       · exact hs h1
       · exact Nat.lt_irrefl _ (Nat.lt_of_lt_of_le hk h1)
       · rw[ho]at q;cases q
     · omega
theorem wpIn_shape{F:Fence}{n:Nat}{o:Oper}{next:Act→World→Prop}(h:o.wpIn F n P a w next Q):o.wpIn F n P a w (λa' w'=>(∃v,a'.tmps=(a.put o.dst v).tmps)∧next a' w') Q:=by
  unfold Oper.wpIn at*
  obtain⟨h1,h⟩:=h
  refine⟨h1,?_⟩
  clear h1
  generalize (o.semAt F.round a.eval).run P w=r at*
  cases r with
  | ok x w'=>
    cases x<;>simp only[Oper.uponIn]at h⊢
    case value u=>exact⟨⟨u,rfl⟩,h⟩
    case skip=>exact⟨⟨_,rfl⟩,h⟩
    case defer d=>
      refine⟨⟨undef,?_⟩,h⟩
      cases o.dst<;>rfl
    case enter f args=>
      refine⟨h.1,CallsIn.mono h.2 λe w'' he=> ?_⟩
      cases e with
      |returned u=>exact⟨⟨u,rfl⟩,he⟩
      |panicked c=>exact he
      |outgrown=>exact he
    case row row args=>exact⟨h.1,RowsIn.mono h.2 λu w'' he=>⟨⟨u,rfl⟩,he⟩⟩
    case round l f tmps assign body=>
      refine⟨h.1,RoundIn.mono h.2 λe w'' he=> ?_⟩
      cases e with
      |returned u=>exact⟨⟨u,rfl⟩,he⟩
      |panicked c=>exact he
      |outgrown=>exact he
  | halt x w'=>
    cases x<;>simp only[Oper.uponIn]at h⊢
    case panic u=>exact h
structure Pd (m:Mp) (h:Hp) (w0 w:World) (blk:Nat) (z:List Value) (T:TypeId):Prop where
  here:w.heap[blk]? =some (.cells z.toArray T (0,0))
  apart:¬live m h blk
  fresh:w0.heap.size≤blk
theorem Pd.stays{m':Mp}{h h':Hp}{w':World}{blk:Nat}{z:List Value}{T:TypeId}(p:Pd m h w0 w blk z T)(r':Rel m' h' (liveS m h w) w w'):Pd m' h' w0 w' blk z T:=by
 have hlt:blk<w.heap.size:=(Array.getElem?_eq_some_iff.1 p.here).1
 refine⟨?_,?_,p.fresh⟩
 · rw[r'.keep blk hlt ?_]
   · exact p.here
   · rintro(⟨_,j,c,ej,_,hj⟩|⟨j,c,ej,hj⟩)
     · exact p.apart ⟨j,c,ej,hj⟩
     · omega
 rintro⟨i,b,e,rfl⟩
 rcases r'.fresh i b e with(⟨_,j,c,ej,_,hj⟩|⟨j,c,ej,hj⟩)|h1|⟨_,(⟨hl,_⟩|⟨j,c,ej,hj⟩)⟩
 · exact p.apart ⟨j,c,ej,hj⟩
 · omega
 · omega
 · omega
 · exact p.apart ⟨j,c,ej,by omega⟩
theorem Pd.alloc{h:Hp}{blk:Nat}{z:List Value}{T:TypeId}{o:Obj}(p:Pd m h w0 w blk z T):Pd m h w0 (w.alloc o) blk z T:=
 ⟨by rw[(alloc_kept (w:=w) o).block blk (Array.getElem?_eq_some_iff.1 p.here).1 (by simp)];exact p.here,p.apart,p.fresh⟩
theorem Pd.new{h:Hp}(r:Rel m h S w0 w)(z:List Value)(T:TypeId):Pd m h w0 (w.alloc (.cells z.toArray T (0,0))) w.heap.size z T:=by
 refine⟨heap_alloc_new w _,?_,r.size⟩
 rintro⟨i,b,e,hb⟩
 exact absurd (r.br i b e).2.lt (by rw[←hb];exact Nat.lt_irrefl _)
theorem Pd.adopt{h h':Hp}{blk:Nat}{l:List Value}{T:TypeId}(p:Pd m h w0 w blk (l.map (inst m)) T)(r:Rel m h S w0 w)(hl:∀v∈l,bel h.nx v)(hnx:h'.nx=h.nx+1)(hg:∀j,h'.t.get j=if j=h.nx then some (.cs l.length l T)else h.t.get j):
 Rel (upd m h.nx ⟨blk,0,0,1,Nat.zero_le _⟩) h' S w0 w:=by
 refine r.adopt hnx hg ⟨rfl,rfl,λv hv=>bel_mono (Nat.le_succ _) v (hl v hv),?_⟩ (λi c e hb=>p.apart ⟨i,c,e,hb.symm⟩) (.inr (.inl p.fresh))
 rw[map_ext (upd_ext m h.nx _) hl];exact .of p.here
end Go.Ev
namespace Go.Ev
open Go Go.Ow Go.RowKit
theorem bitN_self (t:Nat):(bitN t).testBit t=true:=by
 show((1<<<t:Nat)).testBit t=true
 simp[Nat.testBit_shiftLeft]
theorem lor_bit{a b t:Nat}(h:a.testBit t=true∨b.testBit t=true):(Nat.lor a b).testBit t=true:=by
 show(a |||b).testBit t=true
 rw[Nat.testBit_or];rcases h with h|h<;>simp[h]
theorem noM_bit{a b t:Nat}(h:noM a b=true)(ha:a.testBit t=true)(hb:b.testBit t=true):False:=by
 have h1:a&&&b=0:=Nat.eq_of_beq_eq_true h
 have h2:(a&&&b).testBit t=true:=by rw[Nat.testBit_and,ha,hb];rfl
 rw[h1,Nat.zero_testBit]at h2
 cases h2
theorem opsM_bit{t:Nat}:∀{l:List Operand},.tmp t∈l→(opsM l).testBit t=true
  | x::l,h=>by
    show(Nat.lor (xM x) (opsM l)).testBit t=true
    rcases List.mem_cons.1 h with rfl|h
    · exact lor_bit (.inl (bitN_self t))
    · exact lor_bit (.inr (opsM_bit h))
theorem lkM_bit{ops:Array Oper}{o:Oper}{t:Nat}(h:t∈o.looksAt ops):(lkM ops o).testBit t=true:=by
  unfold Oper.looksAt at h
  unfold lkM
  rcases List.mem_append.1 h with h|h
  · obtain⟨x,hx,hx2⟩:=List.mem_filterMap.1 h
    cases x with
    |tmp u=>cases hx2;exact lor_bit (.inl (opsM_bit hx))
    |_=>cases hx2
  · refine lor_bit (.inr ?_)
    cases hg:o.guard with
    |none=>rw[hg]at h;cases h
    | some g=>
      obtain⟨j,b⟩:=g
      rw[hg]at h
      cases hd:(ops[j]?).bind (·.dst)with
      |none=>simp only[hd]at h;cases h
      | some u=>
        simp only[hd]at h
        have:t=u:=by simpa using h
        subst this
        simp only[hd]
        exact bitN_self t
noncomputable def apM (ops:Array Oper) (x y:Oper):Bool:=(noM (dsM x.dst) (Nat.lor (lkM ops y) (dsM y.dst)))&&(noM (dsM y.dst) (lkM ops x))
theorem apM_apart{ops:Array Oper}{x y:Oper}(h:apM ops x y=true):x.apart ops y=true:=by
  unfold apM at h
  rw[Bool.and_eq_true]at h
  unfold Oper.apart
  have h1:∀d,x.dst=some d→d∉y.looksAt ops∧y.dst≠some d:=λd hd=>by
    have hb:(dsM x.dst).testBit d=true:=by rw[hd];exact bitN_self d
    refine⟨λhm=>noM_bit h.1 hb (lor_bit (.inl (lkM_bit hm))),λhy=>noM_bit h.1 hb (lor_bit (.inr ?_))⟩
    rw[hy];exact bitN_self d
  have h2:∀d,y.dst=some d→d∉x.looksAt ops:=λd hd hm=>by
    have hb:(dsM y.dst).testBit d=true:=by rw[hd];exact bitN_self d
    exact noM_bit h.2 hb (lkM_bit hm)
  rw[Bool.and_eq_true]
  constructor
  · cases hx:x.dst with
    |none=>rfl
    | some d=>
      obtain⟨c1,c2⟩:=h1 d hx
      simp[c1,c2]
  · cases hy:y.dst with
    |none=>rfl
    |some d=>simp[h2 d hy]
theorem subM_bit{a b t:Nat}(h:subM a b=true)(ha:a.testBit t=true):b.testBit t=true:=by
 have h1:a&&&b=a:=Nat.eq_of_beq_eq_true h
 have h2:(a&&&b).testBit t=true:=by rw[h1];exact ha
 rw[Nat.testBit_and,ha]at h2
 simpa using h2
theorem wtL_bit{e:Edge}:∀{l:List Edge},e∈l→Region.binds .any e=true→(wtL l).testBit e.on=true
  | x ::l,h,hb=>by
    show(Bool.rec (wtL l) (Nat.lor (bitN x.on) (wtL l)) (Region.binds .any x):Nat).testBit e.on=true
    rcases List.mem_cons.1 h with rfl|h
    · rw[hb];exact lor_bit (.inl (bitN_self _))
    · cases hx:Region.binds .any x with
      |true=>exact lor_bit (.inr (wtL_bit h hb))
      |false=>exact wtL_bit h hb
def LsR (b:Nat)(listed:Array Bool):Prop:=∀i,b.testBit i=true→listed.getD i false=true
theorem ready_of{ops:Array Oper}{o:Oper}{i b:Nat}{listed:Array Bool}(hi:ops[i]? =some o)(hl:LsR b listed)(hn:listed.getD i true=false)(h:subM (wtM o) b=true):i∈Region.ready .any ops listed:=by
 refine mem_ready.2 ⟨hn,o,hi,λe he hb=>hl _ (subM_bit h (wtL_bit (by simpa using he) hb))⟩
theorem bitN_bit{t u:Nat}(h:(bitN t).testBit u=true):u=t:=by
 have h:((1<<<t:Nat)).testBit u=true:=h
 rw[Nat.testBit_shiftLeft]at h
 simp only[Bool.and_eq_true,decide_eq_true_eq]at h
 obtain⟨h1,h2⟩:=h
 rcases Nat.lt_or_ge t u with c|c
 · obtain⟨j,hj⟩:∃j,u-t=j+1:=⟨u-t-1,by omega⟩
   rw[hj,Nat.testBit_succ]at h2
   simp at h2
 · omega
theorem lor_or{a b t:Nat}(h:(Nat.lor a b).testBit t=true):a.testBit t=true∨b.testBit t=true:=by
 have h:(a |||b).testBit t=true:=h
 rw[Nat.testBit_or,Bool.or_eq_true]at h
 exact h
theorem wtL_mem{t:Nat}:∀{l:List Edge},(wtL l).testBit t=true→∃e∈l,Region.binds .any e=true∧e.on=t
  |[],h=>by rw[show wtL []=0 from rfl,Nat.zero_testBit]at h;cases h
  | x ::l,h=>by
    have h:(Bool.rec (wtL l) (Nat.lor (bitN x.on) (wtL l)) (Region.binds .any x):Nat).testBit t=true:=h
    cases hx:Region.binds .any x with
    | true=>
      rw[hx]at h
      rcases lor_or h with h|h
      · exact⟨x,by simp,hx,(bitN_bit h).symm⟩
      · obtain⟨e,h1,h2⟩:=wtL_mem h
        exact⟨e,by simp[h1],h2⟩
    | false=>
      rw[hx]at h
      obtain⟨e,h1,h2⟩:=wtL_mem h
      exact⟨e,by simp[h1],h2⟩
theorem ready_sub{ops:Array Oper}{o:Oper}{i b:Nat}{listed:Array Bool}(hi:ops[i]? =some o)(h:i∈Region.ready .any ops listed)(hl:∀j,listed.getD j false=true→b.testBit j=true):subM (wtM o) b=true:=by
  obtain⟨_,o',ho,hall⟩:=mem_ready.1 h
  rw[hi]at ho;cases ho
  unfold subM
  rw[Nat.beq_eq]
  show wtM o&&&b=wtM o
  refine Nat.eq_of_testBit_eq λt=> ?_
  rw[Nat.testBit_and]
  cases ht:(wtM o).testBit t with
  |false=>rfl
  | true=>
    obtain⟨e,h1,h2,rfl⟩:=wtL_mem ht
    rw[hl _ (hall e (by simpa using h1) h2)];rfl
def Lx (b:Nat)(l:Array Bool):Prop:=∀i,l.getD i false=b.testBit i
theorem Lx.zero (n:Nat):Lx 0 (Array.replicate n false):=λi=>by
 rw[Nat.zero_testBit,Array.getD_eq_getD_getElem?]
 by_cases h:i<n
 · simp[h]
 · simp[h]
def ClOk (ops:Array Oper)(acc:List Nat):Prop:=∀j b,acc[j]? =some b→∀t,b.testBit t=true→∀listed,Dn .any ops listed→listed.getD j false=true→listed.getD t false=true
theorem clE_bit{acc:List Nat}{t:Nat}:∀{l:List Edge},(clE acc l).testBit t=true→∃e∈l,Region.binds .any e=true∧(t=e.on∨∃b,acc[e.on]? =some b∧b.testBit t=true)
  |[],h=>by rw[show clE acc []=0 from rfl,Nat.zero_testBit]at h;cases h
  | x ::l,h=>by
    have h:(Bool.rec (clE acc l) (Nat.lor (Nat.lor (bitN x.on) ((acc[x.on]?).getD 0)) (clE acc l)) (Region.binds .any x):Nat).testBit t=true:=h
    cases hx:Region.binds .any x with
    | true=>
      rw[hx]at h
      rcases lor_or h with h|h
      · rcases lor_or h with h|h
        · exact⟨x,by simp,hx,.inl (bitN_bit h)⟩
        · cases hq:acc[x.on]? with
          |none=>rw[hq,Option.getD_none,Nat.zero_testBit]at h;cases h
          |some b=>rw[hq]at h;exact⟨x,by simp,hx,.inr ⟨b,hq,h⟩⟩
      · obtain⟨e,h1,h2⟩:=clE_bit h
        exact⟨e,by simp[h1],h2⟩
    | false=>
      rw[hx]at h
      obtain⟨e,h1,h2⟩:=clE_bit h
      exact⟨e,by simp[h1],h2⟩
theorem clA_ok{ops:Array Oper}:∀{l:List Oper} {acc:List Nat},(∀i,l[i]? =ops[acc.length+i]?)→ClOk ops acc→ClOk ops (clA l acc)
  |[],acc,_,h=>h
  | o ::l,acc,hi,h=>by
    refine clA_ok (l:=l) (acc:=acc++ [clE acc o.after.toList]) (λi=> ?_) (λj b hj t ht listed hD hl=> ?_)
    · have:=hi (i+1)
      rw[List.length_append,List.length_singleton,Nat.add_assoc,Nat.add_comm 1 i]
      simpa using this
    · rcases Nat.lt_or_ge j acc.length with c|c
      · rw[List.getElem?_append_left c]at hj
        exact h j b hj t ht listed hD hl
      · rw[List.getElem?_append_right c]at hj
        have hj0:j=acc.length:=by
          rcases Nat.lt_or_ge (j-acc.length) 1 with q|q
          · omega
          · rw[List.getElem?_eq_none (by simpa using q)]at hj;cases hj
        subst hj0
        rw[Nat.sub_self]at hj
        cases hj
        have ho:ops[acc.length]? =some o:=by simpa using(hi 0).symm
        obtain⟨e,h1,h2,h3⟩:=clE_bit ht
        have he:=hD _ o ho hl e (by simpa using h1) h2
        rcases h3 with rfl|⟨b,h4,h5⟩
        · exact he
        · exact h _ b h4 t h5 listed hD he
theorem clM_ok (ops:Array Oper):ClOk ops (clM ops):=clA_ok (λi=>by simp) (λj b h=>by cases h)
end Go.Ev
namespace Go.Ev
open Go Go.Ow Go.RowKit
theorem sameA_eq{a b:Option Addr}(h:sameA a b=true):a=b:=by
 unfold sameA at h
 split at h
 · rfl
 · rw[Bool.and_eq_true]at h
   rw[Nat.eq_of_beq_eq_true h.1,Nat.eq_of_beq_eq_true h.2]
 · cases h
theorem same1_eq{a b:Value}(h:same1 a b=true):a=b:=by
 unfold same1 at h
 split at h
 · rw[eq_of_beq h]
 · rw[Bool.and_eq_true,eqI_eq,decide_eq_true_eq]at h
   rw[eqK_eq h.1,h.2]
 · rename_i x y
   rw[eqB_eq]at h
   have h1:x.data.toList=y.data.toList:=eq_of_beq h
   obtain⟨⟨x⟩⟩:=x;obtain⟨⟨y⟩⟩:=y
   simp only at h1
   rw[h1]
 · rw[sameA_eq h]
 · rw[Bool.and_eq_true,Bool.and_eq_true]at h
   rw[sameA_eq h.1,Nat.eq_of_beq_eq_true h.2.1,Nat.eq_of_beq_eq_true h.2.2]
 · rfl
 · rfl
 · rw[Nat.eq_of_beq_eq_true h]
 · rw[Nat.eq_of_beq_eq_true h]
 · rfl
 · cases h
theorem sameL_eq:∀{l l':List Value},sameL l l'=true→l=l'
  |[],[],_=>rfl
  | a::l,b::l',h=>by
    have h:(Bool.rec false (sameL l l') (same1 a b):Bool)=true:=h
    cases hq:same1 a b with
    |false=>rw[hq]at h;cases h
    |true=>rw[hq]at h;rw[same1_eq hq,sameL_eq h]
  |[],_::_,h=>by cases h
  |_::_,[],h=>by cases h
theorem same_eq{a b:Value}(h:same a b=true):a=b:=by
 unfold same at h
 split at h
 · rename_i xs ys
   obtain⟨xs⟩:=xs;obtain⟨ys⟩:=ys
   have:xs=ys:=sameL_eq h
   rw[this]
 · rw[Bool.and_eq_true]at h
   rw[Nat.eq_of_beq_eq_true h.1,same1_eq h.2]
 · rw[Bool.and_eq_true]at h
   rw[Nat.eq_of_beq_eq_true h.1,sameL_eq h.2]
 · exact same1_eq h
end Go.Ev
namespace Go.Ev
open Go Go.Ow Go.RowKit
variable{P:Program}{m:Mp}{st:St}{ρ:Operand→Value}{S:Nat→Prop}{w0 w:World}{k:KV}{q:Ex×St}
variable{d:Option Tmp}{ty:TypeId}{pos:String}{aft:Array Edge}{g:Option (Nat×Bool)}{a:Act}
variable{rd:Option Nat}{nx:St→Out}{next:Act→World→Prop}{Q:Exit→Act→World→Prop}{E:EvF}
theorem numT_some{T:TypeId}(h:numT P T=true):∃k,P.underlying T=some (.int k):=by
 unfold numT at h
 split at h
 · rename_i k hu;exact⟨k,hu⟩
 · cases h
theorem convert_p (hs:OpR m st ρ)(r:Rel m st.h S w0 w){X T:TypeId}(hT:numT P T=true){o:Operand}(e:oConvert P st k X T o=some q):PRes P m st.h (execOp ρ ⟨d,.convert X T o,ty,pos,aft,g⟩) k q:=by
 obtain⟨v,h1,h2⟩:=wth_some e
 obtain⟨i1,i2⟩:=hs.opd h1
 obtain⟨kd0,hu0⟩:=numT_some hT
 unfold cvV at h2
 split at h2
 · rename_i kd n
   obtain⟨h3,h4⟩:=bT h2
   obtain⟨dd,hX⟩:=hasT_some h3
   rw[inst_int]at i1
   unfold cvI at h4
   split at h4
   · rename_i kd' hu
     rw[kI_eq]at h4
     refine .pure r h4 bel_int ?_
     intro w
     rw[inst_int]
     simp only[execOp,i1]
     refine run_v ?_
     cases dd<;>simp only[convert,Sem.run_bind,run_underlying hX,run_underlying hu,Result.andThen,Conv.intToInt,Sem.run_pure]
   · cases h4
 · obtain⟨h3,h4⟩:=bT h2
   unfold cvS at h4
   rw[hu0]at h4
   cases h4
 · unfold cvL at h2
   rw[hu0]at h2
   cases h2
 · cases h2
theorem PResV.v{h:Hp}{x:Sem Value}{y:Sem Next}(r:PResV P m h x k q)(hy:y=(do pure (.value (←x)))):PRes P m h y k q:=by
 obtain⟨v,h1,h2,h3⟩:=r
 exact⟨v,h1,h2,λw=>by rw[hy];exact run_v (h3 w)⟩
theorem PRes.run{h:Hp}{x y:Sem Next}(r:PRes P m h x k q)(hy:∀w,y.run P w=x.run P w):PRes P m h y k q:=by
 obtain⟨v,h1,h2,h3⟩:=r
 exact⟨v,h1,h2,λw=>by rw[hy];exact h3 w⟩
theorem builtin_p (r:Rel m st.h S w0 w){b:Builtin}{ts:List TypeId}{cs:Array Bool}{vs:List Value}(hk:isPL (kdB b)=true)(e:builtinV P st.h b ts vs k=some q):
 PRes P m st.h (Go.builtin b ts.toArray ty cs (vs.map (inst m)).toArray) k q:=by
 unfold builtinV at e
 split at e
 · obtain⟨T,rr,rfl,e⟩:=t1_some e
   obtain⟨x,rfl,e⟩:=l1_some e
   exact(len_p (ty:=ty) r e).v rfl
 · obtain⟨T,rr,rfl,e⟩:=t1_some e
   obtain⟨x,rfl,e⟩:=l1_some e
   exact(cap_p (ty:=ty) r e).v rfl
 · cases hk
 · cases hk
 · obtain⟨x,y,rfl,e⟩:=l2_some e
   exact(min_p (ty:=ty) r e).v rfl
 · obtain⟨x,y,rfl,e⟩:=l2_some e
   exact(max_p (ty:=ty) r e).v rfl
 · cases hk
 · cases e
theorem callB_p (hs:OpR m st ρ)(r:Rel m st.h S w0 w){b:Builtin}{as:Array Operand}{ts:Array TypeId}{vs:List Value}(hk:isPL (kdB b)=true)(hv:as.toList.mapM (Ev.opd st)=some vs)(e:builtinV P (ohp st) b ts.toList vs k=some q):
 PRes P m st.h (execOp ρ ⟨d,.call ⟨.builtin b,as,ts⟩,ty,pos,aft,g⟩) k q:=by
 obtain⟨h1,h2⟩:=map_toArray hs hv
 have key:∃cs,∀w,(execOp ρ ⟨d,.call ⟨.builtin b,as,ts⟩,ty,pos,aft,g⟩).run P w=(Go.builtin b ts ty cs (vs.map (inst m)).toArray).run P w:=
  ⟨_,λw=>by simp only[execOp,resolve,h1,Sem.run_bind,Sem.run_pure,Result.andThen,invoke];rfl⟩
 obtain⟨cs,key⟩:=key
 exact(builtin_p (ty:=ty) (cs:=cs) r hk e).run key
theorem runP_ok (hs:OpR m st ρ)(r:Rel m st.h S w0 w){op:Op}(hk:kdO P op=.p)(e:runQ P st E rd d op nx=some q):PRes P m st.h (execOp ρ ⟨d,op,ty,pos,aft,g⟩) (λv h=>putO st d v h nx) q:=by
  cases op with
  |move o=>exact move_p (k:=λv h=>putO st d v h nx) (q:=q) hs r e
  |assign o=>exact assign_p (k:=λv h=>putO st d v h nx) (q:=q) hs r e
  |pick c x y=>exact pick_p (k:=λv h=>putO st d v h nx) (q:=q) hs r e
  |build T ps=>exact build_p (k:=λv h=>putO st d v h nx) (q:=q) hs r e
  |nilCheck o=>exact nil_p (k:=λv h=>putO st d v h nx) (q:=q) hs r e
  |binOp op T x y T2=>exact bin_p (k:=λv h=>putO st d v h nx) (q:=q) hs r e
  |unOp op T x=>exact un_p (k:=λv h=>putO st d v h nx) (q:=q) hs r e
  | convert X T o=>
    have hT:numT P T=true:=by
      have hk:(bb (numT P X&&numT P T) Kd.p Kd.e)=.p:=by
        unfold kdO at hk
        cases hq:(numT P X&&numT P T)<;>simp[hq]at hk⊢
      cases hq:(numT P X&&numT P T)with
      |false=>rw[hq]at hk;cases hk
      |true=>rw[Bool.and_eq_true]at hq;exact hq.2
    exact convert_p (k:=λv h=>putO st d v h nx) (q:=q) hs r hT e
  |sliceToArrayPointer T o=>exact s2a_p (k:=λv h=>putO st d v h nx) (q:=q) hs r e
  |makeInterface T o=>exact iface_p (k:=λv h=>putO st d v h nx) (q:=q) hs r e
  |makeFunc fn fs cs=>exact func_p (k:=λv h=>putO st d v h nx) (q:=q) hs r e
  |slice T o lo hi mx=>exact slice_p (k:=λv h=>putO st d v h nx) (q:=q) hs r e
  |fieldAddr T o i=>exact fieldAddr_p (k:=λv h=>putO st d v h nx) (q:=q) hs r e
  |field T o i=>exact field_p (k:=λv h=>putO st d v h nx) (q:=q) hs r e
  |indexAddr T o i=>exact indexAddr_p (k:=λv h=>putO st d v h nx) (q:=q) hs r e
  |index T o i=>exact index_p (k:=λv h=>putO st d v h nx) (q:=q) hs r e
  |typeAssert o X T ok=>exact assert_p (k:=λv h=>putO st d v h nx) (q:=q) hs r e
  |extract o i=>exact extract_p (k:=λv h=>putO st d v h nx) (q:=q) hs r e
  | call c=>
    obtain⟨ca,as,ts⟩:=c
    cases ca with
    | builtin b=>
      obtain⟨vs,h1,h2⟩:=opds_some (show opds st as.toList (λvs=>oCallee P st (λv h=>putO st d v h nx) E ts vs (.builtin b))=some q from e)
      exact callB_p hs r (by rw[show kdB b=.p from hk];rfl) h1 h2
    |value f=>cases hk
    |invoke x n=>cases hk
  |_=>first|(cases e;done)|(cases hk;done)
theorem put_SR (hs:SR m st a){v:Value}(e:putO st d v st.h nx=some q)(hb:bel st.h.nx v):∃st',nx st'=some q∧st'.h=st.h∧SR m st' (a.put d (inst m v))∧(∀t,tmpG st' t=if d=some t then some v else tmpG st t):=by
 obtain⟨st',h1,h2,h3,h4,h5,h6⟩:=putO_some e
 exact⟨st',h1,h4,hs.put (Ext.refl _ m) (by rw[h4];exact Nat.le_refl _) (by rw[h4];exact hb) h3 h5 h2 h6,h6⟩
theorem opP_ok{ops:Array Oper}{o:Oper}{i:Nat}(hs:SR m st a)(r:Rel m st.h S w0 w)(hk:kdO P o.op=.p)(e:opQ P st E rd ops.toList o nx=some q)(SS:Array Bool→World→Prop):
    ∃v st',nx st'=some q∧st'.h=st.h∧SR m st' (a.put o.dst v)∧YieldsL P .any ops SS i o v a∧(∀t,o.dst≠some t→tmpG st' t=tmpG st t):=by
  obtain⟨dst,op,ty,pos,aft,g⟩:=o
  have yes:Region.wanted ⟨dst,op,ty,pos,aft,g⟩ (yielded ops a.tmps)=true→runQ P st E rd dst op nx=some q→
      ∃v st',nx st'=some q∧st'.h=st.h∧SR m st' (a.put dst v)∧YieldsL P .any ops SS i ⟨dst,op,ty,pos,aft,g⟩ v a∧(∀t,dst≠some t→tmpG st' t=tmpG st t):=λhw e=>by
    obtain⟨v,h1,h2,h3⟩:=runP_ok (ty:=ty) (pos:=pos) (aft:=aft) (g:=g) hs.ops r hk e
    obtain⟨st',j1,j2,j3,j4⟩:=put_SR hs h1 h2
    exact⟨inst m v,st',j1,j2,j3,.inl ⟨hw,λ_ w' _ _ _=>h3 w'⟩,λt ht=>by rw[j4,if_neg ht]⟩
  cases g with
  |none=>exact yes rfl e
  | some g=>
    obtain⟨j,b⟩:=g
    have e':=guard_some (ty:=ty) (pos:=pos) (aft:=aft) (dst:=dst) (op:=op) hs (show guardR st ops.toList j (λr=>Bool.rec (putO st dst undefV (ohp st) nx) (runQ P st E rd dst op nx) r) b=some q from e)
    cases hw:Region.wanted ⟨dst,op,ty,pos,aft,some (j,b)⟩ (yielded ops a.tmps)with
    |true=>rw[hw]at e';exact yes hw e'
    | false=>
      rw[hw]at e'
      obtain⟨st',j1,j2,j3,j4⟩:=put_SR (d:=dst) hs e' undef_bel
      rw[undef_inst]at j3
      exact⟨undef,st',j1,j2,j3,.inr ⟨hw,rfl⟩,λt ht=>by rw[j4,if_neg ht]⟩
def LdC (P:Program)(T:TypeId)(b o:Nat)(v:Value)(w:World):Prop:=(∃n,shapeOf P T=some (false,n)∧w.cell? ⟨b,o,none⟩=some v)∨
 ∃l:List Value,v=.agg l.toArray∧shapeOf P T=some (true,l.length)∧∀j x,l[j]? =some x→w.cell? ⟨b,o+j,none⟩=some x
theorem LdC.run{T:TypeId}{b o:Nat}{v:Value}{w:World}(h:LdC P T b o v w):(Instr.loadAt T (.pointer (some ⟨b,o,none⟩))).run P w=.ok v w:=by
 rcases h with⟨n,h1,h2⟩|⟨l,rfl,h1,h2⟩
 · exact run_load1 h1 h2
 · exact run_loadN h1 h2
theorem cell_alloc{w:World}{o:Obj}{a:Addr}{v:Value}(h:w.cell? a=some v):(w.alloc o).cell? a=some v:=by
 rcases Nat.lt_or_ge a.block w.heap.size with c|c
 · rw[cell_blk (show(w.alloc o).heap[a.block]? =w.heap[a.block]? from Below.heap_alloc w o a.block c)];exact h
 · unfold World.cell? at h
   rw[Array.getElem?_eq_none c]at h
   simp at h
theorem LdC.alloc{T:TypeId}{b o:Nat}{v:Value}{w:World}{ob:Obj}(h:LdC P T b o v w):LdC P T b o v (w.alloc ob):=by
 rcases h with⟨n,h1,h2⟩|⟨l,rfl,h1,h2⟩
 · exact .inl ⟨n,h1,cell_alloc h2⟩
 · exact .inr ⟨l,rfl,h1,λj x e=>cell_alloc (h2 j x e)⟩
theorem val_LdC{h:Hp}(r:Rel m h S w0 w){T:TypeId}{b p:Nat}{β:Type}{k:Value→Option β}{x:β}(e:h.row b (λ_ l=>oB (shT P T) λs=>valOf s.1 s.2 (dropL l p) k)=some x):
    ∃v,k v=some x∧bel h.nx v∧b<h.nx∧LdC P T (m b).blk ((m b).base+p) (inst m v) w:=by
  obtain⟨bl,n,l,h4,h5,h6⟩:=row_some e
  obtain⟨⟨gg,sz⟩,h7,h8⟩:=oB_some h6
  obtain⟨u,h9,h10⟩:=valOf_some h8
  obtain⟨i1,i2,i3⟩:=r.cell h4 h5
  rw[dropL_eq]at h10
  refine⟨u,h9,?_,(r.br b _ h4).1,?_⟩
  · rcases h10 with⟨rfl,l',hl⟩|⟨rfl,rfl,hl⟩
    · have hg:l[p]? =some u:=by
        have:=congrArg List.head? hl
        rwa[List.head?_drop]at this
      exact i2 u (List.mem_of_getElem? hg)
    · exact bel_agg.2 λx hx=>i2 x (List.mem_of_mem_drop (List.mem_of_mem_take hx))
  · rcases h10 with⟨rfl,l',hl⟩|⟨rfl,rfl,hl⟩
    · have hg:l[p]? =some u:=by
        have:=congrArg List.head? hl
        rwa[List.head?_drop]at this
      exact .inl ⟨sz,shT_shape h7,i3 p u hg⟩
    · refine .inr ⟨(List.map (inst m) ((l.drop p).take sz)),inst_agg _ _,by rw[shT_shape h7,List.length_map,List.length_take,Nat.min_eq_left hl],λj x ex=> ?_⟩
      rw[List.getElem?_map]at ex
      cases hy:((l.drop p).take sz)[j]? with
      |none=>rw[hy]at ex;cases ex
      | some y=>
        rw[hy]at ex
        cases ex
        have:l[p+j]? =some y:=by
          rw[List.getElem?_take]at hy
          split at hy
          · rwa[List.getElem?_drop]at hy
          · cases hy
        rw[Nat.add_assoc];exact i3 (p+j) y this
theorem rd1_ok{h:Hp}(r:Rel m h S w0 w){f:Fz}(e:rd1 P h f=some true):LdC P f.T (m f.b).blk ((m f.b).base+f.o) (inst m f.v) w:=by
 obtain⟨v,h1,h2,h3,h4⟩:=val_LdC r (show h.row f.b (λ_ l=>oB (shT P f.T) λs=>valOf s.1 s.2 (dropL l f.o) λv=>some (same v f.v))=some true from e)
 have:same v f.v=true:=by simpa using h1
 rw[←same_eq this];exact h4
theorem oLoad_LdC (hs:OpR m st ρ)(r:Rel m st.h S w0 w){T:TypeId}{o:Operand}{b p:Nat}(ho:Ev.opd st o=some (.pointer (some ⟨b,p,none⟩)))(e:oLoad P st k T o=some q):
 ∃v,k v st.h=some q∧bel st.h.nx v∧b<st.h.nx∧LdC P T (m b).blk ((m b).base+p) (inst m v) w∧∀w',LdC P T (m b).blk ((m b).base+p) (inst m v) w'→(execOp ρ ⟨d,.load T o,ty,pos,aft,g⟩).run P w'=.ok (.value (inst m v)) w':=by
 obtain⟨v,h1,h2⟩:=wth_some e
 rw[ho]at h1;cases h1
 obtain⟨u,h3,h4,h5,h6⟩:=val_LdC r (show st.h.row b (λ_ l=>oB (shT P T) λs=>valOf s.1 s.2 (dropL l p) λv=>k v st.h)=some q from h2)
 obtain⟨i4,i5⟩:=hs.opd ho
 rw[inst_ptr]at i4
 refine⟨u,h3,h4,h5,h6,λw' hw'=> ?_⟩
 simp only[execOp,i4]
 exact run_v hw'.run
end Go.Ev
namespace Go.Ev
open Go Go.Ow Go.RowKit
variable{P:Program}{m:Mp}{st:St}{ρ:Operand→Value}{S:Nat→Prop}{w0 w:World}{k:KV}{q:Ex×St}
variable{d:Option Tmp}{ty:TypeId}{pos:String}{aft:Array Edge}{g:Option (Nat×Bool)}{a:Act}
variable{rd:Option Nat}{nx:St→Out}{next:Act→World→Prop}{Q:Exit→Act→World→Prop}{E:EvF}
structure ItOk (P:Program) (ops:Array Oper) (x:It):Prop where
  op:ops[x.i]? =some x.o
  m:x.m=bitN x.i
  d:x.d=dsM x.o.dst
  k:x.k=lkM ops x.o
  w:x.w=wtM x.o
  c:(clM ops)[x.i]? =some x.c
  kd:x.kd=kdI P x.o
  nx:x.kd≠.x
theorem mkIts_some{β:Type}{ops:Array Oper}{cl:List Nat}:∀{l:List Oper} {i:Nat} {k:List It→Option β} {x:β},mkIts P ops cl l i k=some x→(∀j,l[j]? =ops[i+j]?)→cl=clM ops→
    ∃its,k its=some x∧its.length=l.length∧∀j y,its[j]? =some y→y.i=i+j∧ItOk P ops y
  |[],i,k,x,e,hl,hc=>⟨[],e,rfl,λj y h=>by cases h⟩
  | o ::l,i,k,x,e,hl,hc=>by
    have e:fN (bitN i) (λm=>fN (dsM o.dst) λd=>fN (lkM ops o) λlk=>fN (wtM o) λw=>oB (nth cl i) λc=>fN c λc=>
      fN (Nat.succ i) λj=>(Kd.rec (mkIts P ops cl l j λr=>k (⟨i,m,o,d,lk,w,c,.p⟩::r)) (mkIts P ops cl l j λr=>k (⟨i,m,o,d,lk,w,c,.l⟩::r)) (mkIts P ops cl l j λr=>k (⟨i,m,o,d,lk,w,c,.a⟩::r)) (mkIts P ops cl l j λr=>k (⟨i,m,o,d,lk,w,c,.e⟩::r)) none (kdI P o):Option β))=some x:=e
    rw[fN_eq,fN_eq,fN_eq,fN_eq]at e
    obtain⟨c,h1,h2⟩:=oB_some e
    rw[fN_eq,fN_eq]at h2
    rw[nth_eq]at h1
    have key:∀kd,kdI P o=kd→kd≠.x→mkIts P ops cl l (Nat.succ i) (λr=>k (⟨i,bitN i,o,dsM o.dst,lkM ops o,wtM o,c,kd⟩::r))=some x→
        ∃its,k its=some x∧its.length=(o::l).length∧∀j y,its[j]? =some y→y.i=i+j∧ItOk P ops y:=λkd hk hx e'=>by
      obtain⟨its,j1,j2,j3⟩:=mkIts_some e' (λj=>by have:=hl (j+1);simp only[List.getElem?_cons_succ]at this;rw[this];congr 1;omega) hc
      refine⟨_,j1,by simp[j2],λj y hy=> ?_⟩
      cases j with
      | zero=>
        have hy:some _=some y:=hy
        cases hy
        have ho:ops[i]? =some o:=(hl 0).symm
        exact⟨rfl,ho,rfl,rfl,rfl,rfl,by rw[←hc];exact h1,hk.symm,hx⟩
      | succ j=>
        obtain⟨q1,q2⟩:=j3 j y (by simpa using hy)
        exact⟨by rw[q1];omega,q2⟩
    cases hk:kdI P o with
    |p=>rw[hk]at h2;exact key .p hk (λc=>by cases c) h2
    |l=>rw[hk]at h2;exact key .l hk (λc=>by cases c) h2
    |a=>rw[hk]at h2;exact key .a hk (λc=>by cases c) h2
    |e=>rw[hk]at h2;exact key .e hk (λc=>by cases c) h2
    |x=>rw[hk]at h2;cases h2
def isAl (P:Program)(op:Op):Prop:=(∃T n ps,op=.buildSlice T n ps)∨∃r,alS P op=some r
theorem kdI_a{o:Oper}(h:kdI P o=.a):isAl P o.op∧o.guard=none∧∃t,o.dst=some t∧∀T n ps,o.op=.buildSlice T n ps→Operand.tmp t∉o.op.operands.toList:=by
  unfold kdI at h
  split at h
  · split at h
    · rename_i t h2 h3
      split at h
      · rename_i T n ps h1
        cases hc:noM (dsM o.dst) (opsM (Op.buildSlice T n ps).operands.toList)with
        |false=>rw[hc]at h;cases h
        | true=>
          refine⟨.inl ⟨T,n,ps,h1⟩,h2,t,h3,λT' n' ps' q hm=> ?_⟩
          rw[h1]at hm
          rw[h3]at hc
          exact noM_bit hc (bitN_self t) (opsM_bit hm)
      · rename_i hno
        split at h
        · rename_i r hr
          exact⟨.inr ⟨r,hr⟩,h2,t,h3,λT' n' ps' q=>absurd q (λq=>by rw[q]at hr;cases hr)⟩
        · cases h
    · cases h
  · rename_i hno
    exact absurd h hno
theorem kdI_of{o:Oper}{k:Kd}(h:kdI P o=k)(hk:k≠.a)(he:k≠.e):kdO P o.op=k:=by
 unfold kdI at h
 split at h
 · split at h
   · split at h
     · rename_i T n ps h1
       cases hc:noM (dsM o.dst) (opsM (Op.buildSlice T n ps).operands.toList)with
       |false=>rw[hc]at h;exact absurd h.symm he
       |true=>rw[hc]at h;exact absurd h.symm hk
     · split at h
       · exact absurd h.symm hk
       · exact absurd h.symm he
   · exact absurd h.symm he
 · exact h
theorem kd_noDefer{o:Oper}(h:kdI P o≠.x):noDefer o.op=true∧∀cs b,o.op≠.select cs b:=by
 refine⟨?_,λcs b e=>h (by unfold kdI;rw[e];rfl)⟩
 cases ho:o.op with
 |defer c=>exact absurd (show kdI P o=.x by unfold kdI;rw[ho];rfl) h
 |_=>rfl
def CondS (al b:Nat)(x:It)(r:List It):Prop:=(isPL x.kd=true∧subM x.w b=true∧∀y∈r,fr1 x y=true)∨(isE x.kd=true∧subM x.w b=true∧∀y∈r,hd1 x (Nat.lor b al) y=true)∨
 (isA x.kd=true∧subM x.w b=true∧∀y∈r,hd1 x (Nat.lor b (Nat.xor al x.m)) y=true)
def Sch (al:Nat):List It→Nat→Prop
 |[],_=>True
 |x::r,b=>CondS al b x r∧Sch al r (Nat.lor b x.m)
theorem allI_iff{f:It→Bool}:∀{l:List It},allI f l=true→∀x∈l,f x=true
  |[],_=>λx h=>by cases h
  | a ::l,h=>λx hx=>by
    have h:(Bool.rec false (allI f l) (f a):Bool)=true:=h
    cases hq:f a with
    |false=>rw[hq]at h;cases h
    | true=>
      rw[hq]at h
      rcases List.mem_cons.1 hx with rfl|hx
      · exact hq
      · exact allI_iff h x hx
theorem and_t{a b:Bool}(h:(and a b)=true):a=true∧b=true:=by cases a<;>cases b<;>first|exact⟨rfl,rfl⟩|cases h
theorem pickG_some{β:Type}{f:It→List It→Bool}{no:Option β}{x:β}:∀{l p:List It} {k:It→List It→Option β},pickG f no l p k=some x→no=some x∨∃y r,f y r=true∧k y r=some x∧(y::r).Perm (p++l)
  |[],p,k,e=>.inl e
  | a ::l,p,k,e=>by
    have e:bb (f a (p++l)) (appA p l (k a)) (pickG f no l (p++ [a]) k)=some x:=e
    rcases bb_some e with⟨h1,h2⟩|⟨h1,h2⟩
    · rw[appA_eq]at h2
      exact .inr ⟨a,p++l,h1,h2,List.perm_middle.symm⟩
    · rcases pickG_some h2 with h3|⟨y,r,h3,h4,h5⟩
      · exact .inl h3
      · exact .inr ⟨y,r,h3,h4,by simpa using h5⟩
theorem CondS.perm{al b:Nat}{x:It}{r s:List It}(h:CondS al b x r)(hs:s.Perm r):CondS al b x s:=by
 rcases h with⟨h1,h2,h3⟩|⟨h1,h2,h3⟩|⟨h1,h2,h3⟩
 · exact .inl ⟨h1,h2,λy hy=>h3 y (hs.mem_iff.1 hy)⟩
 · exact .inr (.inl ⟨h1,h2,λy hy=>h3 y (hs.mem_iff.1 hy)⟩)
 · exact .inr (.inr ⟨h1,h2,λy hy=>h3 y (hs.mem_iff.1 hy)⟩)
theorem pick3_some{β:Type}{al b:Nat}{l:List It}{k:It→List It→Option β}{x:β}(e:pickG (okPL b) (pickG (okE b al) (pickG (okA b al) none l [] k) l [] k) l [] k=some x):∃y r,CondS al b y r∧k y r=some x∧(y::r).Perm l:=by
 rcases pickG_some e with e1|⟨y,r,h1,h2,h3⟩
 · rcases pickG_some e1 with e2|⟨y,r,h1,h2,h3⟩
   · rcases pickG_some e2 with e3|⟨y,r,h1,h2,h3⟩
     · cases e3
     · obtain⟨c1,c2⟩:=and_t h1
       obtain⟨c2,c3⟩:=and_t c2
       exact⟨y,r,.inr (.inr ⟨c1,c2,allI_iff c3⟩),h2,h3⟩
   · obtain⟨c1,c2⟩:=and_t h1
     obtain⟨c2,c3⟩:=and_t c2
     exact⟨y,r,.inr (.inl ⟨c1,c2,allI_iff c3⟩),h2,h3⟩
 · obtain⟨c1,c2⟩:=and_t h1
   obtain⟨c2,c3⟩:=and_t c2
   exact⟨y,r,.inl ⟨c1,c2,allI_iff c3⟩,h2,h3⟩
theorem schedGo_some{β:Type}{al:Nat}{x:β}(n:Nat):∀{l:List It} {b:Nat} {k:List It→Option β},schedGo al n l b k=some x→∃s,k s=some x∧s.Perm l∧Sch al s b:=by
  induction n with
  | zero=>
    intro l b k e
    cases l with
    |nil=>exact⟨[],e,.refl _,trivial⟩
    |cons y l=>cases e
  | succ n ih=>
    intro l b k e
    cases l with
    |nil=>exact⟨[],e,.refl _,trivial⟩
    | cons y0 l0=>
      generalize hl:y0::l0=l
      have e:pickG (okPL b) (pickG (okE b al) (pickG (okA b al) none l [] λx r=>fN (Nat.lor b x.m) λb=>schedGo al n r b λs=>k (x::s)) l [] λx r=>fN (Nat.lor b x.m) λb=>schedGo al n r b λs=>k (x::s)) l [] (λx r=>fN (Nat.lor b x.m) λb=>schedGo al n r b λs=>k (x::s))=some x:=by
        subst hl;exact e
      obtain⟨y,r,h1,h2,h3⟩:=pick3_some e
      rw[fN_eq]at h2
      obtain⟨s,j1,j2,j3⟩:=ih h2
      exact⟨y::s,j1,(j2.cons y).trans h3,h1.perm j2,j3⟩
theorem alM_cons (y:It)(l:List It):alM (y::l)=if isA y.kd=true then Nat.lor y.m (alM l)else alM l:=by
 have e:alM (y::l)=bb (isA y.kd) (Nat.lor y.m (alM l)) (alM l):=rfl
 rw[e]
 cases isA y.kd<;>rfl
theorem alM_bit{l:List It}{x:It}(h:x∈l)(ha:isA x.kd=true)(hm:x.m=bitN x.i):(alM l).testBit x.i=true:=by
  induction l with
  |nil=>cases h
  | cons y l ih=>
    rw[alM_cons]
    rcases List.mem_cons.1 h with h|h
    · rw[←h,if_pos ha,hm];exact lor_bit (.inl (bitN_self _))
    · have:=ih h
      split
      · exact lor_bit (.inr this)
      · exact this
theorem Tr.set_det{α:Type}{t:Tr α}:∀(i:Nat) (v:Option α),(∃t',∀{β:Type} (k:Tr α→Option β),t.set i v k=k t')∨∀{β:Type} (k:Tr α→Option β),t.set i v k=none:=by
  induction t with
  | e=>
    intro i v
    cases i with
    |zero=>exact .inl ⟨_,λk=>rfl⟩
    |succ i=>exact .inr λk=>rfl
  | n l x r ihl ihr=>
    intro i v
    cases i with
    |zero=>exact .inl ⟨_,λk=>rfl⟩
    | succ i=>
      have e:∀{β:Type} (k:Tr α→Option β),(Tr.n l x r).set (i+1) v k=(Bool.rec (l.set (i/2) v (λl'=>k (.n l' x r))) (r.set (i/2) v (λr'=>k (.n l x r'))) (Nat.beq (i%2) 1):Option β):=λk=>rfl
      cases hb:Nat.beq (i%2) 1 with
      | true=>
        rcases ihr (i/2) v with⟨t',h⟩|h
        · exact .inl ⟨_,λk=>by rw[e,hb];exact h _⟩
        · exact .inr λk=>by rw[e,hb];exact h _
      | false=>
        rcases ihl (i/2) v with⟨t',h⟩|h
        · exact .inl ⟨_,λk=>by rw[e,hb];exact h _⟩
        · exact .inr λk=>by rw[e,hb];exact h _
theorem putO_det (st:St)(d:Option Nat)(v:Value)(h:Hp):(∃st',(∀{β:Type} (k:St→Option β),putO st d v h k=k st')∧∀t,d≠some t→tmpG st' t=tmpG st t)∨∀{β:Type} (k:St→Option β),putO st d v h k=none:=by
  have key:((∃st',∀{β:Type} (k:St→Option β),putO st d v h k=k st')∨∀{β:Type} (k:St→Option β),putO st d v h k=none):=by
    obtain⟨N,G,vv,s,dd,hh⟩:=st
    cases d with
    |none=>exact .inl ⟨_,λk=>rfl⟩
    | some d=>
      have e:∀{β:Type} (k:St→Option β),putO ⟨N,G,vv,s,dd,hh⟩ (some d) v h k=(Bool.rec none (Bool.rec (k ⟨N,G,.n d v vv,s,dd,h⟩) (s.set d (some v) λs=>k ⟨N,G,vv,s,dd,h⟩) (bitB G d)) (Nat.blt d N):Option β):=λk=>rfl
      cases hb:Nat.blt d N with
      |false=>exact .inr λk=>by rw[e,hb]
      | true=>
        cases hg:bitB G d with
        |false=>exact .inl ⟨_,λk=>by rw[e,hb,hg]⟩
        | true=>
          rcases Tr.set_det (t:=s) d (some v)with⟨t',h⟩|h
          · exact .inl ⟨_,λk=>by rw[e,hb,hg];exact h _⟩
          · exact .inr λk=>by rw[e,hb,hg];exact h _
  rcases key with⟨st',h⟩|h
  · refine .inl ⟨st',h,λt ht=> ?_⟩
    have e:putO st d v ‹Hp› some=some st':=h some
    obtain⟨st2,h1,_,_,_,_,h6⟩:=putO_some e
    cases h1
    rw[h6,if_neg ht]
  · exact .inr h
open Classical in
noncomputable def loc (st:St) (d:Option Nat) (nx:St→Out):St→Out:=λst'=>if∀t,d≠some t→tmpG st' t=tmpG st t then nx st' else none
theorem putO_loc (v:Value)(h:Hp):putO st d v h (loc st d nx)=putO st d v h nx:=by
 rcases putO_det st d v h with⟨st',h1,h2⟩|h1
 · rw[h1,h1];unfold loc;rw[if_pos h2]
 · rw[h1,h1]
theorem runO_loc{op:Op}(hd:noDefer op=true)(e:runO P st E rd d op nx=some q):runO P st E rd d op (loc st d nx)=some q:=by
  have hk:(λv h=>putO st d v h (loc st d nx))=(λv h=>putO st d v h nx):=by funext v h;exact putO_loc v h
  cases op with
  |defer c=>cases hd
  | _=>
    unfold runO runK at*
    dsimp only at*
    simp only[hk]at*
    exact e
theorem loc_some{st':St}(e:loc st d nx st'=some q):nx st'=some q∧∀t,d≠some t→tmpG st' t=tmpG st t:=by
 unfold loc at e
 split at e
 · rename_i h;exact⟨e,h⟩
 · cases e
end Go.Ev
namespace Go.Ev
open Go Go.Ow Go.RowKit
variable{P:Program}{m:Mp}{st:St}{ρ:Operand→Value}{S:Nat→Prop}{w0 w:World}{k:KV}{q:Ex×St}
variable{d:Option Tmp}{ty:TypeId}{pos:String}{aft:Array Edge}{g:Option (Nat×Bool)}{a:Act}
variable{rd:Option Nat}{nx:St→Out}{next:Act→World→Prop}{Q:Exit→Act→World→Prop}{E:EvF}{ops:Array Oper}{r0:Option Nat}
def FS (P:Program)(ops:Array Oper)(m:Mp)(fl:List Fz)(listed:Array Bool)(w:World):Prop:=
 ∀f∈fl,(∀j c o,ops[j]? =some o→isE (kdI P o)=true→(clM ops)[j]? =some c→listed.getD j false=true→c.testBit f.i=false)→LdC P f.T (m f.b).blk ((m f.b).base+f.o) (inst m f.v) w
def FlOk (n:Nat)(fl:List Fz):Prop:=∀f∈fl,f.b<n∧bel n f.v
theorem FS.ext{m':Mp}{n:Nat}{fl:List Fz}{listed:Array Bool}(he:Ext n m m')(hf:FlOk n fl):FS P ops m' fl listed w↔FS P ops m fl listed w:=by
 unfold FS
 constructor<;>intro h f hm hc
 · have:=h f hm hc
   rw[he f.b (hf f hm).1,inst_ext he f.v (hf f hm).2]at this;exact this
 · rw[he f.b (hf f hm).1,inst_ext he f.v (hf f hm).2];exact h f hm hc
theorem FS.skip{fl:List Fz}{listed:Array Bool}{i:Nat}{o:Oper}(hi:ops[i]? =some o)(hk:isE (kdI P o)=false):FS P ops m fl (listed.setIfInBounds i true) w↔FS P ops m fl listed w:=by
 have key:∀(j:Nat) (o':Oper),ops[j]? =some o'→isE (kdI P o')=true→((listed.setIfInBounds i true).getD j false=true↔listed.getD j false=true):=λj o' hj he=>by
  have:i≠j:=λe=>by subst e;rw[hi]at hj;cases hj;rw[hk]at he;cases he
  rw[getD_set_ne false this]
 unfold FS
 constructor<;>intro h f hm hc<;>refine h f hm λj c o' h1 h2 h3 h4=>hc j c o' h1 h2 h3 ?_
 · exact(key j o' h1 h2).1 h4
 · exact(key j o' h1 h2).2 h4
theorem FS.sub{fl fl':List Fz}{listed:Array Bool}(h:FS P ops m fl listed w)(hs:∀f∈fl',f∈fl):FS P ops m fl' listed w:=λf hf hc=>h f (hs f hf) hc
def LeL (l l':Array Bool):Prop:=∀i,l.getD i false=true→l'.getD i false=true
theorem wpAL_mono{F:Fence}{n:Nat}{md:Region.Mode}{S S':Array Bool→World→Prop}:∀{fuel:Nat} {listed:Array Bool} {a:Act} {w:World},(∀l w,LeL listed l→S' l w→S l w)→wpAL F n P md ops Q S' fuel listed a w→wpAL F n P md ops Q S fuel listed a w
 |0,_,_,_,_,h=>h
 |fuel+1,listed,a,w,hs,h=>⟨h.1,λi hi=>wpOpIn_mono (λa' w' h'=>by
  have hle:LeL listed (listed.setIfInBounds i true):=λj hj=>getD_set_true hj
  exact⟨hs _ _ hle h'.1,wpAL_mono (λl w hl=>hs l w λj hj=>hl j (hle j hj)) h'.2⟩) (h.2 i hi)⟩
theorem chk_some{h:Hp}{c:Nat}:∀{fl:List Fz} {k:List Fz→Out},chk P h c fl k=some q→∃fl',k fl'=some q∧(∀f∈fl',f∈fl∧rd1 P h f=some true)∧∀f∈fl,c.testBit f.i=true∨f∈fl'
  |[],k,e=>⟨[],e,(λf h=>by cases h),(λf h=>by cases h)⟩
  | f ::fl,k,e=>by
    have e:bb (subM (bitN f.i) c) (chk P h c fl k) (oB (rd1 P h f) λb=>Bool.rec none (chk P h c fl λr=>k (f::r)) b)=some q:=e
    rcases bb_some e with⟨h1,h2⟩|⟨h1,h2⟩
    · obtain⟨fl',j1,j2,j3⟩:=chk_some h2
      refine⟨fl',j1,λx hx=>⟨List.mem_cons_of_mem _ (j2 x hx).1,(j2 x hx).2⟩,λx hx=> ?_⟩
      rcases List.mem_cons.1 hx with rfl|hx
      · exact .inl (subM_bit h1 (bitN_self _))
      · exact j3 x hx
    · obtain⟨b,h3,h4⟩:=oB_some h2
      obtain⟨h5,h6⟩:=bT h4
      subst h5
      obtain⟨fl',j1,j2,j3⟩:=chk_some h6
      refine⟨f::fl',j1,λx hx=> ?_,λx hx=> ?_⟩
      · rcases List.mem_cons.1 hx with rfl|hx
        · exact⟨by simp,h3⟩
        · exact⟨List.mem_cons_of_mem _ (j2 x hx).1,(j2 x hx).2⟩
      · rcases List.mem_cons.1 hx with rfl|hx
        · exact .inr (by simp)
        · exact(j3 x hx).imp id (List.mem_cons_of_mem _)
theorem opL_ok{o:Oper}{i:Nat}{nxl:List Fz→St→Out}(hi:ops[i]? =some o)(hs:SR m st a)(r:Rel m st.h S w0 w)(hk:isE (kdI P o)=false)(fl:List Fz)(e:opL P st ops.toList i o nxl=some q):
    ∃ v st' fs,nxl fs st'=some q∧st'.h=st.h∧SR m st' (a.put o.dst v)∧YieldsL P .any ops (FS P ops m (fs++fl)) i o v a∧(∀t,o.dst≠some t→tmpG st' t=tmpG st t)∧
      FlOk st.h.nx fs∧∀f∈fs,LdC P f.T (m f.b).blk ((m f.b).base+f.o) (inst m f.v) w:=by
  obtain⟨dst,op,ty,pos,aft,g⟩:=o
  cases op with
  | load T p=>
    have yes:Region.wanted ⟨dst,.load T p,ty,pos,aft,g⟩ (yielded ops a.tmps)=true→ldL P st i dst T p nxl=some q→
        ∃v st' fs,nxl fs st'=some q∧st'.h=st.h∧SR m st' (a.put dst v)∧YieldsL P .any ops (FS P ops m (fs++fl)) i ⟨dst,.load T p,ty,pos,aft,g⟩ v a∧(∀t,dst≠some t→tmpG st' t=tmpG st t)∧
      FlOk st.h.nx fs∧∀f∈fs,LdC P f.T (m f.b).blk ((m f.b).base+f.o) (inst m f.v) w:=λhw e=>by
      obtain⟨pv,h1,h2⟩:=wth_some e
      obtain⟨b,o,rfl,h3⟩:=vPtr_some h2
      obtain⟨v,h4,h5,h6,h7,h8⟩:=oLoad_LdC (ty:=ty) (pos:=pos) (aft:=aft) (g:=g) (d:=dst) hs.ops r h1 h3
      obtain⟨st',j1,j2,j3,j4⟩:=put_SR hs h4 h5
      refine⟨inst m v,st',[⟨i,b,o,T,v⟩],j1,j2,j3,.inl ⟨hw,λlisted w' hD hr hS=> ?_⟩,(λt ht=>by rw[j4,if_neg ht]),λf hf=> ?_,λf hf=> ?_⟩
      · refine h8 w' (hS ⟨i,b,o,T,v⟩ (by simp) λj c oj h1 h2 h3 h4=> ?_)
        cases hc:c.testBit i with
        |false=>rfl
        | true=>
          have:=clM_ok ops j c h3 i hc listed hD h4
          have hu:=(mem_ready.1 hr).1
          rcases Nat.lt_or_ge i listed.size with h'|h'
          · simp[h']at this hu;rw[this]at hu;cases hu
          · simp[Array.getElem?_eq_none h']at this
      · simp only[List.mem_cons,List.not_mem_nil,or_false]at hf;subst hf;exact⟨h6,h5⟩
      · simp only[List.mem_cons,List.not_mem_nil,or_false]at hf;subst hf;exact h7
    cases g with
    |none=>exact yes rfl e
    | some g=>
      obtain⟨j,b⟩:=g
      have e':=guard_some (ty:=ty) (pos:=pos) (aft:=aft) (dst:=dst) (op:=.load T p) hs (show guardR st ops.toList j (λr=>Bool.rec (putO st dst undefV (ohp st) (nxl [])) (ldL P st i dst T p nxl) r) b=some q from e)
      cases hw:Region.wanted ⟨dst,.load T p,ty,pos,aft,some (j,b)⟩ (yielded ops a.tmps)with
      |true=>rw[hw]at e';exact yes hw e'
      | false=>
        rw[hw]at e'
        obtain⟨st',j1,j2,j3,j4⟩:=put_SR (d:=dst) hs e' undef_bel
        rw[undef_inst]at j3
        exact⟨undef,st',[],j1,j2,j3,.inr ⟨hw,rfl⟩,(λt ht=>by rw[j4,if_neg ht]),(λf hf=>by cases hf),(λf hf=>by cases hf)⟩
  |_=>cases e
theorem opE_wp (ihF:SF P E)(ihC:SC P E){o:Oper}{i:Nat}(hi:ops[i]? =some o)(hd:noDefer o.op=true)(hs:SR m st a)(r:Rel m st.h S w0 w)(hrd:∀l,rd=some l→l<st.h.nx)(hr0:r0=rd.map (λl=>(m l).blk))(e:opE P st E rd ops.toList o nx=some q)
    {K:Act→World→Prop}(hK:∀st' m' a' w' v,nx st'=some q→Ext st.h.nx m m'→st.h.nx≤st'.h.nx→SR m' st' a'→Rel m' st'.h S w0 w'→Rel m' st'.h (liveS m st.h w) w w'→a'.tmps=(a.put o.dst v).tmps→(∀t,o.dst≠some t→tmpG st' t=tmpG st t)→K a' w'):
    wpOpIn (Fw r0) 0 P ops Q i K a w:=by
  obtain⟨dst,op,ty,pos,aft,g⟩:=o
  unfold wpOpIn
  simp only[hi]
  have yes:runO P st E rd dst op nx=some q→(⟨dst,op,ty,pos,aft,g⟩:Oper).wpIn (Fw r0) 0 P a w K Q:=λe'=>by
    rw[hr0]
    have e2:=runO_loc hd e'
    have h1:=runO_ok (Q:=Q) (ty:=ty) (pos:=pos) (aft:=aft) (g:=g) (S:=liveS m st.h w) (w0:=w) (w:=w) (next:=λa' w'=>∃st' m',nx st'=some q∧Ext st.h.nx m m'∧st.h.nx≤st'.h.nx∧SR m' st' a'∧Rel m' st'.h (liveS m st.h w) w w'∧∀t,dst≠some t→tmpG st' t=tmpG st t) ihF ihC hs r.root hrd e2
      (λst' hst m' a' w' x1 n1 s1 r1=>⟨st',m',(loc_some hst).1,x1,n1,s1,r1,(loc_some hst).2⟩)
    have h2:=wpIn_shape h1
    refine Oper.wpIn_mono (λa' w' hh=> ?_) h2
    obtain⟨⟨v,hv⟩,st',m',k1,k2,k3,k4,k5,k6⟩:=hh
    exact hK st' m' a' w' v k1 k2 k3 k4 (r.trans k5) k5 hv k6
  cases g with
  |none=>rw[if_pos wanted_none];exact yes e
  | some g=>
    obtain⟨j,b⟩:=g
    have e':=guard_some (ty:=ty) (pos:=pos) (aft:=aft) (dst:=dst) (op:=op) hs (show guardR st ops.toList j (λr=>Bool.rec (putO st dst undefV (ohp st) nx) (runO P st E rd dst op nx) r) b=some q from e)
    split
    · rename_i hw
      rw[hw]at e'
      exact yes e'
    · rename_i hw
      have hw:Region.wanted ⟨dst,op,ty,pos,aft,some (j,b)⟩ (yielded ops a.tmps)=false:=by simpa using hw
      rw[hw]at e'
      obtain⟨st',j1,j2,j3,j4⟩:=put_SR (d:=dst) hs e' undef_bel
      rw[undef_inst]at j3
      exact⟨λ_ _=>trivial,hK st' m _ w undef j1 (Ext.refl _ m) (by rw[j2];exact Nat.le_refl _) j3 (by rw[j2];exact r) (by rw[j2];exact r.root) rfl (λt ht=>by rw[j4,if_neg ht])⟩
theorem opd0{o:Operand}{v:Value}(e:opd st0 o=some v)(st:St):opd st o=some v:=by
  cases o with
  | tmp t=>
    exfalso
    have e:(Bool.rec (SL.get .e t) (Tr.get .e t) (bitB 0 t):Option Value)=some v:=e
    cases hb:bitB 0 t<;>(rw[hb]at e;cases e)
  |const u=>exact e
  |global g=>cases e
  |func f=>exact e
theorem opr0 (m:Mp)(a:Act):OpR m st0 a.eval:=λo v e=>by
  cases o with
  | tmp t=>
    exfalso
    have e:(Bool.rec (SL.get .e t) (Tr.get .e t) (bitB 0 t):Option Value)=some v:=e
    cases hb:bitB 0 t<;>(rw[hb]at e;cases e)
  | const u=>
    obtain⟨h1,h2⟩:=bT (show(Bool.rec none (some u) (flatB u):Option Value)=some v from e)
    cases h2
    exact⟨(flatB_inst h1 m).symm,flatB_bel h1 _⟩
  |global g=>cases e
  | func f=>
    cases e
    refine⟨?_,?_⟩
    · show a.eval (.func f)=inst m (.func (.func f) ⟨[]⟩ ⟨[]⟩)
      rw[inst_func];rfl
    · exact bel_func.2 ⟨(λl q=>by cases q),(λv hv=>by cases hv),(λv hv=>by cases hv)⟩
theorem zeros_flat{l:List Value}(h:flatL l=true)(n:Nat):∀v∈(List.replicate n l).flatten,flat1 v=true:=λv hv=>by
 obtain⟨l',h1,h2⟩:=List.mem_flatten.1 hv
 rw[List.eq_of_mem_replicate h1]at h2
 exact flatL_iff h v h2
theorem AK.bel{mk:AK}{n b:Nat}(h:b<n):Ev.bel n (mk.val b):=by
 cases mk with
 |ptr=>exact bel_ptr.2 h
 |sl k c=>exact bel_slice.2 h
theorem AK.inst{mk:AK}{nx blk:Nat}(h:∀n c,mk=.sl n c→c≠UNK):Ev.inst (upd m nx ⟨blk,0,0,1,Nat.zero_le _⟩) (mk.val nx)=mk.val blk:=by
  cases mk with
  |ptr=>show Ev.inst _ (.pointer (some ⟨nx,0,none⟩))=_;rw[inst_ptr,upd_same];rfl
  | sl k c=>
    show Ev.inst _ (.slice (some ⟨nx,0,none⟩) k c)=.slice (some ⟨blk,0,none⟩) k c
    simp only[Ev.inst,Option.map_some,iA,upd_same]
    rw[iCap_known (h k c rfl)]
theorem alS_all{op:Op}{T:TypeId}{z:List Value}{mk:AK}(e:alS P op=some (T,z,mk)):(∀v∈z,flat1 v=true)∧(∀n c,mk=.sl n c→c≠UNK)∧
 (∀(a:Act) (w:World) (t:Nat) (ty:TypeId) (pos:String) (aft:Array Edge),(execOp a.eval ⟨some t,op,ty,pos,aft,none⟩).run P w=.ok (.value (mk.val w.heap.size)) (w.alloc (.cells z.toArray T (0,0))))∧
 (∀(st:St) (E:EvF) (rd:Option Nat) (t:Nat) (nx:St→Out) (q:Ex×St),runO P st E rd (some t) op nx=some q→st.h.push (.cs z.length z T) (λb h=>putO st (some t) (mk.val b) h nx)=some q):=by
 unfold alS at e
 split at e
 · rename_i T'
   obtain⟨z',h1,h2⟩:=oB_some e
   obtain⟨n,h3,h4⟩:=oB_some h2
   cases h4
   obtain⟨ii,v,hi2,hz2,rfl,hf,hlen⟩:=zrT_some h1
   refine⟨flatL_iff hf,(λn c q=>by cases q),λa w t ty pos aft=> ?_,λst E rd t nx q e'=> ?_⟩
   · simp only[execOp]
     refine run_v ?_
     simp only[Instr.alloc,Sem.run_bind,run_zero hi2 hz2,Result.andThen,newVar,newRow,run_newObj_alloc,Sem.run_pure,Array.toArray_toList]
     rfl
   · obtain⟨z',g1,g2⟩:=oB_some (show oAlloc P st (λv h=>putO st (some t) v h nx) T=some q from e')
     rw[h1]at g1;cases g1
     obtain⟨n',g3,g4⟩:=oB_some g2
     obtain⟨i',hi',hsz⟩:=szT_info g3
     rw[hi2]at hi';cases hi'
     rw[hlen,hsz];exact g4
 · rename_i T' o p
   obtain⟨v,h1,h2⟩:=wth_some e
   obtain⟨kn,n,rfl,h3⟩:=vNat_some h2
   obtain⟨u,h4,h5⟩:=wth_some h3
   obtain⟨kc,c,rfl,h6⟩:=vNat_some h5
   obtain⟨h7,h8⟩:=bT h6
   obtain⟨⟨e',sz⟩,h9,h10⟩:=oB_some h8
   obtain⟨zz,h11,h12⟩:=oB_some h10
   rw[repA_eq]at h12
   obtain⟨h13,h14⟩:=bT h12
   cases h14
   obtain⟨hu,hsz⟩:=elT_some h9
   obtain⟨i,zv,hi,hz,rfl,hf,hlen⟩:=zrT_some h11
   obtain⟨i',hi',hb,hpos,hc⟩:=fitT_some h13
   rw[hi]at hi';cases hi'
   obtain⟨i',hi',hs2⟩:=szT_info hsz
   rw[hi]at hi';cases hi'
   refine⟨zeros_flat hf c,(λn c q=>by cases q;exact unk_ne hc),λa w t ty pos aft=> ?_,λst E rd t nx q e'=> ?_⟩
   · have i1:=(opr0 (λ_=>⟨0,0,0,0,Nat.zero_le _⟩) a o _ h1).1
     have i3:=(opr0 (λ_=>⟨0,0,0,0,Nat.zero_le _⟩) a p _ h4).1
     rw[inst_int]at i1 i3
     have hlz:zv.cells.size=i.size:=by rw[←Array.length_toList];exact hlen
     have hrun:=run_make (P:=P) w T' e' i zv hu hi hz kn kc n c (by omega) (by have:=ble_le h7;omega) (by
      have:((i.bytes*c:Nat):Int)≤281474976710656:=by omega
      rwa[Int.natCast_mul]at this) (by omega)
     simp only[execOp,i1,i3]
     refine run_v ?_
     rw[show Int.ofNat n=(n:Int)from rfl,show Int.ofNat c=(c:Int)from rfl,hrun]
     have hmc:madeCells zv.cells (c*i.size)=((List.replicate c zv.cells.toList).flatten).toArray:=by
      rw[←hlz];apply Array.ext';rw[madeCells_flat zv.cells c (by omega)]
     rw[Int.toNat_natCast,Int.toNat_natCast,hmc]
     rfl
   · obtain⟨v',g1,g2⟩:=wth_some (show oMakeSlice P st (λv h=>putO st (some t) v h nx) T' o p=some q from e')
     rw[opd0 h1 st]at g1;cases g1
     obtain⟨u',g4,g5⟩:=wth_some g2
     rw[opd0 h4 st]at g4;cases g4
     obtain⟨g7,g8⟩:=bT g5
     obtain⟨e2,g9,g10⟩:=oB_some g8
     rw[h9]at g9;cases g9
     obtain⟨z2,g11,g12⟩:=oB_some g10
     rw[h11]at g11;cases g11
     rw[repA_eq,fN_eq]at g12
     obtain⟨_,g14⟩:=bT g12
     have hl:((List.replicate c zv.cells.toList).flatten).length=Nat.mul c sz:=by
      rw[List.length_flatten];simp[hlen,hs2]
     rw[hl];exact g14
 · cases e
theorem alS_no{op:Op}{r:TypeId×List Value×AK}(e:alS P op=some r):noDefer op=true:=by
 unfold alS at e
 split at e
 · rfl
 · rfl
 · cases e
def AlM (P:Program)(op:Op)(ρ:Operand→Value)(T:TypeId)(z:List Value)(mk:AK):Prop:=
 ∀(w:World) (t:Nat) (ty:TypeId) (pos:String) (aft:Array Edge),(execOp ρ ⟨some t,op,ty,pos,aft,none⟩).run P w=.ok (.value (mk.val w.heap.size)) (w.alloc (.cells z.toArray T (0,0)))
theorem AlM.inj{op:Op}{T T':TypeId}{z z':List Value}{mk mk':AK}(h:AlM P op ρ T z mk)(h':AlM P op ρ T' z' mk')(w:World):T=T'∧z=z'∧mk=mk':=by
  have e := (h w 0 0 "" #[]).symm.trans (h' w 0 0 "" #[])
  injection e with e1 e2
  injection e1 with e1
  have e3:=heap_alloc_new w (.cells z.toArray T (0,0))
  rw[e2,heap_alloc_new w (.cells z'.toArray T' (0,0))]at e3
  injection e3 with e3
  injection e3 with e4 e5
  refine⟨e5.symm,(by injection e4 with e4;exact e4.symm),?_⟩
  cases mk with
  | ptr=>cases mk' with
    |ptr=>rfl
    |sl=>cases e1
  | sl n c=>cases mk' with
    |ptr=>cases e1
    |sl n' c'=>cases e1;rfl
theorem isAl.no{op:Op}(h:isAl P op):noDefer op=true:=by
 rcases h with⟨T,n,ps,rfl⟩|⟨r,h⟩
 · rfl
 · exact alS_no h
theorem AlM.congr{op:Op}{ρ':Operand→Value}{T:TypeId}{z:List Value}{mk:AK}(h:AlM P op ρ T z mk)(hk:isAl P op)(he:∀o∈op.operands.toList,ρ' o=ρ o):AlM P op ρ' T z mk:=λw t ty pos aft=>by
 rw[←h w t ty pos aft]
 congr 1
 rcases hk with⟨T,n,ps,rfl⟩|⟨r,hk⟩
 · have:(ps.map fun(i,x)=>(i,ρ' x))=(ps.map fun(i,x)=>(i,ρ x)):=by
    apply Array.map_congr_left
    intro p hp
    have:=he p.2 (by simp[Op.operands];exact⟨p.1,hp⟩)
    simp[this]
   simp only[execOp,this]
 · unfold alS at hk
   split at hk
   · rfl
   · rename_i T o p
     simp only[execOp,he o (by simp[Op.operands]),he p (by simp[Op.operands])]
   · cases hk
theorem bs_all (hs:OpR m st ρ){T:TypeId}{n:Nat}{ps:Array (Nat×Operand)}(e:oBuildSlice P st k T n ps=some q):∃e' l,AlM P (.buildSlice T n ps) ρ e' (l.map (inst m)) (.sl n n)∧(∀v∈l,bel st.h.nx v)∧n≠UNK∧
 st.h.push (.cs l.length l e') (λb h=>k (.slice (some ⟨b,0,none⟩) n n) h)=some q:=by
 obtain⟨⟨e',sz⟩,h1,h2⟩:=oB_some e
 obtain⟨z,h3,h4⟩:=oB_some h2
 rw[repA_eq]at h4
 obtain⟨h5,h6⟩:=bT h4
 rw[Bool.and_eq_true]at h5
 obtain⟨hu,hsz⟩:=elT_some h1
 have h3:zrT P e'=some z:=h3
 obtain⟨i,zv,hi,hz,rfl,hf,hlen⟩:=zrT_some h3
 obtain⟨i',hi',hs2⟩:=szT_info hsz
 rw[hi]at hi';cases hi'
 obtain⟨cs,j1,j2,j3,j4⟩:=fill_lay hs h6 (zeros_bel hf n _)
 rw[fN_eq]at j1
 have hN:n≠UNK:=Nat.ne_of_lt (blt_lt h5.2)
 have h16:n*sz≤16777216:=ble_le h5.1
 have hlz:zv.cells.size=i.size:=by rw[←Array.length_toList];exact hlen
 have hl:cs.length=n*sz:=by rw[j3,List.length_flatten];simp[hlen,hs2]
 rw[zeros_inst hf]at j4
 have j4:Instr.fill (λi=>some (i*sz,sz)) (List.replicate n zv.cells.toList).flatten.toArray (ps.toList.map λp=>(p.1,ρ p.2))=some (cs.map (inst m)).toArray:=j4
 refine⟨e',cs,λw t ty pos aft=> ?_,j2,hN,by rw[hl];exact j1⟩
 simp only[execOp]
 refine run_v ?_
 have h24:¬(n*sz>2^24):=by omega
 have ep:(ps.map fun(i,x)=>(i,ρ x)).toList=ps.toList.map λp=>(p.1,ρ p.2):=parts_map
 simp only[Instr.buildSlice,Sem.run_bind,run_underlying hu,Result.andThen,run_size hsz,if_neg h24]
 by_cases h0:n*sz=0
 · have hz0:(List.replicate n zv.cells.toList).flatten= []:=List.length_eq_zero_iff.1 (by rw[List.length_flatten];simp[hlen,hs2,h0])
   rw[hz0]at j4
   simp only[h0,if_true,Sem.run_bind,Sem.run_pure,Result.andThen,ep]
   have hr:(Array.map (λx=>(#[]:Array Value)[x%(#[]:Array Value).size]!) (Array.range 0))=(([]:List Value)).toArray:=by simp
   rw[hr]
   simp only[j4,newRow,Sem.run_bind,run_newObj_alloc,Result.andThen,Sem.run_pure]
   rfl
 · have hmc:(Array.range (n*sz)).map (λk=>zv.cells[k%zv.cells.size]!)=((List.replicate n zv.cells.toList).flatten).toArray:=by
    have hp:0<zv.cells.size:=by
     rcases Nat.eq_zero_or_pos zv.cells.size with c|c
     · exfalso;apply h0;rw[←hs2,←hlz,c,Nat.mul_zero]
     · exact c
    have:=madeCells_flat zv.cells n hp
    rw[hlz,hs2]at this
    apply Array.ext'
    exact this
   simp only[h0,if_false,Sem.run_bind,run_zero hi hz,Result.andThen,Sem.run_pure,ep,hmc,j4,newRow,run_newObj_alloc]
   rfl
theorem al_at{op:Op}(hk:isAl P op)(hs:SR m st a){t:Nat}(e:runO P st E rd (some t) op nx=some q):∃T l mk,AlM P op a.eval T (l.map (inst m)) mk∧(∀v∈l,bel st.h.nx v)∧(∀n c,mk=.sl n c→c≠UNK)∧
 st.h.push (.cs l.length l T) (λb h=>putO st (some t) (mk.val b) h nx)=some q:=by
 rcases hk with⟨T,n,ps,rfl⟩|⟨⟨T,z,mk⟩,hk⟩
 · obtain⟨e',l,h1,h2,h3,h4⟩:=bs_all hs.ops (show oBuildSlice P st (λv h=>putO st (some t) v h nx) T n ps=some q from e)
   exact⟨e',l,.sl n n,h1,h2,(λa b q=>by cases q;exact h3),h4⟩
 · obtain⟨h1,h2,h3,h4⟩:=alS_all hk
   refine⟨T,z,mk,?_,λv hv=>bel_flat1 (h1 v hv) _,h2,h4 st E rd t nx q e⟩
   rw[show z.map (inst m)=z from(List.map_congr_left (λv hv=>inst_flat1 (h1 v hv) _)).trans (List.map_id _)]
   exact λw t ty pos aft=>h3 a w t ty pos aft
theorem alloc_wp{i:Nat}{o:Oper}{T:TypeId}{t:Nat}{z:List Value}{mk:AK}(hi:ops[i]? =some o)(hk:isAl P o.op)(ho:AlM P o.op a.eval T z mk)(hg:o.guard=none)(hd:o.dst=some t){K:Act→World→Prop}(h:K (a.put (some t) (mk.val w.heap.size)) (w.alloc (.cells z.toArray T (0,0)))):
 wpOpIn (Fw r0) 0 P ops Q i K a w:=by
 obtain⟨dst,op,ty,pos,aft,g⟩:=o
 cases hg;cases hd
 unfold wpOpIn
 simp only[hi]
 rw[if_pos wanted_none]
 refine⟨λ_ _=>trivial,?_⟩
 rw[semAt_of hk.no,ho w t ty pos aft]
 exact h
theorem alloc_adopt{o:Oper}{T:TypeId}{t blk:Nat}{z:List Value}{mk:AK}(hk:isAl P o.op)(ho:AlM P o.op a.eval T z mk)(hg:o.guard=none)(hd:o.dst=some t)(hs:SR m st a)(r:Rel m st.h S w0 w)(p:Pd m st.h w0 w blk z T)(ha:t<a.tmps.size→a.tmps[t]? =some (mk.val blk))
 (e:opE P st E rd ops.toList o nx=some q):∃st',nx st'=some q∧st'.h.nx=st.h.nx+1∧SR (upd m st.h.nx ⟨blk,0,0,1,Nat.zero_le _⟩) st' a∧Rel (upd m st.h.nx ⟨blk,0,0,1,Nat.zero_le _⟩) st'.h S w0 w∧(∀t',o.dst≠some t'→tmpG st' t'=tmpG st t')∧
  ∀k,live (upd m st.h.nx ⟨blk,0,0,1,Nat.zero_le _⟩) st'.h k→live m st.h k∨k=blk:=by
 obtain⟨dst,op,ty,pos,aft,g⟩:=o
 cases hg;cases hd
 obtain⟨T',zl,mk',hM,hbl,hu,hev⟩:=al_at hk hs (show runO P st E rd (some t) op nx=some q from e)
 obtain⟨rfl,rfl,rfl⟩:=ho.inj hM w
 obtain⟨h',j1,j2,j3⟩:=push_some hev
 obtain⟨st',k1,k2,k3,k4,k5,k6⟩:=putO_some j1
 have hR:=p.adopt r hbl j2 j3
 have xu:=upd_ext m st.h.nx ⟨blk,0,0,1,Nat.zero_le _⟩
 have htn:t<a.tmps.size:=by rw[hs.size];exact k2 t rfl
 refine⟨st',k1,by rw[k4,j2],?_,by rw[k4];exact hR,λt' ht'=>by rw[k6,if_neg ht'],λk hk=> ?_⟩
 · have hb:bel st'.h.nx (mk.val st.h.nx):=AK.bel (by rw[k4,j2];exact Nat.lt_succ_self _)
   have:=hs.put (d:=some t) xu (by rw[k4,j2];exact Nat.le_succ _) hb k3 k5 k2 k6
   rw[AK.inst hu]at this
   have e2:a.put (some t) (mk.val blk)=a:=by
    have h0:=ha htn
    obtain⟨tm,df⟩:=a
    show(⟨tm.setIfInBounds t _,df⟩:Act)=⟨tm,df⟩
    congr 1
    apply Array.ext_getElem?
    intro j
    by_cases hj:j=t
    · subst hj
      have h0:tm[j]? =some (mk.val blk):=h0
      rw[Array.getElem?_setIfInBounds,if_pos rfl,if_pos (show j<tm.size from htn),h0]
    · rw[Array.getElem?_setIfInBounds_ne (Ne.symm hj)]
   rw[e2]at this
   exact this
 · obtain⟨j,b,e1,rfl⟩:=hk
   rw[k4,j3]at e1
   by_cases hj:j=st.h.nx
   · exact .inr (by rw[hj,upd_same])
   · rw[if_neg hj]at e1
     exact .inl ⟨j,b,e1,by rw[show upd m st.h.nx ⟨blk,0,0,1,Nat.zero_le _⟩ j=m j from if_neg hj]⟩
end Go.Ev
namespace Go.Ev
open Go Go.Ow Go.RowKit
variable{P:Program}{m:Mp}{st:St}{ρ:Operand→Value}{S:Nat→Prop}{w0 w:World}{k:KV}{q:Ex×St}
variable{d:Option Tmp}{ty:TypeId}{pos:String}{aft:Array Edge}{g:Option (Nat×Bool)}{a:Act}
variable{rd:Option Nat}{nx:St→Out}{next:Act→World→Prop}{Q:Exit→Act→World→Prop}{E:EvF}{ops:Array Oper}{r0:Option Nat}
variable{s r:List It}{b al:Nat}{pd:Nat→Option Nat}{l:Array Bool}{x:It}
structure Inv (P:Program) (ops:Array Oper) (al:Nat) (s:List It) (b:Nat) (pd:Nat→Option Nat) (l:Array Bool):Prop where
  size:l.size=ops.size
  its:∀x∈s,ItOk P ops x
  nodup:(s.map It.i).Nodup
  cov:∀i,i<ops.size→b.testBit i=true∨∃x∈s,x.i=i
  sep:∀x∈s,b.testBit x.i=false
  al:∀x∈s,isA x.kd=true→al.testBit x.i=true
  pdm:∀i blk,pd i=some blk→∃x∈s,x.i=i∧isA x.kd=true
  lst:∀i,l.getD i false=true↔(b.testBit i=true∨(pd i).isSome=true)
  dn:Dn .any ops l
theorem nodup_inj{s:List It}(h:(s.map It.i).Nodup){x y:It}(hx:x∈s)(hy:y∈s)(e:x.i=y.i):x=y:=by
  induction s with
  |nil=>cases hx
  | cons z s ih=>
    rw[List.map_cons,List.nodup_cons]at h
    rcases List.mem_cons.1 hx with hx'|hx'<;>rcases List.mem_cons.1 hy with hy'|hy'
    · rw[hx',hy']
    · subst hx';exact absurd ((List.mem_map (l:=s)).2 ⟨y,hy',e.symm⟩) h.1
    · subst hy';exact absurd ((List.mem_map (l:=s)).2 ⟨x,hx',e⟩) h.1
    · exact ih h.2 hx' hy'
theorem getD_tf{l:Array Bool}{i:Nat}(hi:i<l.size):l.getD i true=l.getD i false:=by
 simp[Array.getD_eq_getD_getElem?,hi]
theorem Inv.lt (h:Inv P ops al s b pd l)(hx:x∈s):x.i<ops.size:=(Array.getElem?_eq_some_iff.1 (h.its x hx).op).1
theorem Inv.un (h:Inv P ops al s b pd l)(hx:x∈s)(hp:pd x.i=none):l.getD x.i true=false:=by
  rw[getD_tf (by rw[h.size];exact h.lt hx)]
  cases hq:l.getD x.i false with
  |false=>rfl
  | true=>
    rcases(h.lst x.i).1 hq with c|c
    · rw[h.sep x hx]at c;cases c
    · rw[hp]at c;cases c
theorem Inv.ready (h:Inv P ops al s b pd l)(hx:x∈s)(hp:pd x.i=none)(hw:subM x.w b=true):x.i∈Region.ready .any ops l:=by
 have ho:=h.its x hx
 refine ready_of ho.op (b:=b) (λi hi=>(h.lst i).2 (.inl hi)) (h.un hx hp) ?_
 rw[←ho.w];exact hw
theorem Inv.pd_none (h:Inv P ops al (x::r) b pd l)(hk:isA x.kd=false):pd x.i=none:=by
  cases hp:pd x.i with
  |none=>rfl
  | some blk=>
    obtain⟨y,hy,e,ha⟩:=h.pdm _ _ hp
    have:=nodup_inj h.nodup hy (List.mem_cons_self ..) e
    subst this
    rw[hk]at ha;cases ha
theorem Inv.left (h:Inv P ops al s b pd l){j:Nat}{o:Oper}(hj:ops[j]? =some o)(hu:l.getD j true=false):∃y∈s,y.i=j∧pd j=none∧y.o=o:=by
 have hlt:=(Array.getElem?_eq_some_iff.1 hj).1
 rw[getD_tf (by rw[h.size];exact hlt)]at hu
 rcases h.cov j hlt with c|⟨y,hy,rfl⟩
 · rw[(h.lst j).2 (.inl c)]at hu;cases hu
 · have ho:=(h.its y hy).op
   rw[hj]at ho
   refine⟨y,hy,rfl,?_,(Option.some.inj ho).symm⟩
   cases hp:pd y.i with
   |none=>rfl
   |some blk=>rw[(h.lst y.i).2 (.inr (by rw[hp];rfl))]at hu;cases hu
theorem lor_bitN{b i j:Nat}:(Nat.lor b (bitN i)).testBit j=true↔(b.testBit j=true∨j=i):=by
 constructor
 · intro h
   rcases lor_or h with h|h
   · exact .inl h
   · exact .inr (bitN_bit h)
 · rintro(h|rfl)
   · exact lor_bit (.inl h)
   · exact lor_bit (.inr (bitN_self _))
theorem Inv.step (h:Inv P ops al (x::r) b pd l)(hp:pd x.i=none)(hr:x.i∈Region.ready .any ops l):Inv P ops al r (Nat.lor b x.m) pd (l.setIfInBounds x.i true):=by
  have hm:=(h.its x (by simp)).m
  have nd:=h.nodup
  rw[List.map_cons,List.nodup_cons]at nd
  have hxl:x.i<l.size:=by rw[h.size];exact h.lt (List.mem_cons_self ..)
  rw[hm]
  refine⟨by simp[h.size],λy hy=>h.its y (List.mem_cons_of_mem _ hy),nd.2,λi hi=> ?_,λy hy=> ?_,λy hy=>h.al y (List.mem_cons_of_mem _ hy),λi blk hb=> ?_,λi=> ?_,h.dn.set hr⟩
  · rcases h.cov i hi with c|⟨y,hy,rfl⟩
    · exact .inl (lor_bitN.2 (.inl c))
    · rcases List.mem_cons.1 hy with rfl|hy
      · exact .inl (lor_bitN.2 (.inr rfl))
      · exact .inr ⟨y,hy,rfl⟩
  · cases hq:(Nat.lor b (bitN x.i)).testBit y.i with
    |false=>rfl
    | true=>
      rcases lor_bitN.1 hq with c|c
      · rw[h.sep y (List.mem_cons_of_mem _ hy)]at c;cases c
      · exact absurd (List.mem_map.2 ⟨y,hy,c⟩) nd.1
  · obtain⟨y,hy,e,ha⟩:=h.pdm i blk hb
    rcases List.mem_cons.1 hy with rfl|hy
    · rw[e,hb]at hp;cases hp
    · exact⟨y,hy,e,ha⟩
  · rw[lor_bitN]
    by_cases hi:i=x.i
    · subst hi
      simp[hxl]
    · rw[getD_set_ne false (Ne.symm hi),h.lst i]
      simp[hi]
theorem Inv.early (h:Inv P ops al s b pd l)(hx:x∈s)(ha:isA x.kd=true)(hr:x.i∈Region.ready .any ops l)(blk:Nat):Inv P ops al s b (λi=>if i=x.i then some blk else pd i) (l.setIfInBounds x.i true):=by
 have hxl:x.i<l.size:=by rw[h.size];exact h.lt hx
 refine⟨by simp[h.size],h.its,h.nodup,h.cov,h.sep,h.al,λi bl hb=> ?_,λi=> ?_,h.dn.set hr⟩
 · by_cases hi:i=x.i
   · exact⟨x,hx,hi.symm,ha⟩
   · rw[if_neg hi]at hb;exact h.pdm i bl hb
 · by_cases hi:i=x.i
   · subst hi;simp[hxl]
   · rw[getD_set_ne false (Ne.symm hi),h.lst i,if_neg hi]
theorem Inv.adopt (h:Inv P ops al (x::r) b pd l){blk:Nat}(hp:pd x.i=some blk):Inv P ops al r (Nat.lor b x.m) (λi=>if i=x.i then none else pd i) l:=by
  have hm:=(h.its x (by simp)).m
  have nd:=h.nodup
  rw[List.map_cons,List.nodup_cons]at nd
  rw[hm]
  refine⟨h.size,λy hy=>h.its y (List.mem_cons_of_mem _ hy),nd.2,λi hi=> ?_,λy hy=> ?_,λy hy=>h.al y (List.mem_cons_of_mem _ hy),λi bl hb=> ?_,λi=> ?_,h.dn⟩
  · rcases h.cov i hi with c|⟨y,hy,rfl⟩
    · exact .inl (lor_bitN.2 (.inl c))
    · rcases List.mem_cons.1 hy with rfl|hy
      · exact .inl (lor_bitN.2 (.inr rfl))
      · exact .inr ⟨y,hy,rfl⟩
  · cases hq:(Nat.lor b (bitN x.i)).testBit y.i with
    |false=>rfl
    | true=>
      rcases lor_bitN.1 hq with c|c
      · rw[h.sep y (List.mem_cons_of_mem _ hy)]at c;cases c
      · exact absurd (List.mem_map.2 ⟨y,hy,c⟩) nd.1
  · by_cases hi:i=x.i
    · rw[if_pos hi]at hb;cases hb
    · rw[if_neg hi]at hb
      obtain⟨y,hy,e,ha⟩:=h.pdm i bl hb
      rcases List.mem_cons.1 hy with rfl|hy
      · exact absurd e.symm hi
      · exact⟨y,hy,e,ha⟩
  · rw[lor_bitN,h.lst i]
    by_cases hi:i=x.i
    · subst hi;simp[hp]
    · simp[hi]
theorem Inv.only (h:Inv P ops al (x::r) b pd l){bl:Nat}(hc:∀y∈r,hd1 x bl y=true)(hb:∀j,b.testBit j=true→bl.testBit j=true)(hpd:∀j,j≠x.i→al.testBit j=true→bl.testBit j=true)(hp:pd x.i=none)
    {i:Nat}(hi:i∈Region.ready .any ops l):i=x.i∨∃y∈r,y.i=i∧isA y.kd=true∧pd i=none:=by
  obtain⟨hu,o,ho,hall⟩:=mem_ready.1 hi
  obtain⟨y,hy,e,hpn,rfl⟩:=h.left ho hu
  rcases List.mem_cons.1 hy with rfl|hy'
  · exact .inl e.symm
  · right
    refine⟨y,hy',e,?_,hpn⟩
    have h1:=hc y hy'
    have h1:bb (isA y.kd) (aOk x y) (not (subM y.w bl))=true:=h1
    cases hA:isA y.kd with
    |true=>rfl
    | false=>
      rw[hA]at h1
      have h2:(!(subM y.w bl))=true:=h1
      have h3:subM y.w bl=true:=by
        rw[(h.its y hy).w]
        refine ready_sub ho hi λj hj=> ?_
        rcases(h.lst j).1 hj with c|c
        · exact hb j c
        · obtain⟨blk,hblk⟩:=Option.isSome_iff_exists.1 c
          obtain⟨z,hz,e2,ha2⟩:=h.pdm j blk hblk
          refine hpd j (λc=> ?_) (by rw[←e2];exact h.al z hz ha2)
          rw[c,hp]at hblk;cases hblk
      rw[h3]at h2;cases h2
def unl (l:Array Bool):Nat:=l.toList.count false
theorem unl_set{l:Array Bool}{i:Nat}(h:l.getD i true=false):unl (l.setIfInBounds i true)+1=unl l:=by
 unfold unl
 have hi:i<l.size:=by
  rcases Nat.lt_or_ge i l.size with c|c
  · exact c
  · rw[Array.getD_eq_getD_getElem?,Array.getElem?_eq_none c]at h;cases h
 have hv:l[i]=false:=by simpa[Array.getD_eq_getD_getElem?,hi]using h
 rw[Array.toList_setIfInBounds,List.count_set (by simpa using hi)]
 have hv':l.toList[i]'(by simpa using hi)=false:=by simpa using hv
 have hpos:0<l.toList.count false:=List.count_pos_iff.2 (by rw[←hv'];exact List.getElem_mem _)
 rw[hv']
 have e1:(if(false==false)=true then 1 else 0)=1:=rfl
 have e2:(if(true==false)=true then 1 else 0)=0:=rfl
 rw[e1,e2]
 omega
def PdI (P:Program)(m:Mp)(h:Hp)(w0 w:World)(a:Act)(pd:Nat→Option Nat)(s:List It):Prop:=
 ∀x∈s,∀blk,pd x.i=some blk→∃T t z mk,x.o.dst=some t∧AlM P x.o.op a.eval T z mk∧Pd m h w0 w blk z T∧(t<a.tmps.size→a.tmps[t]? =some (mk.val blk))
def Inj (pd:Nat→Option Nat):Prop:=∀i j blk,pd i=some blk→pd j=some blk→i=j
def Emp (st:St)(s:List It):Prop:=∀x∈s,isA x.kd=true→∀t,x.o.dst=some t→tmpG st t=none
theorem ItOk.alc (h:ItOk P ops x)(ha:isA x.kd=true):isAl P x.o.op∧x.o.guard=none∧∃t,x.o.dst=some t∧∀T n ps,x.o.op=.buildSlice T n ps→Operand.tmp t∉x.o.op.operands.toList:=by
 have hk:=h.kd
 cases hq:x.kd with
 |a=>rw[hq]at hk;exact kdI_a hk.symm
 |_=>rw[hq]at ha;cases ha
theorem wth_tmp{β:Type}{t:Tmp}{k:Value→Option β}{y:β}(e:wth st0 (.tmp t) k=some y):False:=by
 obtain⟨v,h,_⟩:=wth_some e
 have e:(Bool.rec (SL.get .e t) (Tr.get .e t) (bitB 0 t):Option Value)=some v:=h
 cases hb:bitB 0 t<;>(rw[hb]at e;cases e)
theorem ItOk.self (h:ItOk P ops x)(ha:isA x.kd=true){t:Nat}(ht:x.o.dst=some t):∀o∈x.o.op.operands.toList,o≠.tmp t:=by
 obtain⟨h1,h2,t',h3,h4⟩:=h.alc ha
 rw[ht]at h3;cases h3
 rintro o ho rfl
 rcases h1 with⟨T,n,ps,h1⟩|⟨r,h1⟩
 · exact h4 T n ps h1 ho
 · generalize x.o.op=op at h1 ho
   unfold alS at h1
   split at h1
   · simp[Op.operands]at ho
   · rename_i T a b
     simp only[Op.operands,List.mem_cons,List.not_mem_nil,or_false]at ho
     have h1:alMk P T a b=some r:=h1
     rcases ho with rfl|rfl
     · exact wth_tmp h1
     · obtain⟨v,_,h5⟩:=wth_some h1
       obtain⟨_,n,rfl,h6⟩:=vNat_some h5
       exact wth_tmp h6
   · cases h1
theorem put_tmps_ne{d:Option Tmp}{v:Value}{t:Nat}(h:d≠some t):(a.put d v).tmps[t]? =a.tmps[t]?:=by
 cases d with
 |none=>rfl
 |some u=>exact Array.getElem?_setIfInBounds_ne (λe=>h (by rw[e]))
theorem eval_ne{a':Act}{d:Option Tmp}{v:Value}(h:a'.tmps=(a.put d v).tmps){o:Operand}(hn:∀t,d=some t→o≠.tmp t):a'.eval o=a.eval o:=by
  cases o with
  | tmp t=>
    have:a'.tmps[t]? =a.tmps[t]?:=by
      rw[h]
      exact put_tmps_ne (λe=>hn t e rfl)
    simp only[Act.eval,Array.getD_eq_getD_getElem?,this]
  |const v=>rfl
  |global g=>rfl
  |func f=>rfl
theorem noMk_ne{x y:It}(hx:ItOk P ops x)(hy:ItOk P ops y)(h:noM x.d y.k=true){o:Operand}(ho:o∈y.o.op.operands.toList):∀t,x.o.dst=some t→o≠.tmp t:=λt ht e=>by
 subst e
 rw[hx.d,hy.k,ht]at h
 refine noM_bit h (bitN_self t) ?_
 exact lor_bit (.inl (opsM_bit ho))
theorem noM_ne{x y:It}(hx:ItOk P ops x)(hy:ItOk P ops y)(h:noM x.d y.d=true){t:Nat}(ht:y.o.dst=some t):x.o.dst≠some t:=λe=>by
 rw[hx.d,hy.d,e,ht]at h
 exact noM_bit h (bitN_self t) (bitN_self t)
theorem put_tmps_size{d:Option Tmp}{v:Value}:(a.put d v).tmps.size=a.tmps.size:=by
 cases d<;>simp[Act.put]
theorem Emp.tail{st':St}(h:Emp st (x::r))(hI:Inv P ops al (x::r) b pd l)(hn:∀y∈r,isA y.kd=true→noM x.d y.d=true)(hs:∀t,x.o.dst≠some t→tmpG st' t=tmpG st t):Emp st' r:=λy hy ha t ht=>by
 rw[hs t (noM_ne (hI.its x (by simp)) (hI.its y (List.mem_cons_of_mem _ hy)) (hn y hy ha) ht)]
 exact h y (List.mem_cons_of_mem _ hy) ha t ht
theorem aOk_some{x y:It}(h:aOk x y=true):noM x.d y.d=true∧(noM x.d y.k=true∨(isA x.kd=false∧subM x.m y.w=true))∧(isA x.kd=true→noM y.d x.k=true):=by
 unfold aOk at h
 simp only[Bool.and_eq_true,Bool.or_eq_true,Bool.not_eq_true']at h
 refine⟨h.1,h.2.1,λhx=> ?_⟩
 rcases h.2.2 with c|c
 · rw[hx]at c;cases c
 · exact c
theorem noM_lor{a b c:Nat}(h:noM a (Nat.lor b c)=true):noM a b=true:=by
  have h1:a&&&(b |||c)=0:=Nat.eq_of_beq_eq_true h
  have h2:a&&&b=0:=by
    apply Nat.eq_of_testBit_eq
    intro i
    have h3:(a&&&(b |||c)).testBit i=false:=by rw[h1];exact Nat.zero_testBit i
    rw[Nat.testBit_and,Nat.testBit_or]at h3
    rw[Nat.testBit_and,Nat.zero_testBit]
    cases ha:a.testBit i with
    |false=>rfl
    | true=>
      rw[ha]at h3
      cases hb:b.testBit i with
      |false=>rfl
      |true=>rw[hb]at h3;cases h3
  show Nat.beq (a&&&b) 0=true
  rw[h2];rfl
theorem CondS.aok (h:CondS al b x r):∀y∈r,isA y.kd=true→noM x.d y.d=true∧(noM x.d y.k=true∨(isA x.kd=false∧subM x.m y.w=true))∧(isA x.kd=true→noM y.d x.k=true):=λy hy ha=>by
  rcases h with⟨h1,h2,h3⟩|⟨h1,h2,h3⟩|⟨h1,h2,h3⟩
  · have hx:isA x.kd=false:=by cases hq:x.kd<;>rw[hq]at h1<;>first|rfl|cases h1
    have h4:=and_t (h3 y hy)
    refine⟨?_,?_,λc=>by rw[hx]at c;cases c⟩
    · have h4:=h4.1
      rw[ha]at h4
      cases hq:Ev.noM x.d y.d with
      |true=>rfl
      |false=>rw[hq]at h4;cases h4
    · cases hq:subM x.m y.w with
      |true=>exact .inr ⟨hx,rfl⟩
      | false=>
        have h5:=h4.2
        rw[hq]at h5
        have h5:apIt x y=true:=h5
        unfold apIt at h5
        exact .inl (noM_lor (and_t h5).1)
  · have h4:bb (isA y.kd) (aOk x y) (not (subM y.w (Nat.lor b al)))=true:=h3 y hy
    rw[ha]at h4;exact aOk_some h4
  · have h4:bb (isA y.kd) (aOk x y) (not (subM y.w (Nat.lor b (Nat.xor al x.m))))=true:=h3 y hy
    rw[ha]at h4;exact aOk_some h4
theorem CondS.noM (h:CondS al b x r):∀y∈r,isA y.kd=true→noM x.d y.d=true:=λy hy ha=>(h.aok y hy ha).1
theorem PdI.tail{a':Act}{v:Value}{h:Hp}(hp:PdI P m h w0 w a pd (x::r))(hI:Inv P ops al (x::r) b pd l)(hC:CondS al b x r)(hx0:isA x.kd=false)(ha:a'.tmps=(a.put x.o.dst v).tmps)
 {m':Mp}{h':Hp}{w':World}(hP:∀blk z T,Pd m h w0 w blk z T→Pd m' h' w0 w' blk z T):PdI P m' h' w0 w' a' pd r:=λy hy blk hb=>by
 have hyo:=hI.its y (List.mem_cons_of_mem _ hy)
 obtain⟨T,t,z,mk,h1,h2,p1,p2⟩:=hp y (List.mem_cons_of_mem _ hy) blk hb
 have hA:isA y.kd=true:=by
  obtain⟨y',hy',e,hA⟩:=hI.pdm _ _ hb
  have:=nodup_inj hI.nodup hy' (List.mem_cons_of_mem _ hy) e
  subst this;exact hA
 have hc:=hC.aok y hy hA
 refine⟨T,t,z,mk,h1,h2.congr (hyo.alc hA).1 (λo ho=>eval_ne ha ?_),hP _ _ _ p1,λht=> ?_⟩
 · rcases hc.2.1 with hk|⟨_,hk⟩
   · exact noMk_ne (hI.its x (by simp)) hyo hk ho
   · exfalso
     have hyl:l.getD y.i false=true:=(hI.lst y.i).2 (.inr (by rw[hb];rfl))
     have hbit:(wtM y.o).testBit x.i=true:=by rw[←hyo.w];exact subM_bit hk (by rw[(hI.its x (by simp)).m];exact bitN_self _)
     obtain⟨e,he,hbn,hon⟩:=wtL_mem hbit
     have h3:=hI.dn y.i y.o hyo.op hyl e (by simpa using he) hbn
     rw[hon]at h3
     have h4:=hI.un (List.mem_cons_self ..) (hI.pd_none hx0)
     rw[getD_tf (by rw[hI.size];exact hI.lt (List.mem_cons_self ..)),h3]at h4
     cases h4
 · rw[ha,put_tmps_size]at ht
   rw[ha,put_tmps_ne (noM_ne (hI.its x (by simp)) hyo hc.1 h1)]
   exact p2 ht
theorem Sch.apart:∀{s:List It} {b:Nat},Sch al s b→(∀x∈s,ItOk P ops x)→∀{x y:It},x∈s→y∈s→isA x.kd=true→isA y.kd=true→y≠x→∀{t:Nat},x.o.dst=some t→y.o.dst=some t→False
  |[],_,_,_,x,y,hx,_,_,_,_,t,_,_=>by cases hx
  | z::s,b,h,hI,x,y,hx,hy,ax,ay,hne,t,dx,dy=>by
    rcases List.mem_cons.1 hx with rfl|hx'<;>rcases List.mem_cons.1 hy with rfl|hy'
    · exact hne rfl
    · exact noM_ne (hI x (by simp)) (hI y (by simp[hy'])) (h.1.noM y hy' ay) dy dx
    · exact noM_ne (hI y (by simp)) (hI x (by simp[hx'])) (h.1.noM x hx' ax) dx dy
    · exact Sch.apart h.2 (λu hu=>hI u (List.mem_cons_of_mem _ hu)) hx' hy' ax ay hne dx dy
theorem Sch.apartK:∀{s:List It} {b:Nat},Sch al s b→∀{x y:It},x∈s→y∈s→isA x.kd=true→isA y.kd=true→y≠x→Ev.noM x.d y.k=true
  |[],_,_,x,y,hx,_,_,_,_=>by cases hx
  | z ::s,b,h,x,y,hx,hy,ax,ay,hne=>by
    rcases List.mem_cons.1 hx with rfl|hx'<;>rcases List.mem_cons.1 hy with rfl|hy'
    · exact absurd rfl hne
    · rcases(h.1.aok y hy' ay).2.1 with c|c
      · exact c
      · rw[ax]at c;cases c.1
    · exact(h.1.aok x hx' ax).2.2 ay
    · exact Sch.apartK h.2 hx' hy' ax ay hne
theorem unM_bit{t:Nat}:∀{s:List It},(unM s).testBit t=true→(∀z∈s,ItOk P ops z)→∃z∈s,isA z.kd=false∧z.i=t
  |[],h,_=>by rw[show unM []=0 from rfl,Nat.zero_testBit]at h;cases h
  | z ::s,h,hI=>by
    have h:(bb (isA z.kd) (unM s) (Nat.lor z.m (unM s))).testBit t=true:=h
    cases hq:isA z.kd with
    | true=>
      rw[hq]at h
      obtain⟨u,hu,h1⟩:=unM_bit h (λy hy=>hI y (List.mem_cons_of_mem _ hy))
      exact⟨u,List.mem_cons_of_mem _ hu,h1⟩
    | false=>
      rw[hq]at h
      rcases lor_or h with c|c
      · rw[(hI z (by simp)).m]at c
        exact⟨z,by simp,hq,(bitN_bit c).symm⟩
      · obtain⟨u,hu,h1⟩:=unM_bit c (λy hy=>hI y (List.mem_cons_of_mem _ hy))
        exact⟨u,List.mem_cons_of_mem _ hu,h1⟩
theorem Inv.free (h:Inv P ops al s b pd l){y:It}(hy:y∈s)(hr:y.i∈Region.ready .any ops l):Ev.noM y.w (unM s)=true:=by
  have hyo:=h.its y hy
  have key:y.w&&&unM s=0:=by
    apply Nat.eq_of_testBit_eq
    intro t
    rw[Nat.testBit_and,Nat.zero_testBit]
    cases h1:y.w.testBit t with
    |false=>rfl
    | true=>
      cases h2:(unM s).testBit t with
      |false=>rfl
      | true=>
        exfalso
        obtain⟨z,hz,hA,rfl⟩:=unM_bit h2 h.its
        rw[hyo.w]at h1
        obtain⟨e,he,hb,hon⟩:=wtL_mem h1
        obtain⟨_,o,ho,hall⟩:=mem_ready.1 hr
        rw[hyo.op]at ho;cases ho
        have hl:=hall e (by simpa using he) hb
        rw[hon]at hl
        have hp:pd z.i=none:=by
          cases hp:pd z.i with
          |none=>rfl
          | some blk=>
            obtain⟨z',hz',e',hA'⟩:=h.pdm _ _ hp
            have:=nodup_inj h.nodup hz' hz e'
            subst this
            rw[hA]at hA';cases hA'
        have h4:=h.un hz hp
        rw[getD_tf (by rw[h.size];exact h.lt hz)]at h4
        first
        |rw[hl]at h4;cases h4
        |(rw[getD_tf (by rw[h.size];exact h.lt hz)]at hl;rw[hl]at h4;cases h4)
  show Nat.beq (y.w&&&unM s) 0=true
  rw[key];rfl
theorem al_now (h:Inv P ops al s b pd l)(hc:chkB P st s=true)(hs:SR m st a){y:It}(hy:y∈s)(hA:isA y.kd=true)(hr:y.i∈Region.ready .any ops l):∃T z mk,AlM P y.o.op a.eval T z mk:=by
  rcases((h.its y hy).alc hA).1 with⟨T,n,ps,h1⟩|⟨⟨T,z,mk⟩,h1⟩
  · have hb:bsOk P st y.o.op=true:=by
      unfold chkB at hc
      have hne:Nat.beq (alM s) 0=false:=by
        cases hq:Nat.beq (alM s) 0 with
        |false=>rfl
        | true=>
          exfalso
          have h2:=alM_bit hy hA (h.its y hy).m
          rw[Nat.eq_of_beq_eq_true hq,Nat.zero_testBit]at h2
          cases h2
      rw[hne]at hc
      have h3:=allI_iff (show allI (λy=>bb (isA y.kd) (bb (Ev.noM y.w (unM s)) (bsOk P st y.o.op) true) true) s=true from hc) y hy
      rw[hA,h.free hy hr]at h3
      exact h3
    rw[h1]at hb⊢
    cases hq:oBuildSlice P st (λ_ _=>some (.norm,st)) T n ps with
    | none=>
      have hb:(Option.rec false (λ_=>true) (oBuildSlice P st (λ_ _=>some (.norm,st)) T n ps):Bool)=true:=hb
      rw[hq]at hb;cases hb
    | some q'=>
      obtain⟨e',l',h4,_⟩:=bs_all hs.ops hq
      exact⟨_,_,_,h4⟩
  · exact⟨T,z,mk,λw t ty pos aft=>(alS_all h1).2.2.1 a w t ty pos aft⟩
theorem goD_ok (ihF:SF P E)(ihC:SC P E)(hall:∀(j:Nat) (o:Oper),ops[j]? =some o→kdI P o≠.x)(hQ:∀c a w,¬Q (.panic c) a w):∀(N fuel:Nat) {s:List It} {b:Nat} {pd:Nat→Option Nat} {l:Array Bool} {fl:List Fz} {st:St} {m:Mp} {a:Act} {w:World},
    fuel+s.length≤N→unl l≤fuel→Sch al s b→Inv P ops al s b pd l→FlOk st.h.nx fl→goD P E rd ops.toList s fl st=some q→SR m st a→Rel m st.h S w0 w→(∀l,rd=some l→l<st.h.nx)→r0=rd.map (λl=>(m l).blk)→
    Emp st s→PdI P m st.h w0 w a pd s→Inj pd→FS P ops m fl l w→Goes m S w0 st.h.nx q.2 (Q (exX q.1))→wpAL (Fw r0) 0 P .any ops Q (FS P ops m fl) fuel l a w:=by
  have hsel:∀(j:Nat) (o:Oper) cs b,ops[j]? =some o→o.op≠.select cs b:=λj o cs b hj=>(kd_noDefer (hall j o hj)).2 cs b
  have hdef:∀(j:Nat) (o:Oper),ops[j]? =some o→noDefer o.op=true:=λj o hj=>(kd_noDefer (hall j o hj)).1
  intro N
  induction N with
  | zero=>
    intro fuel s b pd l fl st m a w hN hU hS hI hF e hs r hrd hr0 hE hP hJ hFS hG
    cases s with
    |cons x s=>simp at hN
    | nil =>
      cases(show some (Ex.norm,cutV st)=some q from e)
      have hnr:Region.ready .any ops l= []:=by
        cases hq:Region.ready .any ops l with
        |nil=>rfl
        | cons i t=>
          have hi:i∈Region.ready .any ops l:=by rw[hq];simp
          obtain⟨hu,o,ho,_⟩:=mem_ready.1 hi
          obtain⟨y,hy,_⟩:=hI.left ho hu
          cases hy
      have hf:fuel=0:=by omega
      subst hf
      exact⟨hnr,hG m a w (Ext.refl _ _) (Nat.le_refl _) (cut_ok hs) r⟩
  | succ N ih =>
    intro fuel s b pd l fl st m a w hN hU hS hI hF e hs r hrd hr0 hE hP hJ hFS hG
    cases s with
    | nil =>
      cases(show some (Ex.norm,cutV st)=some q from e)
      have hnr:Region.ready .any ops l= []:=by
        cases hq:Region.ready .any ops l with
        |nil=>rfl
        | cons i t=>
          have hi:i∈Region.ready .any ops l:=by rw[hq];simp
          obtain⟨hu,o,ho,_⟩:=mem_ready.1 hi
          obtain⟨y,hy,_⟩:=hI.left ho hu
          cases hy
      have hq:=hG m a w (Ext.refl _ _) (Nat.le_refl _) (cut_ok hs) r
      cases fuel with
      |zero=>exact⟨hnr,hq⟩
      |succ fuel=>exact⟨λ_=>hq,λi hi=>by rw[hnr]at hi;cases hi⟩
    | cons x s=>
      have hx:=hI.its x (by simp)
      -- an allocation that comes early
      have early:chkB P st (x::s)=true→∀y∈x::s,isA y.kd=true→∀fuel',fuel=fuel'+1→y.i∈Region.ready .any ops l→pd y.i=none→
          wpOpIn (Fw r0) 0 P ops Q y.i (λa' w'=>FS P ops m fl (l.setIfInBounds y.i true) w'∧wpAL (Fw r0) 0 P .any ops Q (FS P ops m fl) fuel' (l.setIfInBounds y.i true) a' w') a w:=λhchk y hy hA fuel' hf hr hpn=>by
        subst hf
        have hyo:=hI.its y hy
        obtain⟨h1,h2,t,h3,_⟩:=hyo.alc hA
        obtain⟨T,z,mk,h0⟩:=al_now hI hchk hs hy hA hr
        refine alloc_wp hyo.op h1 h0 h2 h3 ?_
        have hE0:isE (kdI P y.o)=false:=by
          rw[←hyo.kd]
          cases hq:y.kd with
          |a=>rfl
          |_=>rw[hq]at hA;cases hA
        have hFS':FS P ops m fl (l.setIfInBounds y.i true) (w.alloc (.cells z.toArray T (0,0))):=(FS.skip hyo.op hE0).2 λf hf hc=>by
          obtain⟨hb,_⟩:=hF f hf
          refine(hFS f hf hc).alloc
        refine⟨hFS',?_⟩
        have hu:=hI.un hy hpn
        have hUs:=unl_set hu
        have hslot:tmpG st t=none:=hE y hy hA t h3
        have hs':SR m st (a.put (some t) (mk.val w.heap.size)):=⟨by rw[put_tmps_size];exact hs.size,λi v ev=>by
          have hne:some t≠some i:=λc=>by cases c;rw[hslot]at ev;cases ev
          rw[put_tmps_ne hne];exact hs.slots i v ev,hs.ds⟩
        have r':Rel m st.h S w0 (w.alloc (.cells z.toArray T (0,0))):=r.kept (alloc_kept _)
        refine ih fuel' (by simp at hN⊢;omega) (by omega) hS (hI.early hy hA hr w.heap.size) hF e hs' r' hrd hr0 hE ?_ ?_ hFS' hG
        · intro u hu' blk hb
          have hb:(if u.i=y.i then some w.heap.size else pd u.i)=some blk:=hb
          by_cases hc:u.i=y.i
          · have:=nodup_inj hI.nodup hu' hy hc
            subst this
            rw[if_pos rfl]at hb
            cases hb
            refine⟨T,t,z,mk,h3,h0.congr h1 (λo ho=>eval_ne rfl (λt' ht'=>by cases ht';exact hyo.self hA h3 o ho)),Pd.new r z T,λht=> ?_⟩
            rw[put_tmps_size]at ht
            show(a.tmps.setIfInBounds t _)[t]? =_
            rw[Array.getElem?_setIfInBounds,if_pos rfl,if_pos ht]
          · rw[if_neg hc]at hb
            obtain⟨T',t',z',mk',k1,k2,p1,p2⟩:=hP u hu' blk hb
            have hAu:isA u.kd=true:=by
              obtain⟨u',hu2,e2,hA2⟩:=hI.pdm _ _ hb
              have:=nodup_inj hI.nodup hu2 hu' e2
              subst this;exact hA2
            have huo:=hI.its u hu'
            refine⟨T',t',z',mk',k1,k2.congr (huo.alc hAu).1 (λo ho=>eval_ne rfl (λt2 ht2=>by
              cases ht2
              exact noMk_ne hyo huo (hS.apartK hy hu' hA hAu (λc=>hc (by rw[c]))) ho t h3)),p1.alloc,λht=> ?_⟩
            rw[put_tmps_size]at ht
            by_cases ht':t=t'
            · exfalso
              exact hS.apart hI.its hy hu' hA hAu (λc=>hc (by rw[c])) h3 (by rw[ht'];exact k1)
            · rw[put_tmps_ne (λc=>ht' (by cases c;rfl))];exact p2 ht
        · intro i j blk hi hj
          have hi:(if i=y.i then some w.heap.size else pd i)=some blk:=hi
          have hj:(if j=y.i then some w.heap.size else pd j)=some blk:=hj
          by_cases ci:i=y.i<;>by_cases cj:j=y.i
          · rw[ci,cj]
          · rw[if_pos ci]at hi;rw[if_neg cj]at hj
            cases hi
            obtain⟨u,hu',e2,hA2⟩:=hI.pdm _ _ hj
            obtain⟨_,_,_,_,_,_,p3,_⟩:=hP u hu' _ (by rw[e2];exact hj)
            have:=p3.here
            exact absurd (Array.getElem?_eq_some_iff.1 this).1 (Nat.lt_irrefl _)
          · rw[if_neg ci]at hi;rw[if_pos cj]at hj
            cases hj
            obtain⟨u,hu',e2,hA2⟩:=hI.pdm _ _ hi
            obtain⟨_,_,_,_,_,_,p3,_⟩:=hP u hu' _ (by rw[e2];exact hi)
            have:=p3.here
            exact absurd (Array.getElem?_eq_some_iff.1 this).1 (Nat.lt_irrefl _)
          · rw[if_neg ci]at hi;rw[if_neg cj]at hj;exact hJ i j blk hi hj
      have hC:=hS.1
      have hNo:=hC.noM
      -- what does not wait for the head has no part in it
      have free:(∀y∈s,fr1 x y=true)→∀(j:Nat) (oj:Oper),ops[j]? =some oj→j≠x.i→l.getD j true=false→(∀e∈oj.after,Region.binds .any e=true→e.on≠x.i)→x.o.apart ops oj=true:=λk3 j oj hj hji hun hno=>by
        obtain⟨y,hy,ey,hpn,rfl⟩:=hI.left hj hun
        rcases List.mem_cons.1 hy with rfl|hy'
        · exact absurd ey.symm hji
        · have hyo:=hI.its y hy
          have h2:=(and_t (k3 y hy')).2
          cases hq:subM x.m y.w with
          | true=>
            have hbit:(wtM y.o).testBit x.i=true:=by rw[←hyo.w];exact subM_bit hq (by rw[hx.m];exact bitN_self _)
            obtain⟨e,he,hb,hon⟩:=wtL_mem hbit
            exact absurd hon (hno e (by simpa using he) hb)
          | false=>
            rw[hq]at h2
            have h2:apIt x y=true:=h2
            refine apM_apart ?_
            unfold apIt at h2
            rw[hx.d,hx.k,hyo.d,hyo.k]at h2
            exact h2
      cases hkd:x.kd with
      | p =>
        obtain⟨k1,k2,k3⟩:isPL x.kd=true∧subM x.w b=true∧∀y∈s,fr1 x y=true:=by
          rcases hC with h|⟨h,_⟩|⟨h,_⟩
          · exact h
          · rw[hkd]at h;cases h
          · rw[hkd]at h;cases h
        have hp:=hI.pd_none (by rw[hkd];rfl)
        have hu:=hI.un (List.mem_cons_self ..) hp
        have hUs:=unl_set hu
        obtain⟨fuel',rfl⟩:∃f,fuel=f+1:=⟨fuel-1,by omega⟩
        have hK:kdI P x.o=.p:=by rw[←hx.kd,hkd]
        have hE0:isE (kdI P x.o)=false:=by rw[hK];rfl
        have e':opQ P st E rd ops.toList x.o (goD P E rd ops.toList s fl)=some q:=by
          have e0:(Kd.rec (opQ P st E rd ops.toList x.o (goD P E rd ops.toList s fl)) (opL P st ops.toList x.i x.o λf=>goD P E rd ops.toList s (f++fl)) (bb (chkB P st (x::s)) (opE P st E rd ops.toList x.o (goD P E rd ops.toList s fl)) none) (bb (chkB P st (x::s)) (opE P st E rd ops.toList x.o λst=>chk P (ohp st) x.c fl λfl=>goD P E rd ops.toList s fl st) none) none x.kd:Out)=some q:=e
          rw[hkd]at e0;exact e0
        obtain⟨v,st',j1,j2,j3,j4,j5⟩:=opP_ok (i:=x.i) hs r (kdI_of hK (λc=>by cases c) (λc=>by cases c)) e' (FS P ops m fl)
        have hr:=hI.ready (List.mem_cons_self ..) hp k2
        refine wpAL_first (λ_=>trivial) hx.op hsel hdef (λc a w h=>absurd h (hQ c _ _)) (λl w=>FS.skip hx.op hE0) fuel' l a w (free k3) hI.dn hr j4 hFS ?_
        exact ih fuel' (by simp at hN⊢;omega) (by omega) hS.2 (hI.step hp hr) (by rw[j2];exact hF) j1 j3 (by rw[j2];exact r) (by rw[j2];exact hrd) hr0 (hE.tail hI hNo j5)
          (by rw[j2];exact hP.tail hI hC (by rw[hkd];rfl) rfl (λ_ _ _ p=>p)) hJ ((FS.skip hx.op hE0).2 hFS) (by rw[j2];exact hG)
      | l =>
        obtain⟨k1,k2,k3⟩:isPL x.kd=true∧subM x.w b=true∧∀y∈s,fr1 x y=true:=by
          rcases hC with h|⟨h,_⟩|⟨h,_⟩
          · exact h
          · rw[hkd]at h;cases h
          · rw[hkd]at h;cases h
        have hp:=hI.pd_none (by rw[hkd];rfl)
        have hu:=hI.un (List.mem_cons_self ..) hp
        have hUs:=unl_set hu
        obtain⟨fuel',rfl⟩:∃f,fuel=f+1:=⟨fuel-1,by omega⟩
        have hK:kdI P x.o=.l:=by rw[←hx.kd,hkd]
        have hE0:isE (kdI P x.o)=false:=by rw[hK];rfl
        have e':opL P st ops.toList x.i x.o (λf=>goD P E rd ops.toList s (f++fl))=some q:=by
          have e0:(Kd.rec (opQ P st E rd ops.toList x.o (goD P E rd ops.toList s fl)) (opL P st ops.toList x.i x.o λf=>goD P E rd ops.toList s (f++fl)) (bb (chkB P st (x::s)) (opE P st E rd ops.toList x.o (goD P E rd ops.toList s fl)) none) (bb (chkB P st (x::s)) (opE P st E rd ops.toList x.o λst=>chk P (ohp st) x.c fl λfl=>goD P E rd ops.toList s fl st) none) none x.kd:Out)=some q:=e
          rw[hkd]at e0;exact e0
        obtain⟨v,st',fs,j1,j2,j3,j4,j5,j6,j7⟩:=opL_ok (i:=x.i) hx.op hs r hE0 fl e'
        have hr:=hI.ready (List.mem_cons_self ..) hp k2
        have hFS':FS P ops m (fs++fl) l w:=λf hf hc=>(List.mem_append.1 hf).elim (λh=>j7 f h) (λh=>hFS f h hc)
        refine wpAL_mono (S':=FS P ops m (fs++fl)) (λl w _ h=>h.sub (λf hf=>List.mem_append_right _ hf)) ?_
        refine wpAL_first (λ_=>trivial) hx.op hsel hdef (λc a w h=>absurd h (hQ c _ _)) (λl w=>FS.skip hx.op hE0) fuel' l a w (free k3) hI.dn hr j4 hFS' ?_
        exact ih fuel' (by simp at hN⊢;omega) (by omega) hS.2 (hI.step hp hr) (by rw[j2];exact λf hf=>(List.mem_append.1 hf).elim (λh=>j6 f h) (λh=>hF f h)) j1 j3 (by rw[j2];exact r) (by rw[j2];exact hrd) hr0 (hE.tail hI hNo j5)
          (by rw[j2];exact hP.tail hI hC (by rw[hkd];rfl) rfl (λ_ _ _ p=>p)) hJ ((FS.skip hx.op hE0).2 hFS') (by rw[j2];exact hG)
      | e =>
        obtain⟨k1,k2,k3⟩:isE x.kd=true∧subM x.w b=true∧∀y∈s,hd1 x (Nat.lor b al) y=true:=by
          rcases hC with⟨h,_⟩|h|⟨h,_⟩
          · rw[hkd]at h;cases h
          · exact h
          · rw[hkd]at h;cases h
        have hp:=hI.pd_none (by rw[hkd];rfl)
        have hu:=hI.un (List.mem_cons_self ..) hp
        have hUs:=unl_set hu
        obtain⟨fuel',rfl⟩:∃f,fuel=f+1:=⟨fuel-1,by omega⟩
        have hK:kdI P x.o=.e:=by rw[←hx.kd,hkd]
        obtain⟨hchk,e'⟩:chkB P st (x::s)=true∧opE P st E rd ops.toList x.o (λst=>chk P (ohp st) x.c fl λfl=>goD P E rd ops.toList s fl st)=some q:=by
          have e0:(Kd.rec (opQ P st E rd ops.toList x.o (goD P E rd ops.toList s fl)) (opL P st ops.toList x.i x.o λf=>goD P E rd ops.toList s (f++fl)) (bb (chkB P st (x::s)) (opE P st E rd ops.toList x.o (goD P E rd ops.toList s fl)) none) (bb (chkB P st (x::s)) (opE P st E rd ops.toList x.o λst=>chk P (ohp st) x.c fl λfl=>goD P E rd ops.toList s fl st) none) none x.kd:Out)=some q:=e
          rw[hkd]at e0;exact bT e0
        have hr:=hI.ready (List.mem_cons_self ..) hp k2
        refine⟨λhh=>(by rw[hh]at hr;cases hr),λi hi=> ?_⟩
        rcases hI.only (bl:=Nat.lor b al) k3 (λj h=>lor_bit (.inl h)) (λj _ h=>lor_bit (.inr h)) hp hi with rfl|⟨y,hy,rfl,hA,hpn⟩
        · refine opE_wp ihF ihC hx.op (hdef _ _ hx.op) hs r hrd hr0 e' ?_
          intro st' m' a' w' v h1 x1 n1 s1 r1 r2 hv hloc
          obtain⟨fl',c1,c2,c3⟩:=chk_some h1
          have hFS':FS P ops m' fl' (l.setIfInBounds x.i true) w':=λf hf _=>rd1_ok r1 (c2 f hf).2
          have hset:(l.setIfInBounds x.i true).getD x.i false=true:=by
            have:x.i<l.size:=by rw[hI.size];exact hI.lt (List.mem_cons_self ..)
            simp[this]
          have back:∀l2 w2,LeL (l.setIfInBounds x.i true) l2→FS P ops m' fl' l2 w2→FS P ops m fl l2 w2:=λl2 w2 hl h f hf hc=>by
            rcases c3 f hf with c|c
            · have:=hc x.i x.c x.o hx.op (by rw[hK];rfl) hx.c (hl _ hset)
              rw[c]at this;cases this
            · have:=h f c hc
              rw[x1 f.b (hF f hf).1,inst_ext x1 f.v (hF f hf).2]at this;exact this
          refine⟨back _ _ (λ_ h=>h) hFS',wpAL_mono back ?_⟩
          exact ih fuel' (by simp at hN⊢;omega) (by omega) hS.2 (hI.step hp hr) (λf hf=>⟨Nat.lt_of_lt_of_le (hF f (c2 f hf).1).1 n1,bel_mono n1 f.v (hF f (c2 f hf).1).2⟩) c1 s1 r1 (λl h=>Nat.lt_of_lt_of_le (hrd l h) n1) (by rw[hr0,Fr_ext x1 hrd]) (hE.tail hI hNo hloc)
            (hP.tail hI hC (by rw[hkd];rfl) hv (λ_ _ _ p=>p.stays r2)) hJ hFS' (hG.from x1 n1)
        · exact early hchk y (List.mem_cons_of_mem _ hy) hA fuel' rfl hi hpn
      | a =>
        obtain⟨k1,k2,k3⟩:isA x.kd=true∧subM x.w b=true∧∀y∈s,hd1 x (Nat.lor b (Nat.xor al x.m)) y=true:=by
          rcases hC with⟨h,_⟩|⟨h,_⟩|h
          · rw[hkd]at h;cases h
          · rw[hkd]at h;cases h
          · exact h
        obtain⟨g1,g2,t,g3,_⟩:=hx.alc k1
        obtain⟨hchk,e'⟩:chkB P st (x::s)=true∧opE P st E rd ops.toList x.o (goD P E rd ops.toList s fl)=some q:=by
          have e0:(Kd.rec (opQ P st E rd ops.toList x.o (goD P E rd ops.toList s fl)) (opL P st ops.toList x.i x.o λf=>goD P E rd ops.toList s (f++fl)) (bb (chkB P st (x::s)) (opE P st E rd ops.toList x.o (goD P E rd ops.toList s fl)) none) (bb (chkB P st (x::s)) (opE P st E rd ops.toList x.o λst=>chk P (ohp st) x.c fl λfl=>goD P E rd ops.toList s fl st) none) none x.kd:Out)=some q:=e
          rw[hkd]at e0;exact bT e0
        cases hp:pd x.i with
        | some blk=>
          obtain⟨T,t2,z,mk,d3,d0,p1,p2⟩:=hP x (List.mem_cons_self ..) blk hp
          rw[g3]at d3;cases d3
          obtain⟨st',q1,q2,q3,q4,q5,q6⟩:=alloc_adopt g1 d0 g2 g3 hs r p1 p2 e'
          have xu:=upd_ext m st.h.nx ⟨blk,0,0,1,Nat.zero_le _⟩
          have n1:st.h.nx≤st'.h.nx:=by rw[q2];exact Nat.le_succ _
          refine wpAL_mono (λl w _ h=>(FS.ext xu hF).1 h) ?_
          refine ih fuel (by simp at hN⊢;omega) hU hS.2 (hI.adopt hp) (λf hf=>⟨Nat.lt_of_lt_of_le (hF f hf).1 n1,bel_mono n1 f.v (hF f hf).2⟩) q1 q3 q4 (λl h=>Nat.lt_of_lt_of_le (hrd l h) n1) (by rw[hr0,Fr_ext xu hrd]) (hE.tail hI hNo q5) ?_ ?_ ((FS.ext xu hF).2 hFS) (hG.from xu n1)
          · intro y hy bl hb
            have hb:(if y.i=x.i then none else pd y.i)=some bl:=hb
            by_cases hc:y.i=x.i
            · rw[if_pos hc]at hb;cases hb
            · rw[if_neg hc]at hb
              obtain⟨T',t',z',mk',c1,c2,d1,d2⟩:=hP y (List.mem_cons_of_mem _ hy) bl hb
              refine⟨T',t',z',mk',c1,c2,⟨d1.here,λhl=> ?_,d1.fresh⟩,d2⟩
              rcases q6 _ hl with hl|hl
              · exact d1.apart hl
              · subst hl;exact hc (hJ _ _ _ hb hp)
          · intro i j bl hi hj
            have hi:(if i=x.i then none else pd i)=some bl:=hi
            have hj:(if j=x.i then none else pd j)=some bl:=hj
            split at hi
            · cases hi
            · split at hj
              · cases hj
              · exact hJ i j bl hi hj
        | none=>
          have hu:=hI.un (List.mem_cons_self ..) hp
          have hUs:=unl_set hu
          obtain⟨fuel',rfl⟩:∃f,fuel=f+1:=⟨fuel-1,by omega⟩
          have hr:=hI.ready (List.mem_cons_self ..) hp k2
          refine⟨λhh=>(by rw[hh]at hr;cases hr),λi hi=> ?_⟩
          rcases hI.only (bl:=Nat.lor b (Nat.xor al x.m)) k3 (λj h=>lor_bit (.inl h)) (λj hj h=>lor_bit (.inr (by
            show(al^^^x.m).testBit j=true
            rw[Nat.testBit_xor,h,hx.m]
            cases hq:(bitN x.i).testBit j with
            |false=>rfl
            |true=>exact absurd (bitN_bit hq) hj))) hp hi with rfl|⟨y,hy,rfl,hA,hpn⟩
          · exact early hchk x (List.mem_cons_self ..) k1 fuel' rfl hi hp
          · exact early hchk y (List.mem_cons_of_mem _ hy) hA fuel' rfl hi hpn
      |x=>exact absurd hkd hx.nx
theorem clr_some:∀{s:List It} {st:St} {k:St→Out},clr s st k=some q→st.v=.e→∃st',k st'=some q∧st'.N=st.N∧st'.d=st.d∧st'.h=st.h∧(∀t v,tmpG st' t=some v→tmpG st t=some v)∧Emp st' s
  |[],st,k,e,hv=>⟨st,e,rfl,rfl,rfl,λt v h=>h,λx hx=>by cases hx⟩
  | x ::s,st,k,e,hv=>by
    have e:bb (isA x.kd) (oB x.o.dst λd=>bb (bitB st.G d) (St.rec (λN G v s' e' h=>s'.set d none λs'=>clr s ⟨N,G,v,s',e',h⟩ k) st) (clr s st k)) (clr s st k)=some q:=e
    rcases bb_some e with⟨h1,h2⟩|⟨h1,h2⟩
    · obtain ⟨d,h3,h4⟩:=oB_some h2
      rcases bb_some h4 with⟨h5,h6⟩|⟨h5,h6⟩
      · obtain⟨N,G,v,t,dd,h⟩:=st
        obtain⟨t',j1,j2⟩:=Tr.set_some h6
        obtain⟨st',c1,c2,c3,c4,c5,c6⟩:=clr_some j1 hv
        have hd:∀i,tmpG ⟨N,G,v,t',dd,h⟩ i=if i=d then none else tmpG ⟨N,G,v,t,dd,h⟩ i:=λi=>by
          show(Bool.rec (v.get i) (t'.get i) (bitB G i):Option Value)=if i=d then none else Bool.rec (v.get i) (t.get i) (bitB G i)
          by_cases hi:i=d
          · subst hi
            have h5:bitB G i=true:=h5
            rw[h5,if_pos rfl]
            show t'.get i=none
            rw[j2,if_pos rfl]
          · rw[if_neg hi,j2,if_neg hi]
        refine⟨st',c1,c2,c3,c4,λi u hu=> ?_,λy hy ha i hi=> ?_⟩
        · have:=c5 i u hu
          rw[hd]at this
          split at this
          · cases this
          · exact this
        · rcases List.mem_cons.1 hy with rfl|hy
          · rw[h3]at hi;cases hi
            cases hq:tmpG st' d with
            |none=>rfl
            | some u=>
              have:=c5 d u hq
              rw[hd,if_pos rfl]at this;cases this
          · exact c6 y hy ha i hi
      · obtain⟨st',c1,c2,c3,c4,c5,c6⟩:=clr_some h6 hv
        refine⟨st',c1,c2,c3,c4,c5,λy hy ha i hi=> ?_⟩
        rcases List.mem_cons.1 hy with rfl|hy
        · rw[h3]at hi;cases hi
          cases hq:tmpG st' d with
          |none=>rfl
          | some u=>
            have h7:=c5 d u hq
            obtain⟨N,G,v,t,dd,h⟩:=st
            have h7:(Bool.rec (v.get d) (t.get d) (bitB G d):Option Value)=some u:=h7
            have h5:bitB G d=false:=h5
            have hv:v=.e:=hv
            rw[h5,hv]at h7;cases h7
        · exact c6 y hy ha i hi
    · obtain⟨st',c1,c2,c3,c4,c5,c6⟩:=clr_some h2 hv
      refine⟨st',c1,c2,c3,c4,c5,λy hy ha i hi=> ?_⟩
      rcases List.mem_cons.1 hy with rfl|hy
      · rw[h1]at ha;cases ha
      · exact c6 y hy ha i hi
theorem drawn_ok (hm:P.follows .mixedOrders=true)(ihF:SF P E)(ihC:SC P E){id:Nat}(hs:SR m st a)(r:Rel m st.h S w0 w)(hrd:∀l,rd=some l→l<st.h.nx)(e:opsD P E rd ops st=some q)(hQ:Goes m S w0 st.h.nx q.2 (Q (exX q.1))):
 (Code.region id ops true).wpIn (Fr m rd) 0 P Q a w:=by
 obtain⟨s,h1,h2⟩:=oB_some e
 obtain⟨its,h3,h4,h5⟩:=mkIts_some (show mkIts P ops (clM ops) ops.toList 0 (λl=>fN (alM l) λal=>schedGo al l.length l 0 some)=some s from h1) (λj=>by simp) rfl
 rw[fN_eq]at h3
 obtain⟨s',h6,h7,h8⟩:=schedGo_some its.length h3
 cases h6
 obtain⟨st',c1,c2,c3,c4,c5,c6⟩:=clr_some h2 rfl
 have hc:=cut_ok hs
 have hlen:its.length=ops.size:=by rw[h4];simp
 have hs':SR m st' a:=⟨by rw[c2];exact hc.size,λi v ev=>by rw[c4];exact hc.slots i v (c5 i v ev),by rw[c3,c4];exact hc.ds⟩
 have hits:∀y∈its,ItOk P ops y:=λy hy=>by
  obtain⟨j,hj⟩:=List.mem_iff_getElem?.1 hy
  exact(h5 j y hj).2
 have hmap:its.map It.i=List.range ops.size:=by
  apply List.ext_getElem?
  intro j
  rw[List.getElem?_map]
  rcases Nat.lt_or_ge j its.length with c|c
  · rw[List.getElem?_eq_getElem c,Option.map_some,(h5 j _ (List.getElem?_eq_getElem c)).1,List.getElem?_range (by rw[←hlen];exact c),Nat.zero_add]
  · rw[List.getElem?_eq_none c,List.getElem?_eq_none (by rw[List.length_range,←hlen];exact c)];rfl
 have hInv:Inv P ops (alM its) s 0 (λ_=>none) (Array.replicate ops.size false):=by
  refine⟨by simp,λy hy=>hits y (h7.mem_iff.1 hy),?_,λi hi=> ?_,λy _=>Nat.zero_testBit _,λy hy ha=>alM_bit (h7.mem_iff.1 hy) ha (hits y (h7.mem_iff.1 hy)).m,λi blk hb=>(by cases hb),λi=> ?_,Dn.zero _⟩
  · rw[(h7.map It.i).nodup_iff,hmap];exact List.nodup_range
  · right
    have hi':i<its.length:=by rw[hlen];exact hi
    refine⟨its[i],h7.mem_iff.2 (List.getElem_mem _),?_⟩
    rw[(h5 i _ (List.getElem?_eq_getElem hi')).1,Nat.zero_add]
  · rw[Nat.zero_testBit]
    constructor
    · intro h
      rw[Lx.zero ops.size i,Nat.zero_testBit]at h;cases h
    · rintro(h|h)<;>cases h
 have hall:∀(j:Nat) (o:Oper),ops[j]? =some o→kdI P o≠.x:=λj o hj=>by
  have hi:=(Array.getElem?_eq_some_iff.1 hj).1
  have hi':j<its.length:=by rw[hlen];exact hi
  obtain⟨q1,q2⟩:=h5 j _ (List.getElem?_eq_getElem hi')
  have hop:=q2.op
  rw[q1,Nat.zero_add,hj]at hop
  cases hop
  rw[←q2.kd];exact q2.nx
 refine Go.wpIn_mono (Q:=λe a w=>(∀c,e≠.panic c)∧Q e a w) (wpIn_region_any hm (wpAL_sound _ _ _ _
  (goD_ok (r0:=rd.map λl=>(m l).blk) ihF ihC hall (λc a w h=>h.1 c rfl) (ops.size+s.length) ops.size (Nat.le_refl _) ?_ h8 hInv (λf hf=>by cases hf) c1 hs' (by rw[c4];exact r.drew) (by rw[c4];exact hrd) rfl c6 (λx hx blk hb=>by cases hb) (λi j blk hi=>by cases hi) (λf hf=>by cases hf) ?_))) (λe a w h=>h.2)
 · unfold unl;simp
 · rw[c4]
   intro m' a' w' x1 n1 s1 r1
   exact⟨λc=>by cases q.1<;>simp[exX],hQ m' a' w' x1 n1 s1 r1⟩
end Go.Ev
namespace Go.Ev
open Go Go.Ow Go.RowKit
variable{P:Program}{m:Mp}{st:St}{ρ:Operand→Value}{S:Nat→Prop}{w0 w:World}{k:KV}{q:Ex×St}
variable{d:Option Tmp}{ty:TypeId}{pos:String}{aft:Array Edge}{g:Option (Nat×Bool)}{a:Act}
variable{rd:Option Nat}{nx:St→Out}{next:Act→World→Prop}{Q:Exit→Act→World→Prop}{E:EvF}
theorem opsE_ok (ihF:SF P E)(ihC:SC P E){ops:Array Oper}{n0:Nat}{r0:Option Nat}:∀{l:List Oper} {st:St} {m:Mp} {a:Act} {w:World},opsE P E rd ops.toList l st=some q→SR m st a→Rel m st.h S w0 w→(∀l,rd=some l→l<st.h.nx)→
    r0=rd.map (λl=>(m l).blk)→Goes m S w0 st.h.nx q.2 (Q (exX q.1))→wpLs P r0 ops Q l a w
  | [],st,m,a,w,e,hs,r,hrd,hr0,hQ=>by
    cases(show some (Ex.norm,cutV st)=some q from e)
    exact hQ m a w (Ext.refl _ _) (Nat.le_refl _) (cut_ok hs) r
  | o ::l,st,m,a,w,e,hs,r,hrd,hr0,hQ=>by
    obtain⟨dst,op,ty,pos,aft,g⟩:=o
    have tail:∀(st':St),opsE P E rd ops.toList l st'=some q→Goes m S w0 st.h.nx st' (wpLs P r0 ops Q l):=λst' e' m' a' w' x1 n1 s1 r1=>
      opsE_ok ihF ihC (n0:=n0) e' s1 r1 (λl h=>Nat.lt_of_lt_of_le (hrd l h) n1) (by rw[hr0,Fr_ext x1 hrd]) (hQ.from x1 n1)
    have yes:runO P st E rd dst op (opsE P E rd ops.toList l)=some q→(⟨dst,op,ty,pos,aft,g⟩:Oper).wpIn (Fw r0) 0 P a w (wpLs P r0 ops Q l) Q:=λe'=>by
      rw[hr0]
      have:=runO_ok (Q:=Q) (ty:=ty) (pos:=pos) (aft:=aft) (g:=g) ihF ihC hs r hrd e' tail
      rw[hr0]at this
      exact this
    simp only[wpLs]
    cases g with
    |none=>rw[wanted_none];exact yes e
    | some g=>
      obtain⟨j,b⟩:=g
      have e':=guard_some (ty:=ty) (pos:=pos) (aft:=aft) (dst:=dst) (op:=op) hs (show guardR st ops.toList j (λr=>Bool.rec (putO st dst undefV (ohp st) (opsE P E rd ops.toList l)) (runO P st E rd dst op (opsE P E rd ops.toList l)) r) b=some q from e)
      split
      · rename_i hw
        rw[hw]at e'
        exact yes e'
      · rename_i hw
        have hw:Region.wanted ⟨dst,op,ty,pos,aft,some (j,b)⟩ (yielded ops a.tmps)=false:=by simpa using hw
        rw[hw]at e'
        have:=put_goes (d:=dst) (next:=wpLs P r0 ops Q l) (m':=m) (v:=undefV) (w':=w) hs e' (Ext.refl _ m) (Nat.le_refl _) r undef_bel tail
        rw[undef_inst]at this
        exact this
theorem region_ok (ihF:SF P E)(ihC:SC P E){id:Nat}{ops:Array Oper}(hs:SR m st a)(r:Rel m st.h S w0 w)(hrd:∀l,rd=some l→l<st.h.nx)(e:opsE P E rd ops.toList ops.toList st=some q)(hQ:Goes m S w0 st.h.nx q.2 (Q (exX q.1))):
 (Code.region id ops false).wpIn (Fr m rd) 0 P Q a w:=by
 refine wpIn_region ?_
 have:=wpLs_sound (P:=P) (r:=rd.map λl=>(m l).blk) (ops:=ops) (Q:=Q) ops.toList 0 a w (λj=>by simp) (opsE_ok (n0:=0) ihF ihC e hs r hrd rfl hQ)
 rw[List.range_eq_range']
 show wpOpsIn (Fw (rd.map λl=>(m l).blk)) 0 P ops Q _ a w
 simpa using this
def SLp (P:Program)(E:EvF)(n:Nat):Prop:=∀(rd:Option Nat) (c:Code) (st:St) (q:Ex×St),E.c rd (.loop c) st=some q→(∀l,rd=some l→l<st.h.nx)→∀(m:Mp) (a:Act) (S:Nat→Prop) (w0 w:World),SR m st a→Rel m st.h S w0 w→
 ∀Q:Exit→Act→World→Prop,Goes m S w0 st.h.nx q.2 (Q (exX q.1))→Code.roundsIn (Fr m rd) 0 P c Q n a w
theorem loop_ok{n:Nat}(ihC:SC P E)(ihL:SLp P E n){c:Code}(hs:SR m st a)(r:Rel m st.h S w0 w)(hrd:∀l,rd=some l→l<st.h.nx)(e:cLoop E rd st c=some q)(hQ:Goes m S w0 st.h.nx q.2 (Q (exX q.1))):
    Code.roundsIn (Fr m rd) 0 P c Q (n+1) a w:=by
  obtain⟨⟨x,s⟩,h1,h2⟩:=oB_some e
  rw[roundsIn_succ]
  refine ihC rd c st _ h1 hrd m a S w0 w hs r _ ?_
  cases x with
  | norm=>
    intro m' a' w' x1 n1 s1 r1
    have:=ihL rd c s q h2 (λl h=>Nat.lt_of_lt_of_le (hrd l h) n1) m' a' S w0 w' s1 r1 Q (hQ.from x1 n1)
    rw[←Fr_ext' x1 hrd]at this
    exact this
  |exit id=>cases(show some (Ex.exit id,s)=some q from h2);exact hQ
  |ret=>cases(show some (Ex.ret,s)=some q from h2);exact hQ
theorem seq_ok (ihC:SC P E){c c':Code}(hs:SR m st a)(r:Rel m st.h S w0 w)(hrd:∀l,rd=some l→l<st.h.nx)(e:cSeq E rd st c c'=some q)(hQ:Goes m S w0 st.h.nx q.2 (Q (exX q.1))):(Code.seq c c').wpIn (Fr m rd) 0 P Q a w:=by
  obtain⟨⟨x,s⟩,h1,h2⟩:=oB_some e
  refine wpIn_seq (ihC rd c st _ h1 hrd m a S w0 w hs r _ ?_)
  cases x with
  | norm=>
    intro m' a' w' x1 n1 s1 r1
    have:=ihC rd c' s q h2 (λl h=>Nat.lt_of_lt_of_le (hrd l h) n1) m' a' S w0 w' s1 r1 Q (hQ.from x1 n1)
    rw[←Fr_ext' x1 hrd]at this
    exact this
  |exit id=>cases(show some (Ex.exit id,s)=some q from h2);exact hQ
  |ret=>cases(show some (Ex.ret,s)=some q from h2);exact hQ
theorem cond_ok (ihC:SC P E){o:Operand}{c c':Code}(hs:SR m st a)(r:Rel m st.h S w0 w)(hrd:∀l,rd=some l→l<st.h.nx)(e:cCond E rd st o c c'=some q)(hQ:Goes m S w0 st.h.nx q.2 (Q (exX q.1))):(Code.cond o c c').wpIn (Fr m rd) 0 P Q a w:=by
 obtain⟨v,h1,h2⟩:=wth_some e
 obtain⟨b,rfl,h3⟩:=vBool_some h2
 have i1:=(hs.opd h1).1
 rw[inst_bool]at i1
 refine wpIn_cond i1 ?_
 cases b with
 |true=>exact ihC rd c st q h3 hrd m a S w0 w hs r Q hQ
 |false=>exact ihC rd c' st q h3 hrd m a S w0 w hs r Q hQ
theorem block_ok (ihC:SC P E){id:Nat}{c:Code}(hs:SR m st a)(r:Rel m st.h S w0 w)(hrd:∀l,rd=some l→l<st.h.nx)(e:cBlock E rd st id c=some q)(hQ:Goes m S w0 st.h.nx q.2 (Q (exX q.1))):(Code.block id c).wpIn (Fr m rd) 0 P Q a w:=by
  obtain⟨⟨x,s⟩,h1,h2⟩:=oB_some e
  refine wpIn_block (ihC rd c st _ h1 hrd m a S w0 w hs r _ ?_)
  cases x with
  |norm=>cases(show some (Ex.norm,s)=some q from h2);exact hQ
  | exit i=>
    rcases bb_some (show(Bool.rec (some (Ex.exit i,s)) (some (Ex.norm,s)) (Nat.beq i id):Out)=some q from h2)with⟨hb,h3⟩|⟨hb,h3⟩
    · cases h3
      have:=Nat.eq_of_beq_eq_true hb
      subst this
      intro m' a' w' x1 n1 s1 r1
      show(if i=i then Q .normal a' w' else Q (.exit i) a' w')
      rw[if_pos rfl];exact hQ m' a' w' x1 n1 s1 r1
    · cases h3
      have:i≠id:=λq=>by rw[q,Nat.beq_refl]at hb;cases hb
      intro m' a' w' x1 n1 s1 r1
      show(if i=id then Q .normal a' w' else Q (.exit i) a' w')
      rw[if_neg this];exact hQ m' a' w' x1 n1 s1 r1
  |ret=>cases(show some (Ex.ret,s)=some q from h2);exact hQ
theorem alloc_rel{h h':Hp}(r:Rel m h S w0 w){b:Blk}{o:Obj}{mb:MB}(hnx:h'.nx=h.nx+1)(hg:∀j,h'.t.get j=if j=h.nx then some b else h.t.get j)(hmb:mb.blk=w.heap.size)(hb:BR (upd m h.nx mb) (h.nx+1) mb (w.alloc o) b):
 Rel (upd m h.nx mb) h' S w0 (w.alloc o):=r.add (alloc_kept _) hnx hg hb (by rw[hmb];exact⟨Nat.le_refl _,by simp⟩)
theorem run_enterLoop_in{l:Nat}{rr:Loop}{fn:FuncId}{tmps:Array Value}{ps:Array Tmp}{asg body:Code}(h:w.heap[l]? =some (.loop rr)):
 (Instr.enterLoop fn tmps ps asg body (some l)).run P w=.ok (w.heap.size,[]) (w.alloc (.loop {state:=.ready,pending:=none,fn,tmps,params:=ps,assign:=asg,body,defers:=rr.defers})):=by
 unfold Instr.enterLoop
 simp[Sem.run_bind,run_getLoop h,Result.andThen,run_newObj_alloc]
theorem tmG_of (hs:SR m st a):SlotsR m st.h.nx (tmG st.N st.G st.s) a.tmps:=(cut_ok hs).slots
theorem rngGo_ok (ihF:SF P E){m1:Mp}{h1:Hp}{w1:World}(x1:Ext st.h.nx m m1)(n1:st.h.nx≤h1.nx)(hs:SR m st a)(r1:Rel m1 h1 S w0 w1){D:Nat}(hD:D<h1.nx){ds:List Df}{mark:List Deferred}(hds:DsR m1 h1.nx ds (mark++a.defers))
    {f:Operand}{fv:Value}(hf:Ev.opd st f=some fv){ps:Array Tmp}{asg body:Code}(hrd:∀l,rd=some l→l<st.h.nx)(e:rngGo E st fv ps asg body D ds h1=some q)(hQ:Goes m S w0 st.h.nx q.2 (Q (exX q.1)))(fn:FuncId):
    ∃ (dd:Deferred) (g:FuncId) (args:Array Value),let w2:=w1.alloc (.loop {state:=.ready,pending:=none,fn,tmps:=a.tmps,params:=ps,assign:=asg,body,defers:=(m1 D).blk})
      (resolve a.eval (rangeCall f w1.heap.size) 0).run P w2=.ok dd w2∧(invoke dd.target dd.args).run P w2=.ok (.enter g args) w2∧
      CallsIn (Fr m rd) 0 P g args w2 (rangePost (Fr m rd) 0 P w1.heap.size Q {a with defers:=mark++a.defers}):=by
  obtain⟨i1,i2⟩:=hs.ops.opd hf
  unfold rngGo at e
  split at e
  · rename_i g cap
    obtain⟨h2,e1,hn2,hg2⟩:=push_some e
    obtain⟨⟨v,h3⟩,e2,e3⟩:=oB_some e1
    obtain⟨hE,hC⟩:=ihF _ _ _ v h3 e2
    have hcap:∀v∈cap.toList,bel st.h.nx v:=by
      obtain⟨c⟩:=cap
      exact(bel_func.1 i2).2.2
    have xu:=upd_ext m1 h1.nx ⟨w1.heap.size,0,0,1,Nat.zero_le _⟩
    have r2:Rel (upd m1 h1.nx ⟨w1.heap.size,0,0,1,Nat.zero_le _⟩) h2 S w0 (w1.alloc (.loop {state:=.ready,pending:=none,fn,tmps:=a.tmps,params:=ps,assign:=asg,body,defers:=(m1 D).blk})):=by
      refine alloc_rel r1 hn2 hg2 rfl ?_
      refine⟨Nat.lt_succ_of_lt hD,fn,a.tmps,hs.size,(tmG_of hs).ext (x1.trans xu n1) (Nat.le_trans n1 (Nat.le_succ _)),?_⟩
      rw[xu D hD]
      exact World.alloc_heap_new w1 _
    have hL:h1.nx<h2.nx:=by rw[hn2];exact Nat.lt_succ_self _
    have x2:Ext st.h.nx m (upd m1 h1.nx ⟨w1.heap.size,0,0,1,Nat.zero_le _⟩):=x1.trans xu n1
    have n2:st.h.nx≤h2.nx:=Nat.le_trans n1 (Nat.le_of_lt hL)
    have hargs:((Value.func (.yield h1.nx) #[] #[]::cap.toList).map (inst (upd m1 h1.nx ⟨w1.heap.size,0,0,1,Nat.zero_le _⟩))).toArray= #[Value.func (.yield w1.heap.size) #[] #[]]++(cap.toList.map (inst m)).toArray:=by
      rw[List.map_cons,show inst (upd m1 h1.nx ⟨w1.heap.size,0,0,1,Nat.zero_le _⟩) (.func (.yield h1.nx) #[] #[])=.func (.yield w1.heap.size) #[] #[] by
        rw[show(Value.func (.yield h1.nx) #[] #[])=.func (.yield h1.nx) ⟨[]⟩ ⟨[]⟩from rfl,inst_func];simp[iFn,upd_same],map_ext x2 hcap]
      simp
    have hcall:=hC _ S w0 _ r2 (λu hu=>by
      rcases List.mem_cons.1 hu with rfl|hu
      · exact bel_func.2 ⟨(λl q=>by cases q;exact hL),(λv hv=>by cases hv),(λv hv=>by cases hv)⟩
      · exact bel_mono n2 u (hcap u hu))
    rw[hargs]at hcall
    rw[inst_fn0]at i1
    refine⟨⟨.fn (.func g) (cap.toList.map (inst m)).toArray,#[.func (.yield w1.heap.size) #[] #[]]⟩,g,#[.func (.yield w1.heap.size) #[] #[]]++(cap.toList.map (inst m)).toArray,?_,?_,?_⟩
    · have e3:(#[Operand.const (.func (.yield w1.heap.size) #[] #[])]:Array Operand).map a.eval= #[.func (.yield w1.heap.size) #[] #[]]:=by simp[Act.eval]
      simp only[resolve,rangeCall,e3,i1,iFn,Deferred.ofValue,Sem.run_pure]
      simp
    · simp only[invoke];exact hE _ _
    · refine CallsIn.mono (show CallsIn (Fr m rd) 0 P g _ _ _ from hcall) ?_
      rintro e w3 ⟨m3,x3,n3,r3,b3,rfl⟩
      have xx:Ext st.h.nx m m3:=x2.trans x3 n2
      have nn:st.h.nx≤h3.nx:=Nat.le_trans n2 n3
      have hm3:(m3 h1.nx).blk=w1.heap.size:=by rw[x3 h1.nx hL,upd_same]
      have hds3:DsR m3 h3.nx ds (mark++a.defers):=hds.ext (xu.trans x3 (Nat.le_of_lt hL)) (Nat.le_trans (Nat.le_of_lt hL) n3)
      -- the loop's end
      have fin:∀(s0:LoopState) (pe:Option Code) (x:Ex),s0≠.busy→(∀tm N G ps asg body D,h3.t.get h1.nx=some (.lp s0 pe tm N G ps asg body D)→setLp h3 h1.nx .exhausted pe (λh=>some (x,⟨st.N,st.G,.e,st.s,ds,h⟩))=some q→
          exX q.1=exX x∧∃w4,(Instr.endLoop w1.heap.size).run P w3=.ok pe w4∧Q (exX x) {a with defers:=mark++a.defers} w4):=λs0 pe x hs0 tm N G ps asg body D hg es=>by
        obtain⟨s5,pe5,tm5,N5,G5,ps5,asg5,body5,D5,h5,hg5,hk5,hn5,hget5⟩:=setLp_some es
        rw[hg]at hg5
        cases hg5
        obtain⟨fn5,tmps5,u1,u2,u3,u4,u5⟩:=relp r3 hg .exhausted pe hn5 hget5
        rw[hm3]at u4 u5
        cases hk5
        refine⟨rfl,_,run_endLoop u4 hs0,?_⟩
        refine hQ m3 _ _ xx (by show st.h.nx≤h5.nx;rw[hn5];exact nn) ⟨hs.size,?_,?_⟩ u5
        · exact(show SlotsR m3 h5.nx (tmG st.N st.G st.s) a.tmps by rw[hn5];exact(tmG_of hs).ext xx nn)
        · show DsR m3 h5.nx ds _
          rw[hn5];exact hds3
      have e3:endLp st ds h1.nx h3=some q:=e3
      unfold endLp at e3
      split at e3
      · rename_i hg
        obtain⟨_,w4,j1,j2⟩:=fin .ready none .norm (by decide) _ _ _ _ _ _ _ hg e3
        exact⟨none,w4,j1,j2⟩
      · rename_i hg
        obtain⟨_,w4,j1,j2⟩:=fin .done (some .ret) .ret (by decide) _ _ _ _ _ _ _ hg e3
        exact⟨some .ret,w4,j1,wpIn_ret j2⟩
      · rename_i id _ _ _ _ _ _ _ hg
        obtain⟨_,w4,j1,j2⟩:=fin .done (some (.exit id)) (.exit id) (by decide) _ _ _ _ _ _ _ hg e3
        exact⟨some (.exit id),w4,j1,wpIn_exit j2⟩
      · cases e3
  · cases e
theorem range_ok (ihF:SF P E){f:Operand}{ps:Array Tmp}{asg body:Code}(hs:SR m st a)(r:Rel m st.h S w0 w)(hrd:∀l,rd=some l→l<st.h.nx)(e:cRange E rd st f ps asg body=some q)(hQ:Goes m S w0 st.h.nx q.2 (Q (exX q.1))):
    (Code.rangeFunc f ps asg body).wpIn (Fr m rd) 0 P Q a w:=by
  obtain⟨fv,h1,h2⟩:=wth_some e
  refine wpIn_rangeFunc (λfn _=> ?_)
  cases rd with
  | none=>
    obtain⟨hh,h3,h4,h5⟩:=push_some (show st.h.push (.df false) (λD h=>rngGo E st fv ps asg body D (.mark D::st.d) h)=some q from h2)
    have xu:=upd_ext m st.h.nx ⟨w.heap.size,0,0,1,Nat.zero_le _⟩
    have r1:Rel (upd m st.h.nx ⟨w.heap.size,0,0,1,Nat.zero_le _⟩) hh S w0 (w.alloc (.deferred (some []))):=alloc_rel r h4 h5 rfl (World.alloc_heap_new w _)
    have n1:st.h.nx≤hh.nx:=by rw[h4];exact Nat.le_succ _
    have hD:st.h.nx<hh.nx:=by rw[h4];exact Nat.lt_succ_self _
    have hds:DsR (upd m st.h.nx ⟨w.heap.size,0,0,1,Nat.zero_le _⟩) hh.nx (.mark st.h.nx::st.d) ([{target:=.collected w.heap.size,args:=#[]}]++a.defers):=
      ⟨⟨hD,by rw[upd_same]⟩,hs.ds.ext xu n1⟩
    obtain⟨dd,g,args,k1,k2,k3⟩:=rngGo_ok (rd:=none) (Q:=Q) ihF xu n1 hs r1 hD hds h1 hrd h3 hQ fn
    have hsz:(w.alloc (.deferred (some []))).heap.size=w.heap.size+1:=by simp
    rw[upd_same]at k1 k2 k3
    refine⟨w.heap.size+1,_,_,dd,_,g,args,_,run_enterLoop_outer fn a.tmps ps asg body,?_,λ_ _=>trivial,k2,λq=>by simp[Fr,Fw]at q,?_⟩
    · rw[←hsz];exact k1
    · rw[←hsz];exact k3
  | some l=>
    have h2:(match st.h.get l with
      |some (.lp _ _ _ _ _ _ _ _ D)=>rngGo E st fv ps asg body D st.d st.h
      |_=>none)=some q:=h2
    split at h2
    · rename_i s0 pe0 tm0 N0 G0 ps0 asg0 body0 D hg
      obtain⟨hl,hD,fn0,tmps0,_,_,t3⟩:=r.br l _ hg
      obtain⟨dd,g,args,k1,k2,k3⟩:=rngGo_ok (rd:=some l) (Q:=Q) (mark:=[]) ihF (Ext.refl _ m) (Nat.le_refl _) hs r hD (by simpa using hs.ds) h1 hrd h2 hQ fn
      exact⟨w.heap.size,[],_,dd,_,g,args,_,run_enterLoop_in t3,k1,λ_ _=>trivial,k2,λq=>by simp[Fr,Fw]at q,k3⟩
    · cases h2
theorem stepC_ok{n:Nat}(hm:P.follows .mixedOrders=true)(ihF:SF P E)(ihC:SC P E)(ihL:SLp P E n){c:Code}(hs:SR m st a)(r:Rel m st.h S w0 w)(hrd:∀l,rd=some l→l<st.h.nx)(e:stepC P E rd c st=some q)(hQ:Goes m S w0 st.h.nx q.2 (Q (exX q.1))):
    c.wpIn (Fr m rd) 0 P Q a w:=by
  cases c with
  |skip=>cases(show some (Ex.norm,st)=some q from e);exact wpIn_skip (hQ m a w (Ext.refl _ _) (Nat.le_refl _) hs r)
  | region id ops dr=>
    cases dr with
    |false=>exact region_ok ihF ihC hs r hrd e hQ
    |true=>exact drawn_ok hm ihF ihC hs r hrd e hQ
  |seq c c'=>exact seq_ok ihC hs r hrd e hQ
  |cond o c c'=>exact cond_ok ihC hs r hrd e hQ
  |block id c=>exact block_ok ihC hs r hrd e hQ
  |loop c=>exact wpIn_loop_rounds _ (loop_ok ihC ihL hs r hrd e hQ)
  |rangeFunc f ps asg body=>exact range_ok ihF hs r hrd e hQ
  |exit id=>cases(show some (Ex.exit id,st)=some q from e);exact wpIn_exit (hQ m a w (Ext.refl _ _) (Nat.le_refl _) hs r)
  |ret=>cases(show some (Ex.ret,st)=some q from e);exact wpIn_ret (hQ m a w (Ext.refl _ _) (Nat.le_refl _) hs r)
  |_=>cases e
end Go.Ev
namespace Go.Ev
open Go Go.Ow Go.RowKit
variable{P:Program}{m:Mp}{st:St}{ρ:Operand→Value}{S:Nat→Prop}{w0 w:World}{k:KV}{q:Ex×St}
variable{a:Act}{Q:Exit→Act→World→Prop}{E:EvF}{G:FuncId→Nat}
theorem putAll_some{β:Type}{x:β}:∀{vs:List Value} {i:Nat} {st:St} {k:St→Option β},putAll vs i st k=some x→
    ∃st',k st'=some x∧(vs= []∨i+vs.length≤st.N)∧st'.N=st.N∧st'.h=st.h∧st'.d=st.d∧∀t v,tmpG st' t=some v→(i≤t∧vs[t-i]? =some v)∨tmpG st t=some v
  |[],i,st,k,e=>⟨st,e,.inl rfl,rfl,rfl,rfl,λt v h=>.inr h⟩
  | u ::vs,i,st,k,e=>by
    have e':putT st i u (ohp st) (λs=>fN (Nat.succ i) λi=>putAll vs i s k)=some x:=e
    obtain⟨st1,h1,h2,h3,h4,h5,h6⟩:=putT_some e'
    rw[fN_eq]at h1
    obtain⟨st',j1,j2,j3,j4,j5,j6⟩:=putAll_some h1
    refine⟨st',j1,.inr ?_,j3.trans h3,j4.trans h4,j5.trans h5,λt v ht=> ?_⟩
    · rcases j2 with rfl|j2
      · simp;omega
      · simp only[List.length_cons];rw[h3]at j2;omega
    · rcases j6 t v ht with⟨c1,c2⟩|c
      · refine .inl ⟨by omega,?_⟩
        rw[show t-i=(t-Nat.succ i)+1 by omega];simpa using c2
      · rw[h6]at c
        by_cases q':t=i
        · subst q';rw[if_pos rfl]at c;cases c;exact .inl ⟨Nat.le_refl _,by simp⟩
        · rw[if_neg q']at c;exact .inr c
theorem enter_ok{β:Type}{x:β}{vs:List Value}{N G' n:Nat}{h:Hp}{k:St→Option β}(e:putAll vs 0 ⟨N,G',.e,full n,[],h⟩ k=some x)(hv:∀v∈vs,bel h.nx v):
 ∃st',k st'=some x∧st'.h=h∧st'.N=N∧SR m st' {tmps:=(vs.map (inst m)).toArray++Array.replicate (N-(vs.map (inst m)).toArray.size) undef,defers:=[]}:=by
 obtain⟨st',h1,h2,h3,h4,h5,h6⟩:=putAll_some e
 have hlen:vs.length≤N:=by
  rcases h2 with rfl|h2
  · exact Nat.zero_le _
  · simpa using h2
 have h3:st'.N=N:=h3
 have h4:st'.h=h:=h4
 refine⟨st',h1,h4,h3,?_,λt v ht=> ?_,?_⟩
 · rw[h3];simp;omega
 · rcases h6 t v ht with⟨_,c⟩|c
   · rw[Nat.sub_zero]at c
     have hmem:=List.mem_of_getElem? c
     have htl:t<vs.length:=(List.getElem?_eq_some_iff.1 c).1
     refine⟨?_,by rw[h4];exact hv v hmem⟩
     have h7:t<((vs.map (inst m)).toArray++Array.replicate (N-(vs.map (inst m)).toArray.size) undef).size:=by simp;omega
     rw[Array.getElem?_eq_getElem h7,Option.getD_some,Array.getElem_append_left (by simpa using htl)]
     have:=(List.getElem?_eq_some_iff.1 c).2
     simp[this]
   · have c':(Bool.rec (SL.e.get t) ((full n:Tr Value).get t) (bitB G' t):Option Value)=some v:=c
     rw[full_get]at c'
     cases hb:bitB G' t<;>rw[hb]at c'<;>cases c'
 · rw[h5];trivial
theorem load_at{h:Hp}(r:Rel m h S w0 w){T:TypeId}{b p:Nat}{bl:Blk}{n:Nat}{l:List Value}{gg:Bool}{sz:Nat}{β:Type}{k:Value→Option β}{x:β}(h4:h.t.get b=some bl)(h5:bl.row=some (n,l))(h7:shT P T=some (gg,sz))(h8:valOf gg sz (dropL l p) k=some x):
    ∃u,k u=some x∧bel h.nx u∧(loadVar T ⟨(m b).blk,(m b).base+p,none⟩).run P w=.ok (inst m u) w:=by
  obtain⟨u,h9,h10⟩:=valOf_some h8
  obtain⟨i1,i2,i3⟩:=r.cell h4 h5
  rw[dropL_eq]at h10
  have conv:∀v,(Instr.loadAt T (.pointer (some ⟨(m b).blk,(m b).base+p,none⟩))).run P w=.ok v w→(loadVar T ⟨(m b).blk,(m b).base+p,none⟩).run P w=.ok v w:=λv hv=>hv
  rcases h10 with⟨rfl,l',hl⟩|⟨rfl,rfl,hl⟩
  · have hg:l[p]? =some u:=by
      have:=congrArg List.head? hl
      rwa[List.head?_drop]at this
    exact⟨u,h9,i2 u (List.mem_of_getElem? hg),conv _ (run_load1 (shT_shape h7) (i3 p u hg))⟩
  · refine⟨_,h9,bel_agg.2 λx hx=>i2 x (List.mem_of_mem_drop (List.mem_of_mem_take hx)),conv _ ?_⟩
    rw[inst_agg]
    refine run_loadN (by rw[shT_shape h7,List.length_map,List.length_take,Nat.min_eq_left hl]) (λj x ex=> ?_)
    rw[List.getElem?_map]at ex
    cases hy:((l.drop p).take sz)[j]? with
    |none=>rw[hy]at ex;cases ex
    | some y=>
      rw[hy]at ex
      cases ex
      have:l[p+j]? =some y:=by
        rw[List.getElem?_take]at hy
        split at hy
        · rwa[List.getElem?_drop]at hy
        · cases hy
      rw[Nat.add_assoc];exact i3 (p+j) y this
def resS (tmps:Array Value):ResultVar→Sem Value
 | .tmp t=>pure (tmps.getD t undef)
 | .cell a t=>do loadVar t (←asAddr (tmps.getD a undef))
theorem resV_some{β:Type}{x:β}{m1:Mp}{h:Hp}(hs:SR m st a)(he:Ext st.h.nx m m1)(hn:st.h.nx≤h.nx)(r:Rel m1 h S w0 w){rv:ResultVar}{k:Value→Option β}(e:resV P st h rv k=some x):
    ∃v,k v=some x∧bel h.nx v∧(resS a.tmps rv).run P w=.ok (inst m1 v) w:=by
  cases rv with
  | tmp t=>
    obtain⟨v,h1,h2⟩:=oB_some (show oB (tmpG st t) k=some x from e)
    obtain⟨h3,h4⟩:=hs.slots t v h1
    refine⟨v,h2,bel_mono hn v h4,?_⟩
    rw[inst_ext he v h4,←h3]
    simp[resS,Array.getD_eq_getD_getElem?]
  | cell t T=>
    obtain⟨v,h1,h2⟩:=oB_some (show oB (tmpG st t) (λv=>vPtr v λb q=>h.row b λ_ l=>oB (shT P T) λs=>valOf s.1 s.2 (dropL l q) k)=some x from e)
    obtain⟨b,p,rfl,h3⟩:=vPtr_some h2
    obtain⟨bl,n,l,h4,h5,h6⟩:=row_some h3
    obtain⟨⟨gg,sz⟩,h7,h8⟩:=oB_some h6
    obtain⟨j1,j2⟩:=hs.slots t _ h1
    obtain⟨u,h9,h10,h11⟩:=load_at r h4 h5 h7 h8
    refine⟨u,h9,h10,?_⟩
    have j3:a.tmps.getD t undef=.pointer (some ⟨(m1 b).blk,(m1 b).base+p,none⟩):=by
      rw[Array.getD_eq_getD_getElem?,j1,←inst_ext he _ j2,inst_ptr]
    simp only[resS,j3,asAddr]
    simpa using h11
theorem ress_some{β:Type}{x:β}{m1:Mp}{h:Hp}(hs:SR m st a)(he:Ext st.h.nx m m1)(hn:st.h.nx≤h.nx)(r:Rel m1 h S w0 w):∀{l:List ResultVar} {k:List Value→Option β},ress P st h l k=some x→
    ∃vs,k vs=some x∧(∀v∈vs,bel h.nx v)∧(l.mapM (resS a.tmps)).run P w=.ok (vs.map (inst m1)) w
  |[],k,e=>⟨[],e,(λv hv=>by cases hv),by simp⟩
  | rv::l,k,e=>by
    obtain⟨v,h1,h2,h3⟩:=resV_some hs he hn r (show resV P st h rv (λv=>ress P st h l λvs=>k (v::vs))=some x from e)
    obtain⟨vs,h4,h5,h6⟩:=ress_some hs he hn r h1
    refine⟨v::vs,h4,λu hu=> ?_,?_⟩
    · rcases List.mem_cons.1 hu with rfl|hu
      · exact h2
      · exact h5 u hu
    · simp only[List.mapM_cons,Sem.run_bind,h3,Result.andThen,h6,Sem.run_pure,List.map_cons]
theorem pack_some{β:Type}{x:β}{vs:List Value}{k:Value→Option β}(e:pack vs k=some x):(∃v,vs= [v]∧k v=some x)∨(vs.length≠1∧k (.tuple ⟨vs⟩)=some x):=by
 match vs,e with
 |[],e=>exact .inr ⟨by simp,e⟩
 |[v],e=>exact .inl ⟨v,rfl,e⟩
 |v::u::vs,e=>exact .inr ⟨by simp,e⟩
theorem results_run{fn:Func}{tmps:Array Value}{us:List Value}(h:(fn.results.toList.mapM (resS tmps)).run P w=.ok us w):(results fn tmps).run P w=.ok (if h:us.toArray.size=1 then us.toArray[0]else .tuple us.toArray) w:=by
 have h1:fn.results.mapM (resS tmps)=List.toArray<$>fn.results.toList.mapM (resS tmps):=Array.mapM_eq_mapM_toList
 have h2:(fn.results.mapM (resS tmps)).run P w=.ok us.toArray w:=by
  rw[h1,map_eq_pure_bind,Sem.run_bind,h];rfl
 have h3:results fn tmps=(do let vs←fn.results.mapM (resS tmps);pure (if h:vs.size=1 then vs[0]else .tuple vs)):=by
  unfold results
  have:(fun(x:ResultVar)=>(match x with
   | .tmp t=>pure (tmps.getD t undef)
   | .cell a t=>do loadVar t (←asAddr (tmps.getD a undef)):Sem Value))=resS tmps:=by
   funext x;cases x<;>rfl
  rw[←this];rfl
 rw[h3,Sem.run_bind,h2];rfl
theorem results_pack{fn:Func}{tmps:Array Value}{vs:List Value}{h:Hp}(hb:∀v∈vs,bel h.nx v)(e:(fn.results.toList.mapM (resS tmps)).run P w=.ok (vs.map (inst m)) w){k:Value→Option (Value×Hp)}{x:Value×Hp}(ek:pack vs k=some x):
 ∃v,k v=some x∧bel h.nx v∧(results fn tmps).run P w=.ok (inst m v) w:=by
 have hr:=results_run e
 rcases pack_some ek with⟨v,rfl,h1⟩|⟨h0,h1⟩
 · exact⟨v,h1,hb v (by simp),by rw[hr];rfl⟩
 · refine⟨_,h1,bel_tuple.2 hb,?_⟩
   rw[hr,inst_tuple]
   have:¬(vs.map (inst m)).toArray.size=1:=by simpa using h0
   rw[dif_neg this]
def EnP (P:Program):Prop:=∀(f:FuncId) (fn:Func) (c:Code),P.funcs[f]? =some fn→fn.body=some c→Enters P f
theorem recB_some{c c':Code}{d:Nat}(e:recB c=some (d,c')):∃id ty pos aft,c=.seq (.region id #[⟨some d,.call ⟨.builtin .recover,#[],#[]⟩,ty,pos,aft,none⟩] false) c':=by
 unfold recB at e
 split at e
 · cases e;exact⟨_,_,_,_,rfl⟩
 · cases e
theorem dfE_some{β:Type}{x:β}{k:Hp→Option β}{fn:Func}{r:Ex×St}(e:dfE k fn r=some x):(r.1=.norm∨r.1=.ret)∧r.2.d= []∧fn.results= #[]∧k r.2.h=some x:=by
 unfold dfE at e
 split at e
 · rename_i h1 h2 h3;exact⟨.inl h1,h2,h3,e⟩
 · rename_i h1 h2 h3;exact⟨.inr h1,h2,h3,e⟩
 · cases e
theorem results0{fn:Func}(h:fn.results= #[])(tmps:Array Value)(w:World):(results fn tmps).run P w=.ok (.tuple #[]) w:=by simp[results,h,go_sem]
theorem ds_nil{m:Mp}{st:St}{a:Act}(hs:SR m st a)(h:st.d= []):a.defers= []:=by
 have:=hs.ds
 rw[h]at this
 cases hd:a.defers with
 |nil=>rfl
 |cons d ds=>rw[hd]at this;exact this.elim
theorem dfC_ok (ihC:SC P E)(hE:EnP P){β:Type}{x:β}{h:Hp}(r:Rel m h S w0 w){f:FuncId}{vs:List Value}(hv:∀v∈vs,bel h.nx v){k:Hp→Option β}(e:dfC P G E f vs h k=some x):
    Enters P f∧CallsDIn Fence.wide 0 P f (vs.map (inst m)).toArray .returning w (λe u' w'=>(∃v,e=.returned v)∧settle u'=.returning∧∃m' h',k h'=some x∧Ext h.nx m m'∧h.nx≤h'.nx∧Rel m' h' S w0 w'):=by
  obtain⟨fn,h1,h2⟩:=oB_some e
  obtain⟨c,h3,h4⟩:=oB_some h2
  obtain⟨s,h5,h6,h7,h8⟩:=enter_ok (m:=m) h4 hv
  refine⟨hE f fn c h1 h3,?_⟩
  -- behind the code
  have post:∀(r1:Ex×St),dfE k fn r1=some x→Goes m S w0 h.nx r1.2 (bodyPost P fn (λe w'=>(∃v,e=.returned v)∧∃m' h',k h'=some x∧Ext h.nx m m'∧h.nx≤h'.nx∧Rel m' h' S w0 w') (exX r1.1)):=λr1 e1 m' a' w' x1 n1 s1 r1'=>by
    obtain⟨j1,j2,j3,j4⟩:=dfE_some e1
    have key:a'.defers= []∧∃v,(results fn a'.tmps).run P w'=.ok v w'∧((∃v',Ending.returned v=.returned v')∧∃m' h',k h'=some x∧Ext h.nx m m'∧h.nx≤h'.nx∧Rel m' h' S w0 w'):=
      ⟨ds_nil s1 j2,_,results0 j3 _ _,⟨_,rfl⟩,m',r1.2.h,j4,x1,n1,r1'⟩
    rcases j1 with j1|j1<;>rw[j1]<;>exact key
  have r':Rel m s.h S w0 w:=by rw[h6];exact r
  cases hr:recB c with
  | none=>
    rw[hr]at h5
    obtain⟨r1,e1,e2⟩:=oB_some h5
    have:=ihC none c s r1 e1 (λl q=>by cases q) m _ S w0 w h8 r' (bodyPost P fn (λe w'=>(∃v,e=.returned v)∧∃m' h',k h'=some x∧Ext h.nx m m'∧h.nx≤h'.nx∧Rel m' h' S w0 w')) (by rw[h6];exact post r1 e2)
    refine CallsDIn.mono (callsDIn_of_wp (F:=Fence.wide) (u:=.returning) h1 h3 trivial this) ?_
    rintro e u' w' ⟨rfl,j1,j2⟩
    exact⟨j1,rfl,j2⟩
  | some dc=>
    obtain⟨d,c'⟩:=dc
    rw[hr]at h5
    obtain⟨s2,e1,e2,e3,e4,e5,e6⟩:=putT_some (show putT s d .nilIface (ohp s) (λs=>oB (E.c none c' s) (dfE k fn))=some x from h5)
    obtain⟨r1,e7,e8⟩:=oB_some e1
    have hs2:SR m s2 (Act.put {tmps:=(vs.map (inst m)).toArray++Array.replicate (fn.ntmps-(vs.map (inst m)).toArray.size) undef,defers:=[]} (some d) (inst m .nilIface)):=
      h8.put (d:=some d) (Ext.refl _ m) (by rw[e4];exact Nat.le_refl _) (by simp[bel]) e3 e5 (λt ht=>by cases ht;exact e2) (λt=>by
        rw[e6];by_cases c:t=d
        · subst c;simp
        · have:¬d=t:=λq=>c q.symm
          simp[c,this])
    have hs2h:s2.h=h:=e4.trans h6
    have hw:=ihC none c' s2 r1 e7 (λl q=>by cases q) m _ S w0 w hs2 (by rw[hs2h];exact r) (bodyPost P fn (λe w'=>(∃v,e=.returned v)∧∃m' h',k h'=some x∧Ext h.nx m m'∧h.nx≤h'.nx∧Rel m' h' S w0 w')) (by rw[hs2h];exact post r1 e8)
    rw[show inst m .nilIface=.nilIface by simp[inst]]at hw
    obtain⟨id,ty,pos,aft,rfl⟩:=recB_some hr
    refine callsDIn_of_wpSIn h1 h3 trivial (λc0 cs hc0=> ?_)
    refine wpSIn_seq (wpSIn_region ?_)
    generalize ({tmps:=(vs.map (inst m)).toArray++Array.replicate (fn.ntmps-(vs.map (inst m)).toArray.size) undef,defers:=[]}:Act)=a at hw
    have hrun:(execOp a.eval ⟨some d,.call ⟨.builtin .recover,#[],#[]⟩,ty,pos,aft,none⟩).run P w=.ok .recover w:=by
      generalize a.eval=ρ
      simp[execOp,resolve,invoke,builtin,go_sem]
    show wpOpsSIn _ _ _ _ _ [0] _ _ _
    have hops:(#[⟨some d,.call ⟨.builtin .recover,#[],#[]⟩,ty,pos,aft,none⟩]:Array Oper)[0]? =some ⟨some d,.call ⟨.builtin .recover,#[],#[]⟩,ty,pos,aft,none⟩:=rfl
    simp only[wpOpsSIn,hops,wanted_none,if_true,hrun]
    refine⟨λ_ _=>trivial,?_⟩
    have:recoverD (c0::cs)=none:=by simp[recoverD,hc0]
    rw[this]
    show c'.wpSIn Fence.wide 0 P (bodyPostS P fn c0 cs (λe u' w'=>(∃v,e=.returned v)∧settle u'=.returning∧∃m' h',k h'=some x∧Ext h.nx m m'∧h.nx≤h'.nx∧Rel m' h' S w0 w')) (a.put (some d) .nilIface) (c0::cs) w
    refine wpSIn_of_wpIn rfl (wpIn_mono hw ?_)
    intro e a' w' hq
    have hcs:c0::cs={c0 with mode:=.returning}::cs:=by rw[show FrameMode.returning=c0.mode from hc0.symm]
    cases e with
    | normal=>
      obtain⟨h1,v,h2,h3,h4⟩:=hq
      exact⟨h1,.returning,hcs,v,h2,h3,rfl,h4⟩
    | ret=>
      obtain⟨h1,v,h2,h3,h4⟩:=hq
      exact⟨h1,.returning,hcs,v,h2,h3,rfl,h4⟩
    |panic ch=>obtain⟨h1,⟨v,h3⟩,-⟩:=hq;cases h3
    |outgrown=>obtain⟨⟨v,h3⟩,-⟩:=hq;cases h3
    |exit id=>exact hq.elim
    |goto id=>exact hq.elim
end Go.Ev
namespace Go.Ev
open Go Go.Ow Go.RowKit
variable{P:Program}{m:Mp}{st:St}{ρ:Operand→Value}{S:Nat→Prop}{w0 w:World}{k:KV}{q:Ex×St}
variable{a:Act}{Q:Exit→Act→World→Prop}{E:EvF}{G:FuncId→Nat}{N:Nat1}
theorem leave_ok (ihC:SC P E)(hE:EnP P){β:Type}{x:β}{fn:Func}{tmps:Array Value}{R:Ending→World→Prop}:∀{ds:List Df} {defs:List Deferred} {m:Mp} {h:Hp} {w:World} {k:Hp→Option β},leave P G E ds h k=some x→Rel m h S w0 w→DsR m h.nx ds defs→
    (∀m' h' w',k h'=some x→Ext h.nx m m'→h.nx≤h'.nx→Rel m' h' S w0 w'→∃v,(results fn tmps).run P w'=.ok v w'∧R (.returned v) w')→LeavesInM Fence.wide 0 P fn tmps R defs .returning w
  | [],defs,m,h,w,k,e,r,hd,hk=>by
    cases defs with
    |cons d ds=>exact hd.elim
    |nil=>exact hk m h w e (Ext.refl _ _) (Nat.le_refl _) r
  | .mark D::ds,defs,m,h,w,k,e,r,hd,hk=>by
    cases defs with
    |nil=>exact hd.elim
    | cons d defs=>
      obtain⟨⟨hD,rfl⟩,hds⟩:=hd
      have e:(match h.get D with
        |some (.df false)=>h.put D (some (.df true)) λh=>leave P G E ds h k
        |_=>none)=some x:=e
      split at e
      · rename_i hg
        obtain⟨h',h1,h2,h3⟩:=put_some e
        have hb:w.heap[(m D).blk]? =some (.deferred (some [])):=(r.br D _ hg).2
        refine⟨by simp,.inl ⟨_,_,rfl,run_takeDeferred hb,?_⟩⟩
        have r2:Rel m h' S w0 (w.putObj (m D).blk (.deferred none)):=r.relay hg rfl h2 h3 (λk hk=>World.putObj_heap_other hk) World.putObj_size rfl rfl rfl rfl (λb' eb=>by
          cases eb;exact World.putObj_heap_same (Array.getElem?_eq_some_iff.1 hb).1)
        refine leave_ok ihC hE h1 r2 (by rw[h2];exact hds) (λm' h'' w' k1 x1 n1 r1=>hk m' h'' w' k1 (by rw[←h2];exact x1) (by rw[←h2];exact n1) r1)
      · cases e
  | .call f vs::ds,defs,m,h,w,k,e,r,hd,hk=>by
    cases defs with
    |nil=>exact hd.elim
    | cons d defs=>
      obtain⟨⟨as,cap,rfl,hac,hv⟩,hds⟩:=hd
      obtain⟨hEn,hC⟩:=dfC_ok (S:=S) (w0:=w0) (m:=m) ihC hE r hv (show dfC P G E f vs h (λh=>leave P G E ds h k)=some x from e)
      refine⟨by simp,.inr ⟨λq=>by simp[Fence.wide]at q,.func f,cap.toArray,f,(vs.map (inst m)).toArray,rfl,?_,λ_ _=>trivial,?_⟩⟩
      · simp only[invoke]
        rw[hEn,←hac];simp
      · refine CallsDIn.mono hC ?_
        rintro e u' w' ⟨⟨v,rfl⟩,hs,m',h',k1,x1,n1,r1⟩
        show LeavesInM Fence.wide 0 P fn tmps R defs (settle u') w'
        rw[hs]
        exact leave_ok ihC hE k1 r1 (hds.ext x1 n1) (λm2 h2 w2 k2 x2 n2 r2=>hk m2 h2 w2 k2 (x1.trans x2 n1) (Nat.le_trans n1 n2) r2)
theorem bodyF_ok (ihC:SC P E)(hE:EnP P){f:FuncId}{fn:Func}{c:Code}(hf:P.funcs[f]? =some fn)(hc:fn.body=some c){vs:List Value}{h:Hp}{v:Value}{h':Hp}(e:bodyF P E G f fn c vs h=some (v,h'))(r:Rel m h S w0 w)(hv:∀u∈vs,bel h.nx u):
 CallsIn Fence.wide 0 P f (vs.map (inst m)).toArray w (λe w'=>∃m',Ext h.nx m m'∧h.nx≤h'.nx∧Rel m' h' S w0 w'∧bel h'.nx v∧e=.returned (inst m' v)):=by
 obtain⟨s,h1,h2,h3,h4⟩:=enter_ok (m:=m) e hv
 obtain⟨r1,e1,e2⟩:=oB_some h1
 refine callsIn_of_wp_marks hf hc trivial ?_
 refine ihC none c s r1 e1 (λl q=>by cases q) m _ S w0 w h4 (by rw[h2];exact r) _ ?_
 rw[h2]
 intro m' a' w' x1 n1 s1 rr
 have key:leave P G E r1.2.d r1.2.h (λh=>ress P r1.2 h fn.results.toList λvs=>pack vs λv=>some (v,h))=some (v,h')→
  LeavesInM Fence.wide 0 P fn a'.tmps (λe w'=>∃m',Ext h.nx m m'∧h.nx≤h'.nx∧Rel m' h' S w0 w'∧bel h'.nx v∧e=.returned (inst m' v)) a'.defers .returning w':=λel=>by
  refine leave_ok ihC hE el rr s1.ds (λm2 h2 w2 k2 x2 n2 r2=> ?_)
  obtain⟨us,j1,j2,j3⟩:=ress_some s1 x2 n2 r2 k2
  obtain⟨u,j4,j5,j6⟩:=results_pack j2 j3 j1
  cases j4
  exact⟨_,j6,m2,x1.trans x2 n1,Nat.le_trans n1 n2,r2,j5,rfl⟩
 obtain⟨x,s2⟩:=r1
 cases x with
 |norm=>exact key e2
 |exit id=>cases e2
 |ret=>exact key e2
def SFn (P:Program)(f:FuncId)(φ:List Value→Hp→Option (Value×Hp)):Prop:=∀(vs:List Value) (h:Hp) (v:Value) (h':Hp),φ vs h=some (v,h')→Enters P f∧∀(m:Mp) (S:Nat→Prop) (w0 w:World),Rel m h S w0 w→(∀u∈vs,bel h.nx u)→
 CallsIn Fence.wide 0 P f (vs.map (inst m)).toArray w (λe w'=>∃m',Ext h.nx m m'∧h.nx≤h'.nx∧Rel m' h' S w0 w'∧bel h'.nx v∧e=.returned (inst m' v))
theorem stepF_ok (ihC:SC P E)(hE:EnP P)(hN:∀f g,N f=some g→SFn P f g):∀f,SFn P f (stepF P N G E f):=λf vs h v h' e=>by
  unfold stepF at e
  cases hn:N f with
  | some g=>
    rw[hn]at e
    exact hN f g hn vs h v h' e
  | none=>
    rw[hn]at e
    obtain⟨fn,h1,h2⟩:=oB_some (show oB P.funcs[f]? (λfn=>oB fn.body λc=>bodyF P E G f fn c vs h)=some (v,h')from e)
    obtain⟨c,h3,h4⟩:=oB_some h2
    exact⟨hE f fn c h1 h3,λm S w0 w r hv=>bodyF_ok ihC hE h1 h3 h4 r hv⟩
theorem ev_ok (hm:P.follows .mixedOrders=true)(hE:EnP P)(hN:∀f g,N f=some g→SFn P f g):∀n,SC P (ev P N G n)∧SF P (ev P N G n)∧SLp P (ev P N G n) n
  |0=>⟨(λrd c st q e=>by cases e),(λf vs h v h' e=>by cases e),(λrd c st q e=>by cases e)⟩
  | n+1=>by
    obtain⟨h1,h2,h3⟩:=ev_ok hm hE hN n
    refine⟨λrd c st q e hrd m a S w0 w hs r Q hQ=> ?_,λf vs h v h' e=> ?_,λrd c st q e hrd m a S w0 w hs r Q hQ=> ?_⟩
    · exact stepC_ok hm h2 h1 h3 hs r hrd (show stepC P (ev P N G n) rd c st=some q from e) hQ
    · exact stepF_ok h1 hE hN f vs h v h' (show stepF P N G (ev P N G n) f vs h=some (v,h')from e)
    · exact loop_ok h1 h3 hs r hrd (show cLoop (ev P N G n) rd st c=some q from e) hQ
theorem rel0 (d:Nat)(w:World):Rel (λ_=>⟨0,0,0,1,Nat.zero_le _⟩) ⟨full d,0⟩ (λ_=>False) w w:=by
 have hn:∀i,Ht.get (full d) i=none:=Ht.full_get d
 refine⟨λi b e=> ?_,λi j b c e=> ?_,λi b e=> ?_,rfl,rfl,rfl,Nat.le_refl _,Nat.le_refl _,λ_ _ _=>rfl⟩<;>(rw[hn]at e;cases e)
theorem ev_run (hm:P.follows .mixedOrders=true)(hE:EnP P)(hN:∀f g,N f=some g→SFn P f g){n d:Nat}{f:FuncId}{v:Value}{h':Hp}(e:(ev P N G n).f f [] ⟨full d,0⟩=some (v,h'))(hf:flat1 v=true)(w:World):
 CallsIn Fence.wide 0 P f #[] w (λe w'=>e=.returned v∧Kept [] w w'):=by
 obtain⟨_,h1⟩:=(ev_ok hm hE hN n).2.1 f [] ⟨full d,0⟩ v h' e
 refine CallsIn.mono (h1 _ _ w w (rel0 d w) (λu hu=>by cases hu)) ?_
 rintro e w' ⟨m',x1,n1,r1,b1,rfl⟩
 exact⟨by rw[inst_flat1 hf],r1.os,r1.tape,r1.output,r1.size,r1.drawn,λk hk _=>r1.keep k hk (λq=>q)⟩
end Go.Ev
namespace Go.Ev
open Go Go.Ow Go.RowKit
variable{P:Program}{m:Mp}{h:Hp}{S:Nat→Prop}{w0 w:World}
structure NewR (m:Mp) (h:Hp) (S:Nat→Prop) (w0 w:World) (N:Nat):Prop where
  rel:Rel m h S w0 w
  le:w0.heap.size≤N∨∀k,S (w0.heap.size+k)
  low:∀i c,h.t.get i=some c→c.own=true→(m i).blk<N
theorem NewR.of{w':World}(r:Rel m h S w0 w)(k:Kept [] w w'):NewR m h S w0 w' w.heap.size:=
 ⟨r.kept k,.inl r.size,λi c e _=>(r.br i c e).2.lt⟩
theorem NewR.im{N:Nat}{h':Hp}(r:NewR m h S w0 w N){mb:MB}{n z:Nat}{l:List Value}(hnx:h'.nx=h.nx+1)(hg:∀j,h'.t.get j=if j=h.nx then some (.im n l z)else h.t.get j)
 (hN:N≤mb.blk)(hlt:mb.blk<w.heap.size)(hn:n=l.length)(hz:mb.sz=z)(hC:l.length≤mb.C*z)(hb:∀v∈l,bel h.nx v)
 (hc:∀j v,l[j]? =some v→w.cell? ⟨mb.blk,mb.base+j,none⟩=some (inst m v)):NewR (upd m h.nx mb) h' S w0 w N:=by
 have r':=r.rel
 have he:=upd_ext m h.nx mb
 have mo:∀i,i≠h.nx→upd m h.nx mb i=m i:=λi hi=>if_neg hi
 have cases':∀i c,h'.t.get i=some c→(i=h.nx∧c=.im n l z)∨(i≠h.nx∧h.t.get i=some c):=λi c e=>by
  rw[hg]at e
  by_cases hi:i=h.nx
  · rw[if_pos hi]at e;exact .inl ⟨hi,(Option.some.inj e).symm⟩
  · rw[if_neg hi]at e;exact .inr ⟨hi,e⟩
 have hb':BR (upd m h.nx mb) (h.nx+1) mb w (.im n l z):=⟨hz,hC,hlt,hn,λv hv=>bel_mono (Nat.le_succ _) v (hb v hv),λj v e=>by
  rw[inst_ext he v (hb v (List.mem_of_getElem? e))];exact hc j v e⟩
 refine⟨⟨λi c e=> ?_,λi j c d e e' hij ho=> ?_,λi c e=> ?_,r'.os,r'.tape,r'.output,r'.size,r'.drawn,r'.keep⟩,r.le,λi c e ho=> ?_⟩
 · rcases cases' i c e with⟨rfl,rfl⟩|⟨hi,e⟩
   · rw[upd_same,hnx];exact⟨Nat.lt_succ_self _,hb'⟩
   · obtain⟨h1,h2⟩:=r'.br i c e
     rw[mo i hi,hnx];exact⟨Nat.lt_succ_of_lt h1,h2.ext he (Nat.le_succ _) rfl⟩
 · rcases cases' i c e with⟨rfl,rfl⟩|⟨hi,e⟩<;>rcases cases' j d e' with⟨rfl,rfl⟩|⟨hj,e'⟩
   · exact absurd rfl hij
   · cases ho
   · rw[upd_same,mo i hi]
     exact Nat.ne_of_lt (Nat.lt_of_lt_of_le (r.low i c e ho) hN)
   · rw[mo i hi,mo j hj];exact r'.apart i j c d e e' hij ho
 · rcases cases' i c e with⟨rfl,rfl⟩|⟨hi,e⟩
   · rw[upd_same];exact .inr (r.le.elim (λq=>.inl (Nat.le_trans q hN)) (λq=>.inr ⟨rfl,q _⟩))
   · rw[mo i hi];exact r'.fresh i c e
 · rcases cases' i c e with⟨rfl,rfl⟩|⟨hi,e⟩
   · cases ho
   · rw[mo i hi];exact r.low i c e ho
noncomputable def u8v (v:Value) (ih:Bool):Bool:=match v with
 | .int .u8 n=>Int.rec (λa=>Bool.rec false ih (Nat.blt a 256)) (λ_=>false) n
 |_=>false
noncomputable def u8s (l:List Value):Bool:=List.rec true (λv _ ih=>u8v v ih) l
theorem u8v_some{v:Value}{ih:Bool}(e:u8v v ih=true):ih=true∧∃b:UInt8,v=.int .u8 b.toNat:=by
  unfold u8v at e
  split at e
  · rename_i n
    rcases n with a|a
    · have e:(Bool.rec false ih (Nat.blt a 256):Bool)=true:=e
      cases hc:Nat.blt a 256 with
      |false=>rw[hc]at e;cases e
      | true=>
        rw[hc]at e
        refine⟨e,UInt8.ofNat a,?_⟩
        have:(UInt8.ofNat a).toNat=a:=by simp;exact blt_lt hc
        rw[this];rfl
    · cases e
  · cases e
theorem u8s_bvs:∀{l:List Value},u8s l=true→∃bs:List UInt8,l=bvs bs
  |[],_=>⟨[],rfl⟩
  | v::l,e=>by
    obtain⟨h1,b,rfl⟩:=u8v_some (ih:=u8s l) e
    obtain⟨bs,rfl⟩:=u8s_bvs h1
    exact⟨b::bs,rfl⟩
inductive Sl where
  |i (v:Value)
  |r (n:Nat) (cs:List Value)
section
variable{β:Type}
noncomputable def slOk (h:Hp) (v:Value) (sz:Nat):Bool:=match v with
 | .slice none n c=>and (Nat.beq n 0) (Nat.beq c 0)
 | .slice (some ⟨b,o,none⟩) n c=>Bool.rec (and (Nat.ble n c) (Nat.ble c 1099511627776)) (unkB h b o n sz) (Nat.beq c UNK)
 |_=>false
noncomputable def rdS (h:Hp) (v:Value) (sz:Nat) (k:Nat→List Value→Option β):Option β:=Bool.rec none (match v with
 | .slice _ n _=>cellsAt h v (Nat.mul n sz) λcs=>k n cs
 |_=>none) (slOk h v sz)
noncomputable def rdB (h:Hp) (v:Value) (k:Nat→List Value→Option β):Option β:=rdS h v 1 λn cs=>Bool.rec none (k n cs) (u8s cs)
noncomputable def rdL (h:Hp) (l:List Value) (k:List Sl→Option β):Option β:=List.rec (λk=>k []) (λv _ ih k=>match v with
 | .int _ _=>ih λr=>k (.i v::r)
 | .slice _ _ _=>rdB h v λn cs=>ih λr=>k (.r n cs::r)
 |_=>none) l k
noncomputable def lyL (ex:Bool) (l:List Sl):Hp→(List Value→Hp→Option β)→Option β:=List.rec (λh k=>k [] h) (λs _ ih h k=>Sl.rec (λv=>ih h λr h=>k (v::r) h)
 (λn cs=>Nat.rec none (λ_ _=>h.push (.im n cs 1) λb h=>ih h λr h=>k (.slice (some ⟨b,0,none⟩) n (bb ex n UNK)::r) h) n) s) l
end
def SlW (ex:Bool)(w:World)(N:Nat)(u:Value):Sl→Prop
 | .i v=>u=v∧∃k n,v=.int k n
 | .r n cs=>∃b s c,u=.slice (some ⟨b,s,none⟩) n c∧n=cs.length∧N≤b∧n≤c∧c≤9223372036854775807∧(ex=true→c=n)∧(∀v∈cs,flat1 v=true)∧∀j v,cs[j]? =some v→w.cell? ⟨b,s+j,none⟩=some v
def SlsW (ex:Bool)(w:World)(N:Nat):List Value→List Sl→Prop
 |[],[]=>True
 |u::us,s::l=>SlW ex w N u s∧SlsW ex w N us l
 |_,_=>False
theorem cell_lt{w:World}{a:Addr}{v:Value}(h:w.cell? a=some v):a.block<w.heap.size:=by
 by_cases hc:a.block<w.heap.size
 · exact hc
 · simp only[World.cell?]at h
   rw[Array.getElem?_eq_none (Nat.le_of_not_lt hc)]at h
   cases h
theorem UNK_big{c:Nat}(h:c≤9223372036854775807):c≠UNK:=λe=>by subst e;revert h;unfold UNK;decide
theorem lyL_ok{β:Type}{ex:Bool}{N:Nat}{x:β}:∀{l:List Sl} {us:List Value} {m:Mp} {h:Hp} {k:List Value→Hp→Option β},lyL ex l h k=some x→NewR m h S w0 w N→SlsW ex w N us l→
    ∃vs m' h',k vs h'=some x∧Ext h.nx m m'∧h.nx≤h'.nx∧NewR m' h' S w0 w N∧(∀v∈vs,bel h'.nx v)∧vs.map (inst m')=us
  | [],us,m,h,k,e,r,hf=>by
    cases us with
    |cons u us=>exact hf.elim
    |nil=>
    exact⟨[],m,h,e,Ext.refl _ _,Nat.le_refl _,r,(λv hv=>by cases hv),rfl⟩
  | s ::l,us,m,h,k,e,r,hf=>by
    cases us with
    |nil=>exact hf.elim
    |cons u us=>
    obtain⟨hu,hf⟩:=hf
    cases s with
    | i v=>
      obtain⟨rfl,kd,n,rfl⟩:=hu
      have e':lyL ex l h (λr h=>k (.int kd n::r) h)=some x:=e
      obtain⟨vs,m',h',k1,x1,n1,r1,b1,i1⟩:=lyL_ok e' r hf
      exact⟨_,m',h',k1,x1,n1,r1,(λv hv=>by rcases List.mem_cons.1 hv with rfl|hv;exact bel_int;exact b1 v hv),by rw[List.map_cons,i1,inst_int]⟩
    | r n cs=>
      obtain⟨b,s,c,rfl,hn,hN,hc1,hc2,hex,hfl,hcell⟩:=hu
      have e0:(Nat.rec none (λ_ _=>h.push (.im n cs 1) λb h=>lyL ex l h λr h=>k (.slice (some ⟨b,0,none⟩) n (bb ex n UNK)::r) h) n:Option β)=some x:=e
      cases n with
      |zero=>cases e0
      | succ n=>
        obtain⟨h1,e1,hnx,hg⟩:=push_some (show h.push (.im (n+1) cs 1) (λb h=>lyL ex l h λr h=>k (.slice (some ⟨b,0,none⟩) (n+1) (bb ex (n+1) UNK)::r) h)=some x from e0)
        have hlt:b<w.heap.size:=by
          have h0:0<cs.length:=by rw[←hn];exact Nat.succ_pos _
          exact cell_lt (hcell 0 cs[0] (List.getElem?_eq_getElem h0))
        have r1:=r.im (h':=h1) (mb:=⟨b,s,c,1,hc2⟩) hnx hg hN hlt hn rfl (by show cs.length≤c*1;rw[←hn,Nat.mul_one];exact hc1) (λv hv=>bel_flat1 (hfl v hv) _) (λj v ej=>by
          rw[inst_flat1 (hfl v (List.mem_of_getElem? ej))];exact hcell j v ej)
        obtain⟨vs,m',h',k1,x1,n1,r2,b1,i1⟩:=lyL_ok e1 r1 hf
        have hh:h.nx<h'.nx:=by rw[hnx]at n1;exact n1
        have x2:Ext h.nx m m':=(upd_ext m h.nx _).trans x1 (by rw[hnx];exact Nat.le_succ _)
        have hm:m' h.nx=⟨b,s,c,1,hc2⟩:=by rw[x1 h.nx (by rw[hnx];exact Nat.lt_succ_self _),upd_same]
        refine⟨_,m',h',k1,x2,Nat.le_of_lt hh,r2,(λv hv=> ?_),?_⟩
        · rcases List.mem_cons.1 hv with rfl|hv
          · intro y hy;cases hy;exact hh
          · exact b1 v hv
        · rw[List.map_cons,i1]
          congr 1
          simp only[inst,Option.map_some,iA,hm,Nat.add_zero]
          cases hx:ex with
          | true=>
            have:=hex hx
            subst this
            show Value.slice _ _ (iCap m' _ (n+1))=_
            unfold iCap
            rw[if_neg (UNK_big hc2)]
          | false=>
            show Value.slice _ _ (iCap m' _ UNK)=_
            unfold iCap
            rw[if_pos rfl]
            show Value.slice _ _ ((m' h.nx).C-0/(m' h.nx).sz)=_
            rw[hm]
            simp
end Go.Ev
