import Derived.Test.YtgdchaoklfjcpaaGreatDoorOwMd
/- rules, proved -/
set_option linter.constructorNameAsVariable false
set_option linter.unusedSimpArgs false
set_option linter.unusedVariables false
namespace Go.Pv
open Go Go.Ow Go.RowKit
def sgW (W:Wt)(k:Nat):Own:=match W k with|some w=>w.2|none=> []
def FnOkG (DO:Array Value->List Own->Heaplet->(Value->List Own->Heaplet->Prop)->Prop)(i o:Sp)(c:VH (hyS i)->Option (VH<|hyS o)):Prop:=
  ∀ (H:Heaplet) (W:Wt) (vs:List Value) (z:VH (hyS i)) (y:VH (hyS o)),(∀k w,W k=some w->k<i.bs.length)->TellsS H W i (ofVH (hyS i) z) vs->c z=some y->
    DO vs.toArray ((List.range i.bs.length).map<|sgW W) H λu K' H'=>∃us a,(∀k w,a k=some w->k<o.bs.length)/\(∀k w,W k=some w->∃b,a k=some b/\b.1=w.1)/\u=Ow.pack us/\TellsS H' a o (ofVH (hyS o) y) us/\K'=(List.range o.bs.length).map (sgW a)
abbrev FnOk (P:Program)(f:FuncId)(i o:Sp)(a:VH (hyS i)->Option (VH<|hyS o)):Prop:=FnOkG (Does P f) i o a
def DoesD (P:Program)(f:FuncId)(args:Array Value)(K:List Own)(H:Heaplet)(R:Value->List Own->Heaplet->Prop):Prop:=
 ∀w,Agrees H w->OwnOk H K.flatten w->CallsDIn Fence.wide 0 P f args .returning w λe u a=>u=.returning/\∃v K' H',e=.returned v/\R v K' H'/\Mem w H (ids K.flatten) K'.flatten H' a
def NtOk (P : Program) (f : Nat) (n : NK) : Prop := ∃ fn, P.funcs[f]? = some fn /\ (fn.name == "runtime.NumGoroutine") = false /\ fn.body.isNone = true /\ Extern.findNext fn = none /\ Extern.find fn = some (match n with | .count => Extern.BytealgCount.count | .index => Extern.BytealgIndexByte.indexByte)
structure EnvOk (X:Env):Prop where
  sp:∀f,∀S∈X.sp f,Enters X.P f/\FnOk X.P f S.i S.o S.f
  dsp:∀f,∀S∈X.dsp f,Enters X.P f/\FnOkG (DoesD X.P f) S.i S.o S.f
  nt:∀f n,ZK X.nt f=some n->NtOk X.P f n
theorem ZPU{I:In}{cs:List CV}{us:List Value}(h:VRs I cs us):VR I (packC cs) (Ow.pack us):=by
  match cs,us,h with
  |[],us,h=>cases h.un0;show VR I (.tu []) (.tuple _);simp only[VR];exact⟨[],rfl,VRs.nil⟩
  |[c],us,h=>obtain⟨v,ws,rfl,h1,h2⟩:=h.un;cases h2.un0;exact h1
  | c::d::cs,us,h=>
    have h0:=h;obtain⟨v,ws,rfl,h1,h2⟩:=h.un;obtain⟨a,w,rfl,h3,b⟩:=h2.un;show VR I (.tu (c::d::cs)) (.tuple (v::a::w).toArray);simp only[VR];exact⟨_,rfl,h0⟩
structure KillOk (ρ:Rho) (bs:List Bp) (i:Nat) (s s':PS):Prop where
  e:Ext s s'
  N:s'.N=s.N
  n:s'.n=s.n
  o:s'.o=s.o
  z:s'.z=s.z
  c:s'.c=s.c
  row:∀j a,bs[j]? =some .row->ZK ρ (i+j)=some (some a)->(∃t E m,ZK s.r a=some (.own t E m))/\(∃p∈newL s'.r s.r,p.1=a)/\∀c,ZK s'.r a=some c->c=.dead
  cells:∀j n ps,bs[j]? =some (.cells n ps)->∃a,ZK ρ (i+j)=some (some a)/\ZK s.z a=some n/\1<=n
section
variable{β:Type}{r:β}{x:Cx}{s:PS}{I:In}{seg:Nat->Own}{l:Slots}{own:List Own}{H:Heaplet}
theorem RS.kill (h:RS x s I seg l own H)(a:Nat):RS x ⟨s.N,s.l,s.o,s.z,s.n,s.f,s.c,(a,.dead)::s.r⟩ I seg l own H:=by
 have b:∀{k:Nat} {c:RC},ZK ((a,RC.dead)::s.r) k=some c->c=.dead\/ZK s.r k=some c:=λ{k c} e=>by
  rw[ZH]at e;split at e
  . cases e;exact .inl rfl
  . exact .inr e
 exact⟨h.N,h.H,h.n,h.q,h.own,h.sl,h.ze,h.ce,h.fx,λk c e=>(b e).elim .inl (h.rw k c),λk c e=>(b e).elim .inl (h.rz k c),λk c j d e e2=>(b e).elim .inl λe=>h.ro k c j d e e2⟩
theorem ZOf{m:List (Nat×RC)}{r:List (Nat×RC)}{a:Nat}(h:∀p∈m,p.2=.dead)(h0:∀c,ZK r a=some c->c=.dead):∀c,ZK (m++r) a=some c->c=.dead:=by
  induction m with
  |nil=>exact h0
  | cons p m ih=>
    intro c e;rw[RB,ZH]at e;split at e
    . cases e;exact h p<|by simp
    . exact ih (λq b=>h q<|by simp[b]) c e
theorem Gx{ρ:Rho}:∀{bs:List Bp} {i:Nat} {s:PS} {I:In} {seg:Nat->Own} {own:List Own} {H:Heaplet} {k:PS->Option β},JI ρ bs i s k=some r->InjR ρ->RS x s I seg l own H->
    ∃s',k s'=some r/\RS x s' I seg l own H/\KillOk ρ bs i s s'/\∃m,s'.r=m++s.r/\∀p∈m,p.2=.dead
  |[],i,s,I,seg,own,H,k,h,hi,hs=>⟨s,h,hs,⟨Pf _,rfl,rfl,rfl,rfl,rfl,λj a e=>(by simp at e),λj n ps e=>(by simp at e)⟩,[],rfl,by simp⟩
  | .row :: bs,i,s,I,seg,own,H,k,h,hi,hs=>by
    have B:∀(h:JI ρ bs (i+1) s k=some r),(∀a,ZK ρ i≠some (some a))->∃s',k s'=some r/\RS x s' I seg l own H/\KillOk ρ (.row::bs) i s s'/\∃m,s'.r=m++s.r/\∀p∈m,p.2=.dead:=λh u=>by
      obtain⟨s',h1,h2,h3,v⟩:=Gx h hi hs;refine⟨s',h1,h2,⟨h3.e,h3.N,h3.n,h3.o,h3.z,h3.c,λj a e e2=> ?_,λj n ps e=> ?_⟩,v⟩
      . cases j with
        |zero=>exact absurd e2 (u a)
        |succ j=>exact h3.row j a (by simpa using e) (by rw[show i+1+j=i+(j+1) by omega];exact e2)
      . cases j with
        |zero=>simp at e
        |succ j=>obtain⟨a,g,w⟩:=h3.cells j n ps (by simpa using e);exact⟨a,by rw[show i+(j+1)=i+1+j by omega];exact g,w⟩
    replace h:=show(match ZK ρ i with
      |some (some a)=>bb (K9 s a) (JI ρ bs (i+1) ⟨s.N,s.l,s.o,s.z,s.n,s.f,s.c,(a,.dead)::s.r⟩ k) none
      | _ =>JI ρ bs (i+1) s k)=some r by
        rw[<-h];show _=(match (Bp.row),ZK ρ i with
          | .row,some (some a)=>bb (K9 s a) (JI ρ bs (i+1) ⟨s.N,s.l,s.o,s.z,s.n,s.f,s.c,(a,.dead)::s.r⟩ k) none
          | .cells n _,some (some a)=>bb (Bool.and (Nat.ble 1 n)<|match ZK s.z a with|some m=>Nat.beq m n|none=>false) (JI ρ bs (i+1) s k) none
          | .cells _ _,_=>none
          |_,_=>JI ρ bs (i+1) s k)
        cases ZK ρ i with
        |none=>rfl
        |some o=>cases o<;>rfl
    split at h
    . rename_i a e0;obtain⟨A,h⟩:=ZC h;have C:∃t E m,ZK s.r a=some (.own t E m):=by
        unfold K9 at A;split at A
        . rename_i t E m e;exact⟨t,E,m,e⟩
        . cases A
      obtain⟨s',h1,h2,h3,m,v,K⟩:=Gx h hi<|hs.kill a;have D:s'.r=(m++ [(a,.dead)])++s.r:=(by rw[v];simp);refine⟨s',h1,h2,⟨(Ext.row s a .dead).trans h3.e,h3.N,h3.n,h3.o,h3.z,h3.c,λj b e e2=> ?_,λj n ps e=> ?_⟩,m++ [(a,.dead)],D,λp d=> ?_⟩
      . cases j with
        | zero=>
          have e2:ZK ρ i=some (some b):=e2;rw[e0]at e2;cases e2;refine⟨C,⟨(a,.dead),by rw[D,YM];simp,rfl⟩,?_⟩;rw[v];exact ZOf K (λc e=>by
            have e:ZK ((a,RC.dead)::s.r) a=some c:=e;rw[ZH,TJ rfl]at e;cases e;rfl)
        | succ j=>
          have e3:ZK ρ (i+1+j)=some (some b):=(by rw[show i+1+j=i+(j+1) by omega];exact e2);obtain⟨⟨t,E,L,g⟩,w,M⟩:=h3.row j b (by simpa using e) e3;have g:ZK ((a,RC.dead)::s.r) b=some (.own t E L):=g;rw[ZH]at g;by_cases q:a=b
          . rw[TJ q]at g;cases g
          . rw[TK q]at g;refine⟨⟨t,E,L,g⟩,?_,M⟩;obtain⟨p,d,F⟩:=w;rw[v,YM]at d;exact⟨p,by rw[D,YM];simp[d],F⟩
      . cases j with
        |zero=>simp at e
        |succ j=>obtain⟨b,g,w⟩:=h3.cells j n ps (by simpa using e);exact⟨b,by rw[show i+(j+1)=i+1+j by omega];exact g,w⟩
      . rcases TR.1 d with d|d
        . exact K p d
        . cases Sz.1 d;rfl
    . rename_i u;exact B h u
  | .cells n ps::bs,i,s,I,seg,own,H,k,h,hi,hs=>by
    replace h:=show(match ZK ρ i with
      |some (some a)=>bb (Bool.and (Nat.ble 1 n)<|match ZK s.z a with|some m=>Nat.beq m n|none=>false) (JI ρ bs (i+1) s k) none
      | _ =>none)=some r by
        rw[<-h];show _=(match (Bp.cells n ps),ZK ρ i with
          | .row,some (some a)=>bb (K9 s a) (JI ρ bs (i+1) ⟨s.N,s.l,s.o,s.z,s.n,s.f,s.c,(a,.dead)::s.r⟩ k) none
          | .cells n _,some (some a)=>bb (Bool.and (Nat.ble 1 n)<|match ZK s.z a with|some m=>Nat.beq m n|none=>false) (JI ρ bs (i+1) s k) none
          | .cells _ _,_=>none
          |_,_=>JI ρ bs (i+1) s k)
        cases ZK ρ i with
        |none=>rfl
        |some o=>cases o<;>rfl
    split at h
    . rename_i a e0;obtain⟨A,h⟩:=ZC h;simp only[TD]at A;obtain⟨G,y⟩:=A;have O:ZK s.z a=some n:=by
        split at y
        . rename_i m e;rw[e,TA y]
        . cases y
      obtain⟨s',h1,h2,h3,v⟩:=Gx h hi hs;refine⟨s',h1,h2,⟨h3.e,h3.N,h3.n,h3.o,h3.z,h3.c,λj b e e2=> ?_,λj P J e=> ?_⟩,v⟩
      . cases j with
        |zero=>simp at e
        |succ j=>exact h3.row j b (by simpa using e) (by rw[show i+1+j=i+(j+1) by omega];exact e2)
      . cases j with
        |zero=>simp at e;obtain⟨rfl,_⟩:=e;exact⟨a,e0,O,TI G⟩
        |succ j=>obtain⟨b,g,w⟩:=h3.cells j P J (by simpa using e);exact⟨b,by rw[show i+(j+1)=i+1+j by omega];exact g,w⟩
    . cases h
theorem ZD5:∀{i o:List Bp},okIO i o=true->i.length<=o.length/\∀(j:Nat) (b:Bp),i[j]? =some b->(b=.row/\o[j]? =some .row)\/∃n ps p,b=.cells n ps/\o[j]? =some (.cells n p)
  |[],o,h=>⟨TQ _,λj b e=>by simp at e⟩
  | .row::i,o,h=>by
    cases o with
    |nil=>cases h
    | cons c o=>
      cases c with
      |cells m ps=>cases h
      | row=>
        obtain⟨h1,h2⟩:=ZD5<|show okIO i o=true from h
        refine⟨by simpa using h1,λj b e=> ?_⟩;cases j with
        |zero=>simp at e;subst e;exact .inl ⟨rfl,rfl⟩
        |succ j=>simpa using h2 j b (by simpa using e)
  | .cells n ps::i,o,h=>by
    cases o with
    |nil=>cases h
    | cons c o=>
      cases c with
      |row=>cases h
      | cells m p=>
        have h:Bool.and (Nat.beq m n) (okIO i o)=true:=h;simp only[TD]at h;obtain⟨h1,h2⟩:=ZD5 h.2;refine⟨by simpa using h1,λj b e=> ?_⟩;cases j with
        |zero=>simp at e;subst e;exact .inr ⟨n,ps,p,rfl,by rw[<-TA h.1];rfl⟩
        |succ j=>simpa using h2 j b (by simpa using e)
variable{X:Env}{ops:Array Oper}{Q:Exit->Act->World->Prop}{rest:List Oper}{ty:TypeId}{d:Nat}{pos:String}{aft:Array Edge}
noncomputable def back (ρ:Rho) (b n a:Nat):Option Nat:=(List.range n).find? λi=>Nat.beq (sg ρ b i) a
theorem Ql{ρ:Rho}{b n a i:Nat}(h:back ρ b n a=some i):i<n/\sg ρ b i=a:=by
 unfold back at h;have h1:=List.find?_some h;have h2:=List.mem_of_find?_eq_some h;exact⟨Tx.1 h2,TA h1⟩
theorem ZSm{ρ:Rho}{b:Nat}(hi:InjR ρ)(c:∀i a,ZK ρ i=some (some a)->a<b){i j:Nat}(h:sg ρ b i=sg ρ b j):i=j:=by
 have k:∀i,(∃a,ZK ρ i=some (some a)/\sg ρ b i=a/\a<b)\/sg ρ b i=b+i:=λi=>by
  by_cases e:∃a,ZK ρ i=some (some a)
  . obtain⟨a,e⟩:=e;exact .inl ⟨a,e,ZCu e,c i a e⟩
  . refine .inr ?_;unfold sg;split
    . rename_i a e2;exact absurd ⟨a,e2⟩ e
    . rfl
 rcases k i with⟨a,e1,e2,e3⟩|e1<;>rcases k j with⟨g,f,d,l⟩|f
 . rw[e2,d]at h;subst h;exact hi _ _ _ e1 f
 . omega
 . omega
 . omega
theorem ZRf{ρ:Rho}{b n i:Nat}(hi:InjR ρ)(c:∀i a,ZK ρ i=some (some a)->a<b)(h:i<n):back ρ b n (sg ρ b i)=some i:=by
  cases hb:back ρ b n (sg ρ b i)with
  |some j=>rw[ZSm hi c (Ql hb).2]
  | none=>
    unfold back at hb;have:=List.find?_eq_none.1 hb i<|Tx.2 h;simp at this
theorem ZOh{ρ:Rho}{b n a:Nat}(h:back ρ b n a=none):∀i,i<n->sg ρ b i≠a:=λi hi e=>by
 unfold back at h;have:=List.find?_eq_none.1 h i<|Tx.2 hi;rw[e]at this;simp at this
theorem ZHp {Kc : Act->World->Prop}{Kf:Value->Act->World->Prop}{lf:Value->Slots}{xf:Cx}{DO:Array Value->List Own->Heaplet->(Value->List Own->Heaplet->Prop)->Prop}{vs:List Value}{cs:List CV}{k:List CV->PS->Option β}
    (Y:∀{K rst own:List Own} {H:Heaplet} {R:Value->List Own->Heaplet->Prop},(∃us s',s'.N=x.n/\k us s'=some r)->own.flatten.Perm (K.flatten++rst.flatten)->DO vs.toArray K H R->(∀v K' H',R v K' H'->Hle H H'->JN xf (Kf v) (lf v) (K'++rst) H')->JN x Kc l own H):
    ∀ {L:List Spec},(∀S∈L,FnOkG DO S.i S.o S.f)->RS x s I seg l own H->VRs I cs vs->callK s cs k L=some r->(∀us vs' s' I' seg' own' H',Go s I seg H s' I' seg' H'->k us s'=some r->VRs I' us vs'->RS x s' I' seg' l own' H'->JN xf (Kf<|Ow.pack vs') (lf<|Ow.pack vs') own' H')->
      JN x Kc l own H
  |[],hL,hs,hv,h,X=>by cases h
  | S ::L,hL,hs,hv,h,X=>by
    obtain⟨q,hq⟩:∃q,q=mtS s S.i cs [] (λhs ρ js=>bb (Bool.and (okIO S.i.bs S.o.bs) (allB (λp=>Nat.blt p.1 S.i.bs.length) ρ)) (some (hs,ρ,js)) none):=⟨_,rfl⟩;replace h:=show(Option.rec (callK s cs k L) (λq=>U4 q.2.2 s λs=>toVH (hyS S.i) q.1 λx=>Option.bind (S.f x) λy=>JI q.2.1 S.i.bs 0 s λs=>s.bu q.2.1 S.o (ofVH (hyS S.o) y) k) q:Option β)=some r by rw[hq];exact h
    cases q with
    |none=>exact ZHp Y (λS' hS=>hL S'<|by simp[hS]) hs hv h X
    | some q=>
      obtain⟨hs0,ρ,js,hm,-,hi,hρ,hT⟩:=ZB3 hq.symm (λi j a e=>by cases e);obtain⟨U,hm⟩:=ZC hm;cases hm;simp only[TD]at U;obtain⟨hio,G⟩:=U;obtain⟨io1,io2⟩:=ZD5 hio;have G:∀i a,ZK ρ i=some a->i<S.i.bs.length:=λi a e=>(by simpa using Zd.1 G _ (W5 e));replace h:=show U4 js s (λs=>toVH (hyS S.i) hs0 λx=>Option.bind (S.f x) λy=>JI ρ S.i.bs 0 s λs=>s.bu ρ S.o (ofVH (hyS S.o) y) k)=some r from h;rw[Vu]at h;obtain⟨z,hz,h9⟩:=UD h;clear h;subst hz;obtain⟨y,hy,h⟩:=ZT h9;have k2:=hL S (by simp);refine Gs (js:=js) (K:=Kc) hs λseg2 own2 H2 g2 Z=> ?_;have hn2:(pubS js s).n=s.n:=(Yo js s).n;obtain⟨A,h,hs3,D,m3,em3,hm3⟩:=Gx h hi Z;have hW:TellsS H2 (Wf ρ {I with H:=H2} seg2) S.i (ofVH (hyS S.i) z) vs:=hT {I with H:=H2} seg2 _ (Rw.of Z) (hv.mono g2.I).vu;have hWd:∀k w,Wf ρ {I with H:=H2} seg2 k=some w->k<S.i.bs.length:=λk w e=>by
        unfold Wf at e;cases e2:ZK ρ k with
        |none=>rw[e2]at e;cases e
        |some a=>exact G k a e2
      have hWs:∀k,sgW (Wf ρ {I with H:=H2} seg2) k=(match ZK ρ k with|some (some a)=>seg2 a|_=> []):=λk=>by
        unfold sgW Wf;cases ZK ρ k with
        |none=>rfl
        |some a=>cases a<;>rfl
      have T:∀i a,ZK ρ i=some (some a)->a<A.n:=λi a e=>by rw[D.n,hn2];exact(hρ i a e).2
      -- what is handed in,and what is not
      obtain ⟨Rx,hR1,hR2⟩:=ZAQ (g:=seg2) (K:=List.range A.n) (N:=S.i.bs.length) (seg:=sgW<|Wf ρ {I with H:=H2} seg2) (λk=>(ZK ρ k).bind id)
        (λa b i _ _ e1 e2=>by
          cases h1:ZK ρ a with
          |none=>rw[h1]at e1;cases e1
          | some o1=>cases h2:ZK ρ b with
            |none=>rw[h2]at e2;cases e2
            | some o2=>
              rw[h1]at e1;rw[h2]at e2;have e1:o1=some i:=e1;have e2:o2=some i:=e2;subst e1 e2;exact hi _ _ _ h1 h2)
        (λa i _ e=>by
          cases h1:ZK ρ a with
          |none=>rw[h1]at e;cases e
          |some o=>rw[h1]at e;have e:o=some i:=e;subst e;exact Tx.2<|T _ _ h1)
        (λk _=>by
          rw[hWs];cases ZK ρ k with
          |none=>rfl
          |some a=>cases a<;>rfl)
      have hRx:∀a,a<A.n->(∀k,k<S.i.bs.length->ZK ρ k≠some (some a))->a∈Rx:=λa P hno=>by
        have:=hR1.mem_iff.1<|Tx.2 P;rcases TR.1 this with h1|h1
        . obtain⟨k,hk1,V⟩:=List.mem_filterMap.1 h1;exfalso;cases h2:ZK ρ k with
          |none=>rw[h2]at V;cases V
          |some o=>rw[h2]at V;have V:o=some a:=V;subst V;exact hno k (Tx.1 hk1) h2
        . exact h1
      have hown2:own2=(List.range A.n).map seg2:=(by rw[D.n];exact Z.own);have hDoes:=k2 H2 _ _ z y hWd hW hy;refine Y (K:=(List.range S.i.bs.length).map<|sgW<|Wf ρ {I with H:=H2} seg2) (rst:=Rx.map seg2) ?_ (by rw[hown2];exact hR2) hDoes λu K' H3 hR hle=> ?_
      . obtain⟨hok,cs',hs',c1,rs,bl,c2,rs',hLi,hBi,h⟩:=Jb h;exact⟨_,buS A S.o bl c2 (rs++rs'),(show A.N=x.n from hs3.N),h⟩
      . obtain ⟨us,W,hd',hin,rfl,hT',rfl⟩:=hR;obtain⟨hok,cs',hs',c1,rs,bl,c2,rs',hLi,hBi,h5⟩:=Jb h;obtain⟨ib1,ib2,ib3⟩:=InstB_ix hBi;have hs3':=hs3.le hle
        -- what a number is now
        let C:=A.n;let no:=S.o.bs.length;let F:Nat->Own:=λa=>match back ρ C no a with|some i=>sgW W i|none=>if a<C then seg2 a else []
        let J:In:={H:=H3,ν:=λa=>if a<C then I.ν a else(match W (a-C)with|some w=>w.1|none=>(0,.nilIface)),n:=C+no,κ:=λc=>if c<A.c then I.κ c else(cnt<|ofVH (hyS S.o) y)[c-A.c]?.getD 0,q:=A.c+(cnt<|ofVH (hyS S.o) y).length};have hW4:∀i w,W i=some w->sg ρ A.n i<J.n/\J.ν (sg ρ A.n i)=w.1/\F (sg ρ A.n i)=w.2:=λi w e=>by
          have hi':=hd' i w e;have hb:back ρ C no (sg ρ A.n i)=some i:=ZRf hi T hi';have h3:F (sg ρ A.n i)=w.2:=by show(match back ρ C no (sg ρ A.n i)with|some i=>sgW W i|none=>_)=_;rw[hb];show sgW W i=_;unfold sgW;rw[e]
          by_cases B:∃a,ZK ρ i=some (some a)
          . obtain⟨a,O⟩:=B;have M:=T i a O;rw[ZCu O]at h3|-;refine⟨by show a<A.n+_;omega,?_,h3⟩;obtain⟨w',e',e2⟩:=hin i _<|Wf_of O;rw[e]at e';cases e';show(if a<A.n then I.ν a else _)=_;rw[TJ M,e2];rfl
          . have hg:sg ρ A.n i=A.n+i:=by
              unfold sg;split
              . rename_i a e2;exact absurd ⟨a,e2⟩ B
              . rfl
            rw[hg]at h3|-;refine⟨by show A.n+i<A.n+S.o.bs.length;omega,?_,h3⟩;show(if A.n+i<A.n then _ else(match W (A.n+i-A.n)with|some w=>w.1|none=>_))=_;rw[TK (by omega),Se,e]
        have hrow:∀k,k<no->(∀n ps,S.o.bs[k]? ≠some (.cells n ps))->∀a,ZK ρ k=some (some a)->(ZK A.z a=none/\∀j d,lkO A.o a j=some d->d=.unk)/\(∃p∈newL A.r (pubS js s).r,p.1=a)/\∀c,ZK A.r a=some c->c=.dead:=λk X hno a O=>by
          have hki:=G k _ O;rcases io2 k _ (TL hki)with⟨e1,_⟩|⟨n,ps,ps',e1,e2⟩
          . obtain⟨⟨t,E,m,g1⟩,g2,g3⟩:=D.row k a (by rw[<-e1];exact TL hki) (by rw[Te];exact O);refine⟨⟨?_,λj d e=> ?_⟩,g2,g3⟩
            . rw[D.z];exact(Z.rz _ _ g1).resolve_left<|by simp
            . rw[D.o]at e;exact(Z.ro _ _ _ _ g1 e).resolve_left<|by simp
          . exact absurd e2<|hno _ _
        have Q:∀k n ps,S.o.bs[k]? =some (.cells n ps)->∀a,ZK ρ k=some (some a)->ZK A.z a=some n/\1<=n:=λk n ps ek a O=>by
          have hki:=G k _ O;rcases io2 k _ (TL hki)with⟨e1,e2⟩|⟨n',ps',ps'',e1,e2⟩
          . rw[ek]at e2;cases e2
          . rw[ek]at e2;cases e2;obtain⟨a',f1,f2,f3⟩:=D.cells k n ps' (by rw[<-e1];exact TL hki);rw[Te,O]at f1;cases f1;exact⟨by rw[D.z];exact f2,f3⟩
        have hK : Kp A bl seg2 F:=λa P=>by
          cases hb:back ρ C no a with
          |none=>left;show(match back ρ C no a with|some i=>sgW W i|none=>if a<C then seg2 a else [])=_;rw[hb];exact TJ P
          | some i=>
            right;obtain⟨hin',hsg⟩:=Ql hb;have B:ZK ρ i=some (some a):=by
              by_cases B:∃a',ZK ρ i=some (some a')
              . obtain⟨a',e⟩:=B;rw[<-hsg,ZCu e];exact e
              . exfalso;have hg:sg ρ C i=C+i:=by
                  unfold sg;split
                  . rename_i a e2;exact absurd ⟨a,e2⟩ B
                  . rfl
                have:a<C:=P;omega
            by_cases U:∃n ps,S.o.bs[i]? =some (.cells n ps)
            . obtain⟨n,ps,ec⟩:=U;obtain⟨f1,f2⟩:=Q i n ps ec a B;refine⟨λc e=>(hs3.rz a c e).resolve_right (by rw[f1];simp),.inr ?_⟩;obtain⟨cs2,g1,g2⟩:=ib3 i n ps ec;rw[Te,hsg]at g1;exact⟨cs2,g1,by rw[g2];exact f1⟩
            . obtain⟨f1,_,f3⟩:=hrow i hin' (λn ps e=>U ⟨n,ps,e⟩) a B;exact⟨f3,.inl f1⟩
        have hz:∀p∈rs++rs',p.1<A.n->ZK A.z p.1=none/\∀j d,lkO A.o p.1 j=some d->d=.unk:=λp hp M=>by
          obtain⟨k,X,hpk⟩:∃k∈rowIx S.o.vs++rowIB S.o.bs,p.1=sg ρ A.n k:=by
            rcases TR.1 hp with hp|hp
            . obtain⟨k,X,e⟩:=InstL_ix hLi p hp;exact⟨k,by simp[X],e⟩
            . obtain⟨k,X,e⟩:=ib1 p hp;exact⟨k,by simp[X],e⟩
          have hno:∀n ps,S.o.bs[k]? ≠some (.cells n ps):=λn ps e=>by
            have:=Zd.1 (show allB (λk=>match S.o.bs[k]? with|some (.cells _ _)=>false|_=>true) (rowIx S.o.vs++rowIB S.o.bs)=true from hok) k X;rw[e]at this;cases this
          by_cases B:∃a,ZK ρ k=some (some a)
          . obtain⟨a,O⟩:=B;rw[ZCu O]at hpk;rw[hpk];exact(hrow k (Tj (G k _ O) io1) hno a O).1
          . exfalso;have hg:sg ρ A.n k=A.n+k:=by
              unfold sg;split
              . rename_i a e2;exact absurd ⟨a,e2⟩ B
              . rfl
            omega
        have hbz:∀p∈bl,p.1<A.n->∃m,ZK A.z p.1=some m:=λp hp M=>by
          obtain⟨j,n,ps,e1,e2,e3⟩:=ib2 p hp;rw[Te]at e2;by_cases B:∃a,ZK ρ j=some (some a)
          . obtain⟨a,O⟩:=B;rw[ZCu O]at e2;rw[e2];exact⟨n,(Q j n ps e1 a O).1⟩
          . exfalso;have hg:sg ρ A.n j=A.n+j:=by
              unfold sg;split
              . rename_i a e2;exact absurd ⟨a,e2⟩ B
              . rfl
            omega
        have hC:Cnt J A.c (cnt<|ofVH (hyS S.o) y):=λm j e=>by
          have M:=(TC.1 e).1;refine⟨by show A.c+m<A.c+_;omega,?_⟩;show(if A.c+m<A.c then _ else(cnt<|ofVH (hyS S.o) y)[A.c+m-A.c]?.getD 0)=j;rw[TK (by omega),Se,e];rfl
        obtain⟨v1,hs4⟩:=RS.bu (J:=J) (seg2:=F) hs3' hT' hok hLi hBi T hi rfl rfl rfl (λa P=>TJ P) (λc U=>TJ U) hC hW4 hK hz hbz
        -- memory,in the order of the numbers
        have hperm:∃R4,(((List.range S.o.bs.length).map<|sgW W)++Rx.map seg2).flatten.Perm (((List.range J.n).map F).flatten++R4):=by
          obtain ⟨R4,_,h6⟩:=ZAQ (g:=λi=>if i<no then sgW W i else seg2 (i-no)) (K:=List.range no++Rx.map λa=>no+a) (N:=J.n) (seg:=F)
            (λa=>match back ρ C no a with|some i=>some i|none=>if a<C then some (no+a)else none)
            (λa b i P hb e1 e2=>by
              cases h1:back ρ C no a with
              | some i1=>
                simp only[h1]at e1;cases h2:back ρ C no b with
                | some i2=>
                  simp only[h2]at e2;rw[<-(Ql h1).2,<-(Ql h2).2,TB e1,TB e2]
                | none=>
                  simp only[h2]at e2;have:=(Ql h1).1;split at e2
                  . have e1:=TB e1;have e2:=TB e2;omega
                  . cases e2
              | none=>
                simp only[h1]at e1;cases h2:back ρ C no b with
                | some i2=>
                  simp only[h2]at e2;have:=(Ql h2).1;split at e1
                  . have e1:=TB e1;have e2:=TB e2;omega
                  . cases e1
                | none=>
                  simp only[h2]at e2;split at e1
                  . split at e2
                    . have e1:=TB e1;have e2:=TB e2;omega
                    . cases e2
                  . cases e1)
            (λa i P e=>by
              cases h1:back ρ C no a with
              | some i1=>
                simp only[h1]at e;rw[<-TB e];exact List.mem_append_left _ (Tx.2 (Ql h1).1)
              | none=>
                simp only[h1]at e;split at e
                . rename_i M;rw[<-TB e];refine Ri _<|T7.2 ⟨a,hRx a M λk X ek=> ?_,rfl⟩;exact ZOh h1 k (Tj X io1)<|ZCu ek
                . cases e)
            (λa P=>by
              show(match back ρ C no a with|some i=>sgW W i|none=>if a<C then seg2 a else [])=_;cases h1:back ρ C no a with
              |some i1=>simp only[];rw[TJ (Ql h1).1]
              | none=>
                simp only[];by_cases M:a<C
                . simp only[M,if_true];rw[TK (by omega),Se]
                . simp only[M,if_false])
          refine⟨(R4.map λi=>if i<no then sgW W i else seg2 (i-no)).flatten,?_⟩
          . rw [show((List.range S.o.bs.length).map (sgW W)++Rx.map seg2)=(List.range no++Rx.map λa=>no+a).map (λi=>if i<no then sgW W i else seg2 (i-no))from ?_]
            . exact h6
            . rw[SJ,RK];congr 1
              . exact St λi hi=>(TJ<|Tx.1 hi).symm
              . refine St λa _=> ?_;show seg2 a=if no+a<no then _ else seg2 (no+a-no)
                rw[TK (by omega),Se]
        obtain⟨R4,hperm⟩:=hperm
        -- how it went on
        have hgo:Go s I seg H (buS A S.o bl c2 (rs++rs')) J F H3:=by
          have gB:Ext A (buS A S.o bl c2 (rs++rs')):=Ext.bu (by have:=hs4.q;show A.c<=c2;have h6:A.c+_=c2:=this;omega);have hJ:({I with H:=H2}:In).Le J:=⟨hle,by show I.n<=A.n+_;have:=hs.n;rw[D.n,hn2];omega,λa P=>by
            have P:a<I.n:=P;show(if a<A.n then I.ν a else _)=I.ν a;rw[TJ (by rw[D.n,hn2,<-hs.n];exact P)],by show I.q<=A.c+_;have:=hs3.q;have h6:I.q=A.c:=this;omega,λc U=>by
            have U:c<I.q:=U;have h6:I.q=A.c:=hs3.q;show(if c<A.c then I.κ c else _)=I.κ c;rw[TJ<|by omega]⟩
          refine g2.trans ⟨D.e.trans gB,λa P ho hr=> ?_,hle,hJ⟩;have ha3:a<C:=by show a<A.n;rw[D.n];exact P
          show(match back ρ C no a with|some i=>sgW W i|none=>if a<C then seg2 a else [])=seg2 a;cases hb:back ρ C no a with
          |none=>exact TJ ha3
          | some i=>
            exfalso;obtain⟨hin',hsg⟩:=Ql hb;have B:ZK ρ i=some (some a):=by
              by_cases B:∃a',ZK ρ i=some (some a')
              . obtain⟨a',e⟩:=B;rw[<-hsg,ZCu e];exact e
              . exfalso;have hg:sg ρ C i=C+i:=by
                  unfold sg;split
                  . rename_i a e2;exact absurd ⟨a,e2⟩ B
                  . rfl
                omega
            obtain⟨mr,er⟩:=gB.r;by_cases U:∃n ps,S.o.bs[i]? =some (.cells n ps)
            . obtain⟨n,ps,ec⟩:=U;obtain⟨f1,f2⟩:=Q i n ps ec a B;obtain⟨cs2,g1,g3⟩:=ib3 i n ps ec;rw[Te,hsg]at g1;obtain⟨q,hq,hqe⟩:=ZHd (o:=A.o) g1 (by intro e;simp only at e;rw[e]at g3;simp at g3;omega);refine ho q ?_ hqe;rw[<-D.o];exact hq
            . obtain⟨_,⟨q,hq,hqe⟩,_⟩:=hrow i hin' (λn ps e=>U ⟨n,ps,e⟩) a B;refine hr q ?_ hqe;rw[em3,YM]at hq;rw[er,em3,<-TE,YM];exact Ri _ hq
        have fin:=X _ us _ _ _ _ _ hgo h5 v1 hs4;exact λa w hh=>fin a w<|ZJA hh hperm
theorem ZNq (q:x.P=X.P){f:Nat}{p:Operand}{as:Array Operand}{ts:Array TypeId}{first cap:List Value}{vs:List Value}{cs:List CV}(z:evo l p=some (.func (.func f) first.toArray cap.toArray))(A:as.toList.mapM (evo l)=some vs)
 {L:List Spec}{k:PS->Option β}(t:∀S∈L,Enters X.P f/\FnOk X.P f S.i S.o S.f)(hs:RS x s I seg l own H)(B:VRs I cs (first++(vs++cap)))(h:callK s cs (λus s=>s.put d (packC us) k) L=some r)(C:Knt x ops Q rest s I seg l H (some d) k r):
  JL x ops Q (⟨some d,.call ⟨.value p,as,ts⟩,ty,pos,aft,none⟩::rest) l own H:=by
 cases L with
 |nil=>cases h
 |cons E L=>
 have c:Enters x.P f:=by rw[q];exact(t E<|by simp).1
 refine ZHp (xf:=x) (Kc:=λa w=>wpLs x.P x.r ops Q (⟨some d,.call ⟨.value p,as,ts⟩,ty,pos,aft,none⟩::rest) a w) (Kf:=λv a w=>wpLs x.P x.r ops Q rest a w) (lf:=λv=>(d,v)::l) (DO:=Does x.P f) (vs:=first++(vs++cap)) (k:=λus s=>s.put d (packC us) k) ?_ (λS F=>by rw[q];exact(t S F).2) hs B h ?_
 . rintro K rst own H R ⟨us,s',G,b⟩ J D M;obtain⟨u,y⟩:=YZ b;rw[show(first++(vs++cap)).toArray=first.toArray++vs.toArray++cap.toArray by simp]at D;exact ZH4 c z A J D (by rw[<-G];exact u) λv K' H' N e _=>M v K' H' N e
 . intro us g s' I' seg' own' H' j O m n;obtain⟨u,y⟩:=YZ O;exact C _ _ _ (Ow.pack g) _ _ (j.trans<|Go.st _ _ _ _ d<|packC us) y<|n.put (d:=d) (ZPU m)
end
section
variable{β:Type}{r:β}{x:Cx}{X:Env}{s:PS}{I:In}{seg:Nat->Own}{l:Slots}{own:List Own}{H:Heaplet}
variable{ops:Array Oper}{Q:Exit->Act->World->Prop}{rest:List Oper}{ty:TypeId}{d:Nat}{pos:String}{aft:Array Edge}
theorem RS.cnt (hs:RS x s I seg l own H)(j:Nat):RS x ⟨s.N,s.l,s.o,s.z,s.n,s.f,s.c+1,s.r⟩ {I with κ:=upN I.κ s.c j,q:=s.c+1} seg l own H:=by
 have h:I.Le {I with κ:=upN I.κ s.c j,q:=s.c+1}:=⟨Rz _,TF _,λ_ _=>rfl,by show I.q<=s.c+1;rw[hs.q];omega,λk b=>Zg (by rw[hs.q]at b;omega)⟩;refine⟨hs.N,hs.H,hs.n,rfl,hs.own,λt c e=> ?_,hs.ze,λa o c e=> ?_,λc d=> ?_,hs.rw,hs.rz,hs.ro⟩
 . exact(hs.sl t c e).imp id fun⟨v,h1,h2⟩=>⟨v,h1,h2.mono h⟩
 . exact(hs.ce a o c e).imp id fun⟨h1,cur,T,v,h2,h3,g⟩=>⟨h1,cur,T,v,h2,h3,g.mono h⟩
 . obtain⟨h1,h2⟩:=hs.fx c d;exact⟨SV h1,by show upN I.κ s.c j c<MAX;rw[Zg<|by omega];exact h2⟩
theorem Ext.cnt (s:PS):Ext s ⟨s.N,s.l,s.o,s.z,s.n,s.f,s.c+1,s.r⟩:=⟨rfl,⟨[],rfl⟩,⟨[],rfl⟩,⟨[],rfl,by simp⟩,TF _,⟨[],rfl⟩,RJ _,⟨[],rfl⟩⟩
theorem ZMt{op:BinOp}{a b:CV}(h:isInc s op a b=true):op=.add/\∃c m,a=.n c m/\b=.i 1/\c∈s.f:=by
 unfold isInc at h;split at h
 . rename_i c m n;simp only[TD]at h;refine⟨rfl,c,m,rfl,?_,XX.1 h.2⟩;have h1:=h.1;cases n with
   |ofNat y=>rw[TA<|show Nat.beq y 1=true from h1];rfl
   |negSucc y=>cases h1
 . cases h
theorem ZMf (hs:RS x s I seg l own H)(b:Nat):I.Le {I with ν:=upN I.ν s.n (b,.nilIface),n:=s.n+1}:=⟨Rz _,by show I.n<=s.n+1;rw[hs.n];omega,λk h=>Zg (by rw[hs.n]at h;omega),TF _,λ_ _=>rfl⟩
theorem ZSz (hs:RS x s I seg l own H)(j:Nat):I.Le {I with κ:=upN I.κ s.c j,q:=s.c+1}:=⟨Rz _,TF _,λ_ _=>rfl,by show I.q<=s.c+1;rw[hs.q];omega,λk h=>Zg (by rw[hs.q]at h;omega)⟩
theorem ZPq (hs:RS x s I seg l own H){p q:Operand}{t u:TypeId}{a b:CV}{v w:Value}{op:BinOp}{k:PS->Option β}(h1:evo l p=some v)(g:VR I a v)(h2:evo l q=some w)(hb:VR I b w)(hi:isInc s op a b=true)(h:incr s d a k=some r)(i:Knt x ops Q rest s I seg l H (some d) k r):
 JL x ops Q (⟨some d,.binOp op t p q u,ty,pos,aft,none⟩::rest) l own H:=by
 obtain⟨rfl,c,m,rfl,rfl,j⟩:=ZMt hi;simp only[VR]at g hb;obtain⟨D,y,rfl⟩:=g;subst hb;have h:PS.put ⟨s.N,s.l,s.o,s.z,s.n,s.f,s.c+1,s.r⟩ d (.n s.c (m+1)) k=some r:=h;obtain⟨A,B⟩:=YZ h;have e:=(hs.fx c j).2;rw[y]at e;have C:w64 ((m:Int)+1)=((m+1:Nat):Int):=by rw[Jg (by omega) (by simp only[MAX]at e;omega)];simp
 refine ZA (by rw[<-hs.N];exact A) rfl (BT h1 h2)<|i _ _ _ _ _ _ ⟨(Ext.cnt s).trans<|Ext.st _ _ _,Sg.of λ_ _=>rfl,Rz _,ZSz hs _⟩ B<|(hs.cnt (m+1)).put ?_;simp only[VR];exact⟨SD _,Zl _ _ _,by rw[C]⟩
theorem ZQ9{c:CV}{v:Value}(d:VR I c v)(h:oneC c=true):v.oneCell'=true:=by
 cases c with
 |ag m=>cases h
 |tu m=>cases h
 |und=>cases h
 |any=>cases h
 |unk=>cases h
 |sl t m=>simp only[VR]at d;obtain⟨ao,cap,rfl⟩:=d.val;rfl
 |cl t m=>simp only[VR]at d;obtain⟨_,ao,rfl⟩:=d;rfl
 |rv t j g=>simp only[VR]at d;obtain⟨_,n,⟨⟨ao,cap,rfl⟩,_⟩,_⟩:=d;rfl
 |sv j n=>simp only[VR]at d;obtain⟨_,rfl⟩:=d;rfl
 |n c j=>simp only[VR]at d;obtain⟨h1,h2,rfl⟩:=d;rfl
 |row j=>simp only[VR]at d;obtain⟨h1,h2,a,n,c,rfl⟩:=d;rfl
 |rel t j i o=>simp only[VR]at d;obtain⟨h1,b,q,h2,rfl⟩:=d;rfl
 |oel t y=>simp only[VR]at d;rcases d with⟨_,rfl⟩|⟨z,_,b,q,cs,rfl,_⟩<;>rfl
 |orel t j y=>simp only[VR]at d;rcases d with⟨_,rfl⟩|⟨z,_,_,b,q,_,rfl⟩<;>rfl
 |clo f l m=>simp only[VR]at d;obtain⟨us,ws,rfl,_,_⟩:=d;rfl
 |ln j=>simp only[VR]at d;obtain⟨h1,rfl⟩:=d;rfl
 |bc c m j=>simp only[VR]at d;obtain⟨h1,h2,h3,rfl⟩:=d;rfl
 |ptr a o=>simp only[VR]at d;obtain⟨h1,rfl⟩:=d;rfl
 |el t y o=>simp only[VR]at d;obtain⟨b,q,cs,rfl,h2⟩:=d;rfl
 |_=>simp only[VR]at d;subst d;rfl
theorem DQ:∀{m:List CV} {vs:List Value},VRs I m vs->allB oneC m=true->vs.all (·.oneCell')=true
  |[],vs,b,h=>by cases b.un0;rfl
  | c::m,vs,b,h=>by
    obtain⟨v,us,rfl,h1,h2⟩:=b.un;have h:=Zd.1 h;simp only[RY,TD];exact⟨ZQ9 h1 (h c<|by simp),DQ h2<|Zd.2 λa d=>h a<|by simp[d]⟩
theorem ZNP:∀(t:Ty) (y:den t),allB oneC (spC t y)=true:=λt=>by
  induction t with
  |st k=>intro y;cases k<;>rfl
  | pr a b i d=>
    intro y;refine Zd.2 λc e=> ?_;rcases TR.1 (show c∈spC a y.1++spC b y.2 from e)with h|h
    . exact Zd.1 (i _) c h
    . exact Zd.1 (d _) c h
  |_=>intro y;rfl
theorem ZLz (t:Ty)(y:den t):Yw (dV t y)=spC t y:=by cases t<;>rfl
theorem RT.one (t:Ty):(RT t).One:=λH cs y h=>by
 have h1:=(RT.cells (I:=⟨H,λ_=>(0,.nilIface),0,λ_=>0,0⟩) t y cs).1 h;have h2:=DQ h1<|ZNP t y;exact λu a=>Ti.1 h2 u a
theorem ZM7{t:Ty}{y:den t}{v:Value}(h:VR I (dV t y) v):RT t I.H v.cells.toList y/\v.cells.toList.length=szY t:=by
 have h1:=GZ h (.inl (by rw[ZLz];exact ZNP t y));rw[ZLz]at h1;exact⟨(RT.cells t y _).2 h1,by rw[<-h1.length,ZNQ]⟩
theorem ZGu{t:Ty}:∀{cs:List CV} {k:List (den t)->Option β},oDl t cs k=some r->∃m,m.length=cs.length/\(∀(I:In) vs,VRs I cs vs->Flat I.H (RT t) (szY t) (vs.map (·.cells.toList)).flatten m/\vs.all (λu=>Nat.beq u.cells.size<|szY t)=true)/\k m=some r
  |[],k,h=>⟨[],rfl,λI vs a=>by cases a.un0;exact⟨rfl,rfl⟩,h⟩
  | c::cs,k,h=>by
    obtain⟨y,h1,h⟩:=ZRC<|show oD t c (λy=>oDl t cs λr=>k (y::r))=some r from h
    obtain⟨m,h2,h3,h⟩:=ZGu h;refine⟨y::m,by simp[h2],λI vs a=> ?_,h⟩;obtain⟨v,us,rfl,b,d⟩:=a.un;obtain⟨e,g⟩:=ZM7<|h1 _ _ b;obtain⟨f,i⟩:=h3 I us d;refine⟨⟨_,_,rfl,g,e,f⟩,?_⟩;simp only[RY,TD];refine⟨?_,i⟩;rw[TM]at g;rw[g];exact Nat.beq_refl _
theorem ZJb:∀l:List (Nat×CV),snds l=l.map (·.2)
 |[]=>rfl
 |p::l=>congrArg (p.2:: ·)<|ZJb l
theorem ZEN:∀{l:List (Nat×CV)} {vs:List (Nat×Value)} {i:Nat},idxOk l i=true->l.map (·.1)=vs.map (·.1)->vs=(List.range' i vs.length).zip (vs.map (·.2))
  |[],[],i,h,e=>rfl
  |[],v::vs,i,h,e=>by cases e
  |p::l,[],i,h,e=>by cases e
  | p ::l,v::vs,i,h,e=>by
    have h:(Bool.rec false (idxOk l (i+1)) (Nat.beq p.1 i):Bool)=true:=h;simp only[Tp,SS]at e;cases hb:Nat.beq p.1 i with
    |false=>rw[hb]at h;cases h
    | true=>
      rw[hb]at h;have h2:=ZEN h e.2;have h3:v.1=i:=(by rw[<-e.1];exact TA hb);simp only[Ts,S1,Tp,RQ];rw[<-h2,<-h3]
theorem R_count {P : Program} {o p q : Operand} {f : FuncId} {fn : Func} {m : List UInt8} {c : UInt8} {v : Value} {ts : Array TypeId} {own : List Own} (hP : x.P = P) (hf : P.funcs[f]? = some fn) (hname : (fn.name == "runtime.NumGoroutine") = false) (hb : fn.body.isNone = true)
    (hn:Extern.findNext fn=none) (he:Extern.find fn=some Extern.BytealgCount.count) (h0:evo l o=some (.func (.func f) #[] #[])) (h1:evo l p=some v) (hs:IsSlice H RU8 1 v m) (h2:evo l q=some (.int .u8 (c.toNat:Int))):
    Runs x (.call ⟨.value o,#[p,q],ts⟩) ty l own H (.int .i64 ((cntB m c:Nat):Int)):=λρ w _ _ _ _ hρ hm=>by
  subst hP;have e3:Array.map ρ #[p,q]= #[v,.int .u8 (c.toNat:Int)]:=by simp[hρ _ _ h1,hρ _ _ h2]
  have e1:ρ o=.func (.func f) #[] #[]:=hρ _ _ h0;simp only[execOp,resolve,e1,e3,Deferred.ofValue,Sem.run_bind,Sem.run_pure,Result.andThen,invoke];have:=run_callFunc_extern hf hname hb hn he #[v,.int .u8 (c.toNat:Int)] w;rw[ZOM hm.1 hs]at this;simpa[Result.andThen]using this
theorem R_index {P : Program} {o p q : Operand} {f : FuncId} {fn : Func} {m : List UInt8} {c : UInt8} {v : Value} {ts : Array TypeId} {own : List Own} (hP : x.P = P) (hf : P.funcs[f]? = some fn) (hname : (fn.name == "runtime.NumGoroutine") = false) (hb : fn.body.isNone = true)
    (hn:Extern.findNext fn=none) (he:Extern.find fn=some Extern.BytealgIndexByte.indexByte) (h0:evo l o=some (.func (.func f) #[] #[])) (h1:evo l p=some v) (hs:IsSlice H RU8 1 v m) (h2:evo l q=some (.int .u8 (c.toNat:Int))):
    Runs x (.call ⟨.value o,#[p,q],ts⟩) ty l own H (.int .i64<|Lib.indexByte m c):=λρ w _ _ _ _ hρ hm=>by
  subst hP;have e3:Array.map ρ #[p,q]= #[v,.int .u8 (c.toNat:Int)]:=by simp[hρ _ _ h1,hρ _ _ h2]
  have e1:ρ o=.func (.func f) #[] #[]:=hρ _ _ h0;simp only[execOp,resolve,e1,e3,Deferred.ofValue,Sem.run_bind,Sem.run_pure,Result.andThen,invoke];have:=run_callFunc_extern hf hname hb hn he #[v,.int .u8 (c.toNat:Int)] w;rw[ZMX hm.1 hs]at this;simpa[Result.andThen]using this
theorem ZSt (g:x.P=X.P)(hs:RS x s I seg l own H){o:Operand}{f:FuncId}{n:NK}{as:Array Operand}{ts:Array TypeId}{cs:List CV}{vs:List Value}{M:List Own->Heaplet->Prop}{k:CV->Option β}(hn:NtOk X.P f n)(i:∀o' d,M o' d->Hle H d)(h0:evo l o=some (.func (.func f) #[] #[]))(b:as.toList.mapM (evo l)=some vs)(B:VRs I cs vs)(h:ntC n cs k=some r):Yl x I (.call ⟨.value o,as,ts⟩) ty l M k r:=by
  unfold ntC at h;split at h
  . rename_i a c;obtain⟨m,e,h⟩:=Zw h;obtain⟨C,us,rfl,h1,h2⟩:=B.un;obtain⟨K,D,rfl,h3,E⟩:=h2.un;cases E.un0;have h1:=e.le _ _ h1;simp only[VR]at h1 h3;subst h3;rw[hs.H]at h1;obtain⟨fn,j,t,u,v,w⟩:=hn;obtain⟨y⟩:=as
    match y,b with
    | [p,q],b=>
      have e1:evo l p=some C/\evo l q=some (.int .u8 (c.toNat:Int)):=by
        simp only[SM,List.mapM_nil,RZ,T5,Option.pure_def]at b;obtain⟨z,e1,A,⟨F,e3,G,e4,e5⟩,e6⟩:=b;cases e4;cases e5;cases e6;exact⟨e1,e3⟩
      cases n with
      |count=>exact Yl.of (λo' d e=>R_count g j t u v w h0 e1.1 (IsSlice.mono RU8.mono (i o' d e) h1) e1.2) (by simp only[VR]) h
      |index=>exact Yl.of (λo' d e=>R_index g j t u v w h0 e1.1 (IsSlice.mono RU8.mono (i o' d e) h1) e1.2) (by simp only[VR]) h
    |[],b=>simp at b
    | [p],b=>
      exfalso;simp only[SM,List.mapM_nil,RZ,T5,Option.pure_def]at b;obtain⟨z,e1,A,e2,e6⟩:=b;cases e2;cases e6
    | p::q::L::y,b=>
      exfalso;simp only[SM,RZ,T5,Option.pure_def]at b;obtain⟨z,e1,A,⟨F,e3,G,⟨N,e5,O,J,e7⟩,e8⟩,e6⟩:=b;cases e7;cases e8;cases e6
  . cases h
theorem ZMY (y:EnvOk X)(g:x.P=X.P)(hs:RS x s I seg l own H){o:Op}{k:PS->Option β}(h:pop X s d o k=some r)(e:Knt x ops Q rest s I seg l H (some d) k r):JL x ops Q (⟨some d,o,ty,pos,aft,none⟩::rest) l own H:=by
 unfold pop at h;split at h
 . rename_i op T p q u;obtain⟨a,v,e1,e2,h⟩:=ZZ hs h;obtain⟨b,w,i,j,h⟩:=ZZ hs h;cases hi:isInc s op a b with
   |true=>rw[hi]at h;exact ZPq hs e1 e2 i j hi h e
   |false=>rw[hi]at h;exact ZJR hs rfl (ZD2 g hs (λ_ _ _ q=>q) h) e
 . rename_i T p;obtain⟨a,v,e1,e2,h⟩:=ZZ hs h;obtain⟨E,h⟩:=ZC h;obtain⟨A,B⟩:=ZLC h;have t:=GZ e2<|.inl E;refine Y6 e1 (by rw[<-hs.N];exact A) λb hb=>VJ ?_;refine e _ _ _ _ _ _ ⟨Ext.new s _ d,Sg.of λa C=>Zg<|Sq C,Rz _,ZMf hs _⟩ B<|(hs.new (T:=T) (b:=b) t).put ?_;simp only[VR];exact⟨SD _,by rw[show upN I.ν s.n (b,.nilIface) s.n=(b,.nilIface)from Zl _ _ _]⟩
 . rename_i T;obtain⟨z,m,D,t,h⟩:=ZNL (I:=I) h;obtain⟨A,B⟩:=ZLC h;rw[<-g]at D;refine JL.alloc D (by rw[<-hs.N];exact A) λb hb=>VJ ?_;refine e _ _ _ _ _ _ ⟨Ext.new s _ d,Sg.of λa C=>Zg<|Sq C,Rz _,ZMf hs _⟩ B<|(hs.new (T:=T) (b:=b) t).put ?_;simp only[VR];exact⟨SD _,by rw[show upN I.ν s.n (b,.nilIface) s.n=(b,.nilIface)from Zl _ _ _]⟩
 . rename_i f as ts;obtain⟨a,v,e1,e2,h⟩:=ZZ hs h;obtain⟨cs,vs,i,j,h⟩:=ZDR hs h;split at h
   . simp only[VR]at e2;subst e2;split at h
     . rename_i n hn;exact ZJR hs rfl (ZSt g hs (y.nt _ _ hn) (M:=AtM own H) (λo' J t=>by rw[t.2];exact Rz _) e1 i j h) e
     . exact ZNq g (first:=[]) (cap:=[]) e1 i (y.sp _) hs (by simpa using j) h e
   . simp only[VR]at e2;obtain⟨us,ws,rfl,F,G⟩:=e2;exact ZNq g e1 i (y.sp _) hs (VRs.append F<|VRs.append j G) h e
   . cases h
 . refine ZJR hs ?_ (ZD2 g hs (λ_ _ _ q=>q) h) e;obtain⟨c,v,_,_⟩:=ZD2 (ty:=0) (M:=AtM own H) g hs (λ_ _ _ q=>q) h;unfold pvl at h;split at h<;>first|rfl|(cases h;done)
theorem ZPQ (J:x.P=X.P)(hs:RS x s I seg l own H){o:Op}{k:PS->Option β}(h:pst X s o k=some r)(K:Knt x ops Q rest s I seg l H none k r):JL x ops Q (⟨none,o,ty,pos,aft,none⟩::rest) l own H:=by
  unfold pst at h;split at h
  . rename_i T p q;obtain⟨a,v,e1,e2,h⟩:=ZZ hs h;obtain⟨b,w,L,M,h⟩:=ZZ hs h;cases a with
    | ptr i of=>
      have h:(match ZE X.P T with|some (_,n)=>bb (Bool.and (Nat.ble 1 n)<|Bool.and (Nat.beq (Yw b).length n)<|allB oneC<|Yw b) (s.sto i of (Yw b) k) none|none=>none)=some r:=h;split at h
      . rename_i g n t;rw[<-J]at t;obtain⟨j,h⟩:=ZC h;simp only[TD]at j;obtain⟨u,j⟩:=j;have u:=TI u;have hn:=TA j.1;have y:=GZ M<|.inl j.2;have D:=y.length;have h:oB (ZK s.z i) (λm=>bb (Nat.ble (of+(Yw b).length) m) (ZH0 i (Yw b) of s.o λO=>k ⟨s.N,s.l,O,s.z,s.n,s.f,s.c,s.r⟩) none)=some r:=h;obtain⟨m,E,h⟩:=Zb h;obtain⟨d,h⟩:=ZC h;have d:=TI d;rw[BR]at h;simp only[VR]at e2;obtain⟨_,rfl⟩:=e2;obtain⟨R,cur,V,F,G⟩:=hs.ze _ _ E;have A:=hs.sto (o:=of) E y d F G;refine ZAL i t e1 L (by rw[YY hs R,F]) (by rw[<-hn,D,TM]) (DQ y j.2) (by rw[G,<-hn];exact d) ?_;rw[show of+n=of+w.cells.toList.length by rw[<-D,hn]];refine K ⟨s.N,s.l,entA i (Yw b) of s.o,s.z,s.n,s.f,s.c,s.r⟩ _ _ undef _ _ ⟨⟨rfl,⟨[],rfl⟩,WQ _ _ _ _,⟨[],rfl,by simp⟩,TF _,⟨[],rfl⟩,TF _,⟨[],rfl⟩⟩,λW S B _=>Zg λe=> ?_,Rz _,In.Le.refl _⟩ h A;obtain⟨q,U,C⟩:=ZCT (a:=i) (k:=of) (m:=s.o) (l:=Yw b) (by intro e;rw[e]at hn;simp at hn;omega);exact B q U<|C.trans e.symm
      . cases h
    |_=>cases h
  . cases h
end
section
variable{β:Type}{r:β}{x:Cx}{X:Env}{s:PS}{I:In}{seg:Nat->Own}{l:Slots}{own:List Own}{H:Heaplet}
variable{ops:Array Oper}{Q:Exit->Act->World->Prop}{rest:List Oper}
theorem ZQ4{os:List Operand}{k b:PS->Option β}{d:Option Nat}{o:Oper}(hs:RS x s I seg l own H)(h:pubL os s b=some r)(e:Knt x ops Q rest s I seg l H d k r)
 (f:∀s' I' seg' own' H',b s'=some r->RS x s' I' seg' l own' H'->Knt x ops Q rest s' I' seg' l H' d k r->JL x ops Q (o::rest) l own' H'):JL x ops Q (o::rest) l own H:=by
 have h:U4 (ownL s os) s b=some r:=h;rw[Vu]at h;exact Gs (js:=ownL s os) (K:=λa w=>wpLs x.P x.r ops Q (o::rest) a w) hs λseg' own' H' g c=>f _ _ _ _ _ h c<|e.go g
theorem ZGk (hs:RS x s I seg l own H){j n o:Nat}{t:Ty}{k:List (den t)->Option β}(h:ldN s j (n+1) o (λcs=>bb (allB oneC cs) (oDl t cs k) none)=some r)(ht:szY t=1):
    ∃m cur T,k m=some r/\m.length=n+1/\j<s.n/\seg j= [((I.ν j).1,.cells cur T (0,0))]/\((cur.toList.drop o).take (n+1)).length=n+1/\Flat I.H (RT t) 1 ((cur.toList.drop o).take (n+1)) m/\YS ((cur.toList.drop o).take (n+1)):=by
  obtain⟨cs,h,e,f⟩:=ZC9 hs h;obtain⟨i,h⟩:=ZC h;obtain⟨m,p,q,h⟩:=ZGu h;obtain⟨w,cur,T,e1,e2,e3⟩:=f.resolve_left (by omega);obtain⟨g,_⟩:=q I _ e2;rw[ht]at g;have a:∀u∈(cur.toList.drop o).take (n+1),u.oneCell'=true:=by
    have:=DQ e2 i;exact λu c=>Ti.1 this u c
  have b:(((cur.toList.drop o).take (n+1)).map (·.cells.toList)).flatten=(cur.toList.drop o).take (n+1):=by
    have d:∀(L:List Value),(∀v∈L,v.oneCell'=true)->(L.map (·.cells.toList)).flatten=L:=λL=>by
      induction L with
      |nil=>intro _;rfl
      | cons v L ih=>
        intro h;have h1:v.cells.toList= [v]:=by
          have:=h v (by simp);cases v<;>first|rfl|(simp[Value.oneCell']at this;done)
        rw[Tp,TP,h1,ih λu c=>h u<|by simp[c]];rfl
    exact d _ a
  rw[b]at g;exact⟨m,cur,T,h,by rw[p,e],w,e1,e3,g,a⟩
theorem ZGV{d:List Own}{P:Program}{U:Nat}{t:Ty}{b:CV}{v:Value}{k:List (den t)->Option β}(F:x.P=P)(hs:RS x s I seg l d H)(f:∀j,j<s.n->own[j]? =some (seg j))(c:VR I b v)(h:ZMT s P U t b k=some r):∃m,SrcR x H own (RT t) (szY t) U v m/\k m=some r:=by
 have A:=hs.H;unfold ZMT at h;split at h
 . rename_i e a;rw[<-F]at a;split at h
   . rename_i u m;obtain⟨q,h⟩:=Zp h;cases q;simp only[VR]at c;rw[A]at c;exact⟨m,SrcR.slice (RT.one t) a c,h⟩
   . rename_i u m;obtain⟨q,h⟩:=Zp h;cases q;simp only[VR]at c;rw[A]at c;exact⟨m,SrcR.slice (RT.one t) a c.1,h⟩
   . simp only[VR]at c;subst c;exact⟨[],SrcR.slice (RT.one t) a<|IsSlice.nil _ _ _,h⟩
   . rename_i j;split at h
     . rename_i u E m G;obtain⟨q,h⟩:=Zp h;cases q;obtain⟨J,B⟩:=(hs.rw _ _ G).resolve_left (by simp);have B:RowOf I.H (RT t) 0 E (szY t) (I.ν j).2 m (seg j):=B;rw[A]at B;obtain⟨_,rfl,_⟩:=VR_row c;exact⟨m,SrcR.row j a (f j J) B,h⟩
     . cases h
   . rename_i j o n;split at h
     . rename_i N;obtain⟨g,h⟩:=ZC h;have g:=TA g;obtain⟨m,cur,T,K,C,L,p,y,z,hone⟩:=ZGk hs h g;simp only[VR]at c;obtain⟨_,rfl⟩:=c;rw[A]at z;refine⟨m,⟨_,by rw[g];exact z,hone,λw M=> ?_⟩,K⟩;have D:=(Zm M<|(f j L).trans<|by rw[p]).here ((I.ν j).1,.cells cur T (0,0)) (by simp);rw[g,C];refine Src.ofSlice w a ⟨(I.ν j).1,o,none⟩ _ _ _ (by rw[y,SY]) (λi u a=> ?_) hone;rw[add_lit];refine ZK2 D ?_;rw[TX]at a;split at a
       . rw[SF]at a;simpa using a
       . cases a
     . cases h
   . cases h
 . rename_i a;rw[<-F]at a;split at h
   . rename_i m;obtain⟨q,h⟩:=Zp h;cases q;simp only[VR]at c;subst c;exact⟨m,OT a,h⟩
   . cases h
 . cases h
theorem ZHz{a b bt:Nat}(h:a+b<=LIM)(hb:bt<=128):a+b<=maxLen/\(a+b)*bt<=140737488355328:=by
 unfold LIM at h;refine⟨by unfold maxLen;omega,?_⟩;exact TS (Nat.mul_le_mul h hb)<|by decide
theorem GJ{own:List Own}{j:Nat}{K:Own}(h:j<own.length):(own.set j K).flatten.Perm (own.set j []++ [K]).flatten:=by
 rw[RI,RI,TJ h,TJ h];simp only[TW,TP,RM,Sy,Th,TE];exact Sw _ Tc
theorem Q3{d:Nat}{t:Ty}{E:Nat}{m:List (den t)}{k:PS->Option β}(h:s.row d t E m k=some r):Nat.blt d s.N=true/\k (PS.st ⟨s.N,s.l,s.o,s.z,s.n+1,s.f,s.c,(s.n,.own t E m)::s.r⟩ d<|.row s.n)=some r:=YZ (s:=⟨s.N,s.l,s.o,s.z,s.n+1,s.f,s.c,(s.n,.own t E m)::s.r⟩) h
theorem Ext.newRow (s:PS)(t:Ty)(E:Nat)(m:List (den t))(d:Nat):Ext s (PS.st ⟨s.N,s.l,s.o,s.z,s.n+1,s.f,s.c,(s.n,.own t E m)::s.r⟩ d<|.row s.n):=⟨rfl,⟨[(d,.row s.n)],rfl⟩,⟨[],rfl⟩,⟨[],rfl,by simp⟩,RJ _,⟨[],rfl⟩,TF _,⟨[(s.n,.own t E m)],rfl⟩⟩
theorem ZEE{d:Nat}{E:Nat}{m:List UInt8}{k:PS->Option β}(h:s.mrow d E m k=some r):Nat.blt d s.N=true/\k (PS.st ⟨s.N,s.l,s.o,s.z,s.n+1,s.f,s.c,(s.n,.mrk E m)::s.r⟩ d<|.row s.n)=some r:=YZ (s:=⟨s.N,s.l,s.o,s.z,s.n+1,s.f,s.c,(s.n,.mrk E m)::s.r⟩) h
theorem RS.putM (hs:RS x s I seg l own H){E d:Nat}{m:List UInt8}{v:Value}{K:Own}(h:RowOfM H RU8 0 E 1 v m K):
 RS x (PS.st ⟨s.N,s.l,s.o,s.z,s.n+1,s.f,s.c,(s.n,.mrk E m)::s.r⟩ d<|.row s.n) {I with ν:=upN I.ν s.n (0,v),n:=s.n+1} (upN seg s.n K) ((d,v)::l) (own++ [K]) H:=by
 refine(hs.newRC (rc:=.mrk E m) h).put ?_;simp only[VR];obtain⟨ao,cap,e⟩:=h.val;exact⟨SD _,by rw[Zl],ao,_,cap,e⟩
theorem Go.newRC{rc:RC}{d:Nat}{v:Value}{K:Own}(hs:RS x s I seg l own H):Go s I seg H (PS.st ⟨s.N,s.l,s.o,s.z,s.n+1,s.f,s.c,(s.n,rc)::s.r⟩ d<|.row s.n) {I with ν:=upN I.ν s.n (0,v),n:=s.n+1} (upN seg s.n K) H:=
 ⟨⟨rfl,⟨[(d,.row s.n)],rfl⟩,⟨[],rfl⟩,⟨[],rfl,by simp⟩,RJ _,⟨[],rfl⟩,TF _,⟨[(s.n,rc)],rfl⟩⟩,Sg.of λa h=>Zg<|Sq h,Rz _,ZMe hs v⟩
theorem RS.putRow (hs:RS x s I seg l own H){t:Ty}{E d:Nat}{m:List (den t)}{v:Value}{K:Own}(h:RowOf H (RT t) 0 E (szY t) v m K):
 RS x (PS.st ⟨s.N,s.l,s.o,s.z,s.n+1,s.f,s.c,(s.n,.own t E m)::s.r⟩ d<|.row s.n) {I with ν:=upN I.ν s.n (0,v),n:=s.n+1} (upN seg s.n K) ((d,v)::l) (own++ [K]) H:=by
 refine(hs.newRow h).put ?_;simp only[VR];obtain⟨ao,cap,e,_⟩:=h.len;exact⟨SD _,by rw[Zl],ao,_,cap,e⟩
theorem Go.newRow{t:Ty}{E d:Nat}{m:List (den t)}{v:Value}{K:Own}(hs:RS x s I seg l own H):Go s I seg H (PS.st ⟨s.N,s.l,s.o,s.z,s.n+1,s.f,s.c,(s.n,.own t E m)::s.r⟩ d<|.row s.n) {I with ν:=upN I.ν s.n (0,v),n:=s.n+1} (upN seg s.n K) H:=
 ⟨Ext.newRow s t E m d,Sg.of λa h=>Zg<|Sq h,Rz _,ZMe hs v⟩
theorem OS{α:Type}{H:Heaplet}{R:Rep α}{size:Nat}{c a:List Value}{l b:List α}(h1:Flat H R size c l)(h2:Flat H R size a b):Flat H R size (c++a) (l++b):=Flat.append h2 h1
theorem ZRi{ty:TypeId}{d:Nat}{pos:String}{aft:Array Edge}(O:x.P=X.P)(hs:RS x s I seg l own H){p q:Operand}{T U:Nat}{a b:CV}{v w:Value}{k:PS->Option β}(h1:evo l p=some v)(C:VR I a v)(h2:evo l q=some w)(hb:VR I b w)
 (h:appS X s d T U a b k=some r)(hk:Knt x ops Q rest s I seg l H (some d) k r):JL x ops Q (⟨some d,.call ⟨.builtin .append,#[p,q],#[T,U]⟩,ty,pos,aft,none⟩::rest) l own H:=by
 unfold appS at h;split at h
 . rename_i E y;split at h
   . rename_i z sz bt J;obtain⟨A,h3⟩:=ZC h;clear h;have A:=TI A;split at h3
     . rename_i j;split at h3
       . rename_i t E' m e;obtain⟨B,L⟩:=ZC h3;clear h3;simp only[TD]at B;have e1:=TA B.1;have e2:=TA B.2;subst e1 e2;obtain⟨m2,g,D⟩:=ZGV (own:=own) (x:=x) O hs (λj G=>YY hs G) hb L;obtain⟨q',rfl,S,F⟩:=Xg D;obtain⟨g1,V⟩:=(hs.rw _ _ e).resolve_left (by simp);have V:RowOf I.H (RT t) 0 E' (szY t) (I.ν j).2 m (seg j):=V;rw[hs.H]at V;simp only[VR]at C;obtain⟨_,rfl,_⟩:=C;have F:PS.row ⟨s.N,s.l,s.o,s.z,s.n,s.f,s.c,(j,.dead)::s.r⟩ d t E' (m++m2) k=some r:=F;obtain⟨W,Y⟩:=Q3 F;obtain⟨f3,f4⟩:=ZHz S A;have hjl:j<own.length:=(by rw[hs.own];simpa using g1);rw[<-O]at y J;refine JL.app j y J h1 (YY hs g1) V h2 g f3 f4 (TQ _) (by rw[<-hs.N];exact W) λv' K' Z=> ?_;have hs2:=(hs.setRow (c:=.dead) e (by simp) (K:=[]) trivial).putRow (d:=d) Z;have hj2:=hk _ _ _ _ _ _ (Go.trans ⟨Ext.row s j .dead,Sg.setRow,Rz _,In.Le.refl _⟩<|Go.newRow<|hs.setRow (c:=.dead) e (by simp) (K:=[]) trivial) Y hs2;exact λa w hh=>hj2 a w<|hperm hh<|GJ hjl
       . rename_i E' m e;obtain⟨B,L⟩:=ZC h3;clear h3;simp only[TD]at B;have e1:=TA B.1;have e2:=TA B.2;subst e1 e2;obtain⟨m2,g,D⟩:=ZGV (own:=own) (x:=x) (t:=.w8) O hs (λj G=>YY hs G) hb L;obtain⟨q',rfl,S,F⟩:=Xg D;obtain⟨g1,V⟩:=(hs.rw _ _ e).resolve_left (by simp);have V:RowOfM I.H RU8 0 E' 1 (I.ν j).2 m (seg j):=V;rw[hs.H]at V;simp only[VR]at C;obtain⟨_,rfl,_⟩:=C;have F:PS.mrow ⟨s.N,s.l,s.o,s.z,s.n,s.f,s.c,(j,.dead)::s.r⟩ d E' (m++m2) k=some r:=F;obtain⟨W,Y⟩:=ZEE F;have hjl:j<own.length:=(by rw[hs.own];simpa using g1);rw[<-O]at y J;refine ZSK (HF:=H) j y J h1 (YY hs g1) V h2 g rfl S (SC A) (TQ _) (by rw[<-hs.N];exact W) λv' K' Z=> ?_;have hs2:=(hs.setRow (c:=.dead) e (by simp) (K:=[]) trivial).putM (d:=d) Z;have hj2:=hk _ _ _ _ _ _ (Go.trans ⟨Ext.row s j .dead,Sg.setRow,Rz _,In.Le.refl _⟩<|Go.newRC<|hs.setRow (c:=.dead) e (by simp) (K:=[]) trivial) Y hs2;exact λa w hh=>hj2 a w<|hperm hh<|GJ hjl
       . cases h3
     . rename_i t m;obtain⟨B,L⟩:=ZC h3;clear h3;have e2:=TA B;subst e2;obtain⟨m2,g,D⟩:=ZGV (own:=own) (x:=x) O hs (λj G=>YY hs G) hb L;obtain⟨M,D⟩:=ZI D;obtain⟨q',rfl,S,F⟩:=Xg D;obtain⟨W,Y⟩:=Q3 F;simp only[VR]at C;obtain⟨C,ao,rfl⟩:=C;rw[hs.H]at C;rw[<-O]at y J;refine ZSL (HF:=H) (H1:=H) y J h1 (RT.one t) (Rz _) C (λ_ _ h=>h) h2 g (by intro e;rw[e]at M;simp at M) rfl S (SC A) (by rw[<-hs.N];exact W) λv' K' Z=>VJ ?_;exact hk _ _ _ _ _ _ (Go.newRow hs) Y<|hs.putRow<|Z.weak<|TQ _
     . rename_i j o n;split at h3
       . rename_i t n' ht;obtain⟨B,L⟩:=ZC h3;clear h3;simp only[TD]at B;have e2:=TA B.1;have e3:=TA B.2;subst e2;obtain⟨m,cur,T',L,hml,G,hseg,hlen,hfl,hone⟩:=ZGk hs L e3;obtain⟨m2,g,D⟩:=ZGV (own:=own) (x:=x) O hs (λj G=>YY hs G) hb L;obtain⟨M,D⟩:=ZI D;obtain⟨q',rfl,S,F⟩:=Xg D;obtain⟨W,Y⟩:=Q3 F;simp only[VR]at C;obtain⟨_,rfl⟩:=C;rw[hs.H]at hfl;rw[<-O]at y J;rw[e3]at J g;refine ZSM (HF:=H) (R:=RT t) j (cells:=(cur.toList.drop o).take (n'+1)) (ls:=m) y J (by rw[YY hs G,hseg]) (by rw[hml];exact h1) hfl hone (λi u y=> ?_) h2 g (by intro e;rw[e]at M;simp at M) rfl S (SC A) (by rw[<-hs.N];exact W) (λv' K' Z=>VJ ?_)
         . rw[TX]at y;split at y
           . rw[SF]at y;simpa using y
           . cases y
         . exact hk _ _ _ _ _ _ (Go.newRow hs) Y<|hs.putRow (by rw[e3];exact Z.weak<|TQ _)
       . cases h3
     . split at h3
       . rename_i t ht;obtain⟨B,L⟩:=ZC h3;clear h3;have e2:=TA B;subst e2;obtain⟨m2,g,D⟩:=ZGV (own:=own++ [[]]) (x:=x) O hs (λj G=>by rw[SH (by rw[hs.own];simpa using G)];exact YY hs G) hb L;obtain⟨q',rfl,S,F⟩:=Xg D;obtain⟨W,Y⟩:=Q3 F;obtain⟨f3,f4⟩:=ZHz S A;simp only[VR]at C;subst C;rw[<-O]at y J;have hlen:own.length=s.n:=(by rw[hs.own];simp);have key:JL x ops Q (⟨some d,.call ⟨.builtin .append,#[p,q],#[T,U]⟩,ty,pos,aft,none⟩::rest) l (own++ [[]]) H:=by
          refine JL.app own.length (K:=[]) y J h1 (by simp) (RowOf.nil H (RT t) 0 E<|szY t) h2 g f3 f4 (TQ _) (by rw[<-hs.N];exact W) λv' K' Z=> ?_;have e9:(own++ [([]:Own)]).set own.length K'=own++ [K']:=(by simp);rw[e9];exact hk _ _ _ _ _ _ (Go.newRow hs) Y<|hs.putRow Z
         exact λa w hh=>key a w<|hperm hh<|by simp
       . cases h3
     . cases h3
   . cases h
 . cases h
theorem ZJV:∀{l:List Value} {k:List CV->Option β},vCs l k=some r->∃m,(∀I,VRs I m l)/\k m=some r
  |[],k,h=>⟨[],λ_=>VRs.nil,h⟩
  | v::l,k,h=>by
    obtain⟨c,e,h⟩:=Zb<|show oB (vC v) (λc=>vCs l λr=>k (c::r))=some r from h
    obtain⟨m,e2,h⟩:=ZJV h;exact⟨c::m,λI=>VRs.cons (ZJW e)<|e2 I,h⟩
theorem ZGL{z:Value}{t:Ty}{b:CV}{w:Value}{k:List (den t)->Option β}(hb:VR I b w)(h:zrL z t b k=some r):∃(y:den t) (n:Int),(∀H,RT t H z.cells.toList y)/\w=.int .i64 n/\∃a,a=List.replicate n.toNat y/\(0<=n/\n.toNat<=LIM)/\k a=some r:=by
 obtain⟨c,d,h⟩:=ZJV<|show vCs z.cells.toList (λc=>oT t c λy=>oI b λn=>mks n y k)=some r from h
 obtain⟨y,h,e⟩:=JG h;obtain⟨n,hn,h⟩:=Zy h;have e1:=hn.le _ _ hb;simp only[VR]at e1;obtain⟨m,e2,e3,h⟩:=Ud h;exact⟨y,n,λH=>(RT.cells t y _).2<|e.le {I with H:=H} _<|d _,e1,m,e2,e3,h⟩
theorem ZRh{ty:TypeId}{d:Nat}{pos:String}{aft:Array Edge}(Y:x.P=X.P)(hs:RS x s I seg l own H){p q:Operand}{T U:Nat}{a b:CV}{v w:Value}{k:PS->Option β}(hi:isInt X.P U=true)(h1:evo l p=some v)(A:VR I a v)(h2:evo l q=some w)(hb:VR I b w)
 (h:appZ X s d T a b k=some r)(hk:Knt x ops Q rest s I seg l H (some d) k r):JL x ops Q (⟨some d,.call ⟨.builtin .append,#[p,q],#[T,U]⟩,ty,pos,aft,none⟩::rest) l own H:=by
 unfold appZ at h;obtain⟨kn,B⟩:=ZHV hi;rw[<-Y]at B;split at h
 . rename_i E G;split at h
   . rename_i z sz bt J;obtain⟨i,h3⟩:=ZC h;clear h;have i:=TI i;split at h3
     . rename_i j;split at h3
       . rename_i t E' m e;obtain⟨C,M⟩:=ZC h3;clear h3;simp only[TD]at C;have e1:=TA C.1;have e2:=TA C.2;subst e1 e2;obtain⟨y,n,O,u,m2,g,hn,D⟩:=ZGL hb M;obtain⟨q',rfl,L,F⟩:=Xg D;obtain⟨g1,Z⟩:=(hs.rw _ _ e).resolve_left (by simp);have Z:RowOf I.H (RT t) 0 E' (szY t) (I.ν j).2 m (seg j):=Z;rw[hs.H]at Z;simp only[VR]at A;obtain⟨_,rfl,_⟩:=A;have F:PS.row ⟨s.N,s.l,s.o,s.z,s.n,s.f,s.c,(j,.dead)::s.r⟩ d t E' (m++m2) k=some r:=F;obtain⟨R,S⟩:=Q3 F;subst u;have hjl:j<own.length:=(by rw[hs.own];simpa using g1);rw[<-Y]at G J;refine ZML (HF:=H) j G B J h1 (YY hs g1) Z h2 O (RT.one t) g hn rfl L (SC i) (TQ _) (by rw[<-hs.N];exact R) λv' K' V=> ?_;have hs2:=(hs.setRow (c:=.dead) e (by simp) (K:=[]) trivial).putRow (d:=d) V;have hj2:=hk _ _ _ _ _ _ (Go.trans ⟨Ext.row s j .dead,Sg.setRow,Rz _,In.Le.refl _⟩<|Go.newRow<|hs.setRow (c:=.dead) e (by simp) (K:=[]) trivial) S hs2;exact λa w hh=>hj2 a w<|hperm hh<|GJ hjl
       . cases h3
     . rename_i t m;obtain⟨C,M⟩:=ZC h3;clear h3;have e2:=TA C;subst e2;obtain⟨y,n,O,u,m2,g,hn,D⟩:=ZGL hb M;obtain⟨W,D⟩:=ZI D;obtain⟨q',rfl,L,F⟩:=Xg D;obtain⟨R,S⟩:=Q3 F;subst u;simp only[VR]at A;obtain⟨A,ao,rfl⟩:=A;rw[hs.H]at A;rw[<-Y]at G J;obtain⟨N,rfl⟩:=SQ hn.1;have hN:(N:Int).toNat=N:=rfl;rw[hN]at g hn;subst g;rw[SG]at W L;refine ZQg (HF:=H) (H1:=H) G B J h1 (RT.one t) (Rz _) A (λ_ _ h=>h) h2 O (SC W) rfl L (SC i) (by rw[<-hs.N];exact R) λv' K' V=>VJ ?_;exact hk _ _ _ _ _ _ (Go.newRow hs) S<|hs.putRow<|V.weak<|TQ _
     . split at h3
       . rename_i t ht;obtain⟨C,M⟩:=ZC h3;clear h3;have e2:=TA C;subst e2;obtain⟨y,n,O,u,m2,g,hn,D⟩:=ZGL hb M;obtain⟨q',rfl,L,F⟩:=Xg D;obtain⟨R,S⟩:=Q3 F;subst u;simp only[VR]at A;subst A;rw[<-Y]at G J;have hlen:own.length=s.n:=(by rw[hs.own];simp);have key:JL x ops Q (⟨some d,.call ⟨.builtin .append,#[p,q],#[T,U]⟩,ty,pos,aft,none⟩::rest) l (own++ [[]]) H:=by
          refine ZML (HF:=H) own.length (K:=[]) G B J h1 (by simp) (RowOf.nil H (RT t) 0 E<|szY t) h2 O (RT.one t) g hn rfl L (SC i) (TQ _) (by rw[<-hs.N];exact R) λv' K' V=> ?_;have e9:(own++ [([]:Own)]).set own.length K'=own++ [K']:=(by simp);rw[e9];exact hk _ _ _ _ _ _ (Go.newRow hs) S<|hs.putRow V
         exact λa w hh=>key a w<|hperm hh<|by simp
       . cases h3
     . cases h3
   . cases h
 . cases h
theorem ZRc (q:x.P=X.P)(hs:RS x s I seg l own H){ty:TypeId}{d:Nat}{pos:String}{aft:Array Edge}{T n:Nat}{ps:Array (Nat×Operand)}{cs:List (Nat×CV)}{vs:List (Nat×Value)}{k:PS->Option β}(e1:ps.toList.mapM (λp=>(evo l p.2).map λu=>(p.1,u))=some vs)(e2:cs.map (·.1)=vs.map (·.1))(e3:VRs I (cs.map (·.2)) (vs.map (·.2)))
 (h:bslR X s d T n cs k=some r)(v:Knt x ops Q rest s I seg l H (some d) k r):JL x ops Q (⟨some d,.buildSlice T n ps,ty,pos,aft,none⟩::rest) l own H:=by
 unfold bslR at h;split at h
 . rename_i E e;split at h
   . rename_i z F w c;split at h
     . rename_i t ht;obtain⟨f,g⟩:=ZC h;clear h;simp only[TD]at f;obtain⟨h1,h2,h3,i⟩:=f;have h1:=TA h1;subst h1;obtain⟨m,j,o,h⟩:=ZGu g;obtain⟨y,A⟩:=Q3 h;rw[ZJb]at j o;obtain⟨B,C⟩:=o I _ e3;have b:0<szY t:=(Zn c).choose_spec.2.2.2.2.2;have a:cs.length=vs.length:=(by have:=congrArg List.length e2;simpa using this);have hn:=TA h3;rw[<-q]at e c;refine KI (HF:=H) (R:=RT t) (vs:=vs.map (·.2)) (ls:=m) e c ?_ C (by rw[<-hs.H];exact B) (RT.one t) (by rw[<-hn,a];simp) (by rw[j];simp[a]) i ?_ (by rw[<-hs.N];exact y) (λv' K' D=> ?_)
       . rw[e1];congr 1;simpa using ZEN h2 e2
       . have:=TI i;have g:n<=n*szY t:=Nat.le_mul_of_pos_right n b;unfold maxLen;omega
       . refine VJ ?_;exact v _ _ _ _ _ _ (Go.newRow hs) A<|hs.putRow<|D.weak<|TQ _
     . cases h
   . cases h
 . cases h
theorem ZSx{ty:TypeId}{d:Nat}{pos:String}{aft:Array Edge}(q:x.P=X.P)(hs:RS x s I seg l own H){p:Operand}{T:Nat}{c:CV}{v:Value}{k:PS->Option β}(h1:evo l p=some v)(u:VR I c v)(h:mkS X s d T c k=some r)(w:Knt x ops Q rest s I seg l H (some d) k r):
 JL x ops Q (⟨some d,.makeSlice T p p,ty,pos,aft,none⟩::rest) l own H:=by
 unfold mkS at h;split at h
 . rename_i E j;split at h
   . rename_i z G bt o;split at h
     . rename_i t ht;obtain⟨g,A⟩:=ZC h;clear h;simp only[TD]at g;have e1:=TA g.1;have i:=TI g.2;subst e1;obtain⟨J,B,h⟩:=ZCl (I:=I) A;obtain⟨y,h,f⟩:=JG h;have f:=(RT.cells t y _).2<|f.le _ _ B;obtain⟨n,K,rfl,h⟩:=WH u h;obtain⟨m,rfl,hn,h⟩:=Ud h;obtain⟨C,D⟩:=Q3 h;obtain⟨N,rfl⟩:=SQ hn.1;have L:N<=LIM:=(by simpa using hn.2);rw[<-q]at j o;rw[hs.H]at f;have e:=ZHz (a:=N) (b:=0) (bt:=bt) (by omega) i;refine ZSc j o h1 h1 f (RT.one t) (by have:=e.2;rw[Nat.mul_comm];simp only[SI]at this;omega) (by simpa using e.1) (by rw[<-hs.N];exact C) λao cap K' F=>VJ ?_;exact w _ _ _ _ _ _ (Go.newRow hs) D<|hs.putRow<|F.weak<|TQ _
     . cases h
   . cases h
 . cases h
theorem P7{α:Type}{R:Rep α}{E size:Nat}{v:Value}{ls:List α}{K:Own}(h:RowOf H R 0 E size v ls K):SubV size v v 0 ls.length:=by
 obtain⟨cells,⟨h0,h3⟩,a,c⟩:=h;rcases h3 with⟨rfl,h3,rfl⟩|⟨b,cap,cur,rfl,rfl,_⟩
 . exact⟨⟨none,0,by rw[h3]⟩,.inl h3⟩
 . exact⟨⟨_,cap,rfl⟩,.inr ⟨b,0,ls.length,cap,cap,rfl,by simp,by omega⟩⟩
theorem ZKG{t:Ty}{b:CV}{v:Value}{k:List (den t)->Option β}(hs:RS x s I seg l own H)(a:VR I b v)(h:ZPK s t b k=some r):∃m,CSrc x H H own (RT t) (szY t) v m/\k m=some r:=by
 have c:=hs.H;unfold ZPK at h;split at h
 . rename_i j;split at h
   . rename_i u E m e;obtain⟨q,h⟩:=Zp h;cases q;obtain⟨d,g⟩:=(hs.rw _ _ e).resolve_left (by simp);have g:RowOf I.H (RT t) 0 E (szY t) (I.ν j).2 m (seg j):=g;rw[c]at g;obtain⟨_,rfl,_⟩:=VR_row a;exact⟨m,Pb (lo:=0) (hi:=(m.length:Int)) j (YY hs d) g (by simpa using P7 g) ⟨by omega,by omega,by omega⟩ (by simp[cut]),h⟩
   . cases h
 . rename_i u m;obtain⟨q,h⟩:=Zp h;cases q;simp only[VR]at a;rw[c]at a;exact⟨m,CSrc.slice (RT.one t) (Rz _) a λ_ _ h=>h,h⟩
 . rename_i u m;obtain⟨q,h⟩:=Zp h;cases q;simp only[VR]at a;rw[c]at a;exact⟨m,CSrc.slice (RT.one t) (Rz _) a.1 λ_ _ h=>h,h⟩
 . simp only[VR]at a;subst a;exact⟨[],CSrc.slice (RT.one t) (Rz _) (IsSlice.nil _ _ _) λ_ _ h=>h,h⟩
 . cases h
theorem ZL7{t:Ty}{m:List (den t)}(ht:szY t=1):∀{n:Nat} {i:Int} {k:den (arT t n)->Option β},arV t m n i k=some r->∃z,k z=some r/\0<=i/\i.toNat+n+1<=m.length/\∀{H:Heaplet} {cells:List Value},Flat H (RT t) 1 cells m->
    RT (arT t n) H ((cells.drop i.toNat).take (n+1)) z
  | 0,i,k,h=>by
    obtain⟨y,a,h⟩:=Zh<|show idx m i k=some r from h
    have g:=(TC.1 a.2).1;refine⟨y,h,a.1,by omega,λ{H cells} c=> ?_⟩;obtain⟨cs,h1,h2,h3⟩:=Flat.at c a.2
    match cs,h1,h2,h3 with
    | [u],_,h2,h3=>
      have b:=h3 0 u rfl;simp only[SY,SI]at b;have:(cells.drop i.toNat).take (0+1)= [u]:=by
        rw[Ss (TC.1 b).1,(TC.1 b).2];rfl
      rw[this];exact h2
  | n + 1,i,k,h=>by
    obtain⟨y,a,h⟩:=Zh<|show idx m i (λy=>arV t m n (i+1) λz=>k (y,z))=some r from h
    obtain⟨z,h,h1,h2,h3⟩:=ZL7 ht h;have e1:(i+1).toNat=i.toNat+1:=(by have:=a.1;omega);rw[e1]at h2 h3;refine⟨(y,z),h,a.1,by omega,λ{H cells} c=> ?_⟩;have j:=h3 c;obtain⟨cs,e,f,d⟩:=Flat.at c a.2
    match cs,e,f,d with
    | [u],e,f,d=>
      have b:=d 0 u rfl;simp only[SY,SI]at b;have:(cells.drop i.toNat).take (n+1+1)= [u]++(cells.drop (i.toNat+1)).take (n+1):=by
        rw[Ss (TC.1 b).1,(TC.1 b).2];rfl
      rw[this];exact⟨[u],_,rfl,by rw[ht];rfl,f,j⟩
theorem ZRU{ty:TypeId}{d:Nat}{pos:String}{aft:Array Edge}(hP:x.P=X.P)(hs:RS x s I seg l own H){p q:Operand}{T U:Nat}{a b:CV}{v w:Value}{k:PS->Option β}(h1:evo l p=some v)(ha:VR I a v)(h2:evo l q=some w)(hb:VR I b w)
 (h:copS X s d T U a b k=some r)(hk:Knt x ops Q rest s I seg l H (some d) k r):JL x ops Q (⟨some d,.call ⟨.builtin .copy,#[p,q],#[T,U]⟩,ty,pos,aft,none⟩::rest) l own H:=by
 unfold copS at h;split at h
 . rename_i j;split at h
   . rename_i t E m e;obtain⟨C,h⟩:=ZC h;obtain⟨e',g,G,A⟩:=QB C;rw[<-hP]at G A;obtain⟨W,Y,h⟩:=ZKG (own:=own) (x:=x) hs hb h;obtain⟨Z,M,F,h⟩:=KV h;obtain⟨f1,f2⟩:=YZ (s:=⟨s.N,s.l,s.o,s.z,s.n,s.f,s.c,(j,.own t E Z)::s.r⟩) h;obtain⟨g1,B⟩:=(hs.rw _ _ e).resolve_left (by simp);have B:RowOf I.H (RT t) 0 E (szY t) (I.ν j).2 m (seg j):=B;rw[hs.H]at B;obtain⟨_,rfl,_⟩:=VR_row ha;refine Wb j (lo:=0) (hi:=(m.length:Int)) G A (YY hs g1) B h1 (by simpa using P7 B) h2 Y F M (by rw[<-hs.N];exact f1) λK' hR=> ?_;have O:=hs.setRow (c:=.own t E Z) e (by simp) (K:=K') (by show RowOf _ _ _ _ _ _ _ _;rw[hs.H];exact hR);exact hk _ _ _ _ _ _ (Go.trans ⟨Ext.row s j _,Sg.setRow,Rz _,In.Le.refl _⟩<|Go.st _ _ _ _ d _) f2<|O.put<|by simp only[VR]
   . cases h
 . rename_i u j g0;split at h
   . rename_i t E m e;obtain⟨C,h⟩:=ZC h;simp only[TD]at C;have:=Vk C.1;subst this;obtain⟨e',g,G,A⟩:=QB C.2;rw[<-hP]at G A;obtain⟨W,Y,h⟩:=ZKG (own:=own) (x:=x) hs hb h;obtain⟨Z,M,F,h⟩:=KV h;obtain⟨f1,f2⟩:=YZ (s:=⟨s.N,s.l,s.o,s.z,s.n,s.f,s.c,(j,.own u E Z)::s.r⟩) h;obtain⟨g1,B⟩:=(hs.rw _ _ e).resolve_left (by simp);have B:RowOf I.H (RT u) 0 E (szY u) (I.ν j).2 m (seg j):=B;simp only[VR]at ha;obtain⟨e4,nn,hsub,⟨a1,c1,S⟩,hg0,hg1⟩:=ha;obtain⟨a2,c2,ev2,_⟩:=B.len;have hnn:nn=m.length:=(by rw[ev2]at S;simp only[Value.slice.injEq]at S;exact S.2.1.symm);subst hnn;rw[hs.H]at B;refine Wb j (lo:=g0) (hi:=(m.length:Int)) G A (YY hs g1) B h1 (by rw[T4];exact hsub) h2 Y F M (by rw[<-hs.N];exact f1) λK' hR=> ?_;have O:=hs.setRow (c:=.own u E Z) e (by simp) (K:=K') (by show RowOf _ _ _ _ _ _ _ _;rw[hs.H];exact hR);exact hk _ _ _ _ _ _ (Go.trans ⟨Ext.row s j _,Sg.setRow,Rz _,In.Le.refl _⟩<|Go.st _ _ _ _ d _) f2<|O.put<|by simp only[VR]
   . cases h
 . rename_i j o n;split at h
   . rename_i E G;split at h
     . rename_i g t y A ht;obtain⟨C,h⟩:=ZC h;have C:=TA C;rw[<-hP]at G A;obtain⟨m,cur,T',h,hml,hj,D,J,hfl,hone⟩:=ZGk hs h C;obtain⟨W,Y,h⟩:=ZKG (own:=own) (x:=x) hs hb h;obtain⟨Z,rfl,F,h⟩:=KV h;obtain⟨z,h,_,hz2,hz⟩:=ZL7 C h;have h:oB (ZK s.z j) (λm=>bb (Nat.ble (o+(spC (arT t y) z).length) m) (ZH0 j (spC (arT t y) z) o s.o λow=>PS.put ⟨s.N,s.l,ow,s.z,s.n,s.f,s.c,s.r⟩ d (.i<|min (W.length:Int) ((y+1:Nat):Int)) k) none)=some r:=h;obtain⟨mz,hlz,h⟩:=Zb h;obtain⟨V,h⟩:=ZC h;have V:=TI V;rw[BR]at h;obtain⟨f1,f2⟩:=YZ (s:=⟨s.N,s.l,entA j (spC (arT t y) z) o s.o,s.z,s.n,s.f,s.c,s.r⟩) h;simp only[VR]at ha;obtain⟨_,rfl⟩:=ha;obtain⟨_,cur',T'',g1,B⟩:=hs.ze _ _ hlz;rw[D]at g1;cases g1;rw[hs.H]at hfl;have hcl:o+(y+1)<=cur.size:=by
        rw[TH,Td,TM]at J;omega
       rw[C]at Y;refine ZQe (R:=RT t) (HF:=H) j G A (by rw[YY hs hj,D]) h1 hcl h2 Y (by rw[<-hs.N];exact f1) (λcs hcs hcn=> ?_)
       -- what the cells are then
       have hl2:cs.length=(W.take (y+1)).length:=(by have:=hcs.length;rwa[SY]at this);have hz':=hz (H:=H) (cells:=cs++((cur.toList.drop o).take (y+1)).drop cs.length) (by
        have hd:=(PN cs.length hfl).2;rw[SY]at hd;have e1:cpy m (0:Int).toNat (W.take<|((y+1:Nat):Int).toNat-(0:Int).toNat)=W.take (y+1)++m.drop cs.length:=by
         unfold cpy;simp[hl2]
        rw[e1];exact OS hcs hd)
       have L:(cs++((cur.toList.drop o).take (y+1)).drop cs.length).length=y+1:=(by rw[TG,Td,J];omega);rw[show(0:Int).toNat=0 from rfl,List.drop_zero,TZ<|Nat.le_of_eq L]at hz';have hv:VRs I (spC (arT t y) z) (cs++((cur.toList.drop o).take (y+1)).drop cs.length):=(RT.cells (I:=I) _ _ _).1 (by rw[hs.H];exact hz');have hvl:=hv.length;have hst:=hs.sto (o:=o) hlz hv V D B;have earr:cur.toList.take o++cs++cur.toList.drop (o+cs.length)=cur.toList.take o++(cs++((cur.toList.drop o).take (y+1)).drop cs.length)++cur.toList.drop (o+(cs++((cur.toList.drop o).take (y+1)).drop cs.length).length):=by
        rw[L,TE,TE,TE];congr 2;rw[List.drop_take,S2];have:cur.toList.drop (o+cs.length)=(cur.toList.drop (o+cs.length)).take (y+1-cs.length)++(cur.toList.drop (o+cs.length)).drop (y+1-cs.length):=(RO _ _).symm;rw[S2,show o+cs.length+(y+1-cs.length)=o+(y+1) by omega]at this;exact this
       rw[earr];refine hk _ _ _ _ _ _ (Go.trans (s2:=⟨s.N,s.l,entA j (spC (arT t y) z) o s.o,s.z,s.n,s.f,s.c,s.r⟩) ⟨⟨rfl,⟨[],rfl⟩,WQ _ _ _ _,⟨[],rfl,by simp⟩,TF _,⟨[],rfl⟩,TF _,⟨[],rfl⟩⟩,λa' ha' ho' _=>Zg λe=> ?_,Rz _,In.Le.refl _⟩ (Go.st _ _ _ _ d _)) f2 (hst.put<|by simp only[VR]);obtain⟨q,hq,hqe⟩:=ZCT (a:=j) (k:=o) (m:=s.o) (l:=spC (arT t y) z) (by intro e;rw[e]at hvl;simp at hvl;omega);exact ho' q hq<|hqe.trans e.symm
     . cases h
   . cases h
 . cases h
theorem ZSq{ty:TypeId}{d:Nat}{pos:String}{aft:Array Edge}(hP:x.P=X.P)(hs:RS x s I seg l own H){p:Operand}{T:Nat}{a:CV}{v:Value}{hi mx:Option Operand}{k:PS->Option β}(h1:evo l p=some v)(ha:VR I a v)
 (h:pvS X s d T a hi mx k=some r)(W:hi≠none)(hk:Knt x ops Q rest s I seg l H (some d) k r):JL x ops Q (⟨some d,.slice T p none hi mx,ty,pos,aft,none⟩::rest) l own H:=by
 unfold pvS at h;split at h
 . rename_i j;split at h
   . rename_i t E m e;obtain⟨U,h⟩:=ZC h;simp only[TD]at U;obtain⟨U,D⟩:=U;obtain⟨e',g,F,y⟩:=QB U;rw[<-hP]at F y;obtain⟨b,hb,h⟩:=ZC6 hs h;obtain⟨hn,h⟩:=ZI h;obtain⟨Y,V⟩:=(hs.rw _ _ e).resolve_left (by simp);have V:RowOf I.H (RT t) 0 E (szY t) (I.ν j).2 m (seg j):=V;rw[hs.H]at V;obtain⟨hlt,rfl,_⟩:=VR_row ha;have h:PS.row ⟨s.N,s.l,s.o,s.z,s.n,s.f,s.c,(j,.dead)::s.r⟩ d t E (m.take b.toNat) k=some r:=h;obtain⟨f1,f2⟩:=Q3 h;have G:j<own.length:=(by rw[hs.own];simpa using Y);have J:own.set j (seg j)=own:=by
      apply Tl;intro q;rw[T3];split
      . rename_i hj;subst hj
        first|rw[TJ G,YY hs Y]|exact(YY hs Y).symm
      . rfl
     have L:∀(v':Value),Runs x (.slice T p none hi mx) ty l own H v'->RowOf H (RT t) 0 E (szY t) v' (m.take b.toNat) (seg j)->JL x ops Q (⟨some d,.slice T p none hi mx,ty,pos,aft,none⟩::rest) l own H:=λv' hr hR=>by
      refine ZA (by rw[<-hs.N];exact f1) rfl hr ?_;have Z:=(hs.setRow (c:=.dead) e (by simp) (K:=[]) trivial).putRow (d:=d) hR;have hj2:=hk _ _ _ _ _ _ (Go.trans ⟨Ext.row s j .dead,Sg.setRow,Rz _,In.Le.refl _⟩<|Go.newRow<|hs.setRow (c:=.dead) e (by simp) (K:=[]) trivial) f2 Z;exact λa w hh=>hj2 a w<|hperm hh (by have:=GJ (K:=seg j) G;rwa[J]at this)
     obtain⟨cells,⟨c0,c1⟩,c2,c3⟩:=V;have A:=(PN b.toNat c2).1;have i:(m.take b.toNat).length=b.toNat:=(by rw[TH];omega);have h1c:∀u∈cells.take (b.toNat*szY t),u.oneCell'=true:=λu F=>c3 u<|SX F;have hbb:(b.toNat:Int)=b:=Int.toNat_of_nonneg hn.1;obtain⟨hi,rfl⟩:=Option.ne_none_iff_exists'.1 W;rcases c1 with⟨M,d2,d3⟩|⟨gg,cap,cur,M,d2,d3,d4,d5,d6,d7⟩
     . have hb0:b=0:=(by omega);subst hb0;have B:m= []:=TT.1 d2;refine L (.slice none 0 0) ?_ ⟨cells.take 0,⟨by simp[B],.inl ⟨rfl,by simp[B],d3⟩⟩,by simpa[B]using A,by simp[YS]⟩;rw[M]at h1;have:=R.slc (x:=x) (own:=own) (H:=H) (ty:=ty) (α:=UInt8) (R:=RU8) (m:=[]) (a:=0) (b:=0) (c:=0) (cap:=0) (v':=.slice none 0 0) (lo:=none) (hi:=some hi) (mx:=mx) F y h1 rfl hb
        (by cases mx with|none=>exact⟨none,0,rfl,rfl⟩|some o=>(obtain⟨tt,C,O⟩:=ZBv D;cases C;cases O;exact hb)) ⟨by omega,by omega,by omega⟩ ⟨none,rfl,by simp,by simp[sliced]⟩ (.inr<|by simp)
       exact this
     . rw [M]at h1;have hc:∃c:Nat,(match mx with|none=>∃ao n,(I.ν j).2=.slice ao n cap/\(c:Int)=cap|some o=>∃kk,evo l o=some (.int kk (c:Int)))/\b.toNat<=c/\c<=cap:=by
        cases mx with
        |none=>exact⟨cap,⟨_,_,M,rfl⟩,by omega,TF _⟩
        |some o=>obtain⟨tt,C,O⟩:=ZBv D;cases C;cases O;exact⟨b.toNat,by rw[hbb];exact hb,TF _,by omega⟩
       obtain⟨c,S,hc2,hc3⟩:=hc;refine L (.slice (some ⟨gg,0,none⟩) b.toNat c) ?_ ⟨_,⟨A.length,.inr ⟨gg,c,cur,by rw[i],d2,d3,by rw[i];exact hc2,by omega,?_,?_⟩⟩,A,h1c⟩
       . refine R.slc (cap:=cap) (a:=0) (b:=b) (c:=(c:Int)) (m:=m) (R:=RT t) F y h1 rfl hb ?_ ⟨SA _,hn.1,by omega⟩ ⟨_,rfl,by omega,?_⟩ (.inr<|by simp)
         . cases mx with
           |none=>obtain⟨ao,n,C,O⟩:=S;rw[M]at C;exact⟨ao,n,C,O⟩
           |some o=>exact S
         . simp[sliced]
       . exact TS (TN _ hc3) d6
       . rw[i,<-d7,SU,Tr];exact TN _<|by omega
   . cases h
 . cases h
theorem ZSh (G:x.P=X.P)(hs:RS x s I seg l own H){ty:TypeId}{d:Nat}{pos:String}{aft:Array Edge}{T n:Nat}{ps:Array (Nat×Operand)}{cs:List (Nat×CV)}{vs:List (Nat×Value)}{k:PS->Option β}(e1:ps.toList.mapM (λp=>(evo l p.2).map λu=>(p.1,u))=some vs)(e2:cs.map (·.1)=vs.map (·.1))(e3:VRs I (cs.map (·.2)) (vs.map (·.2)))
 (h:svS X s d T n cs k=some r)(J:Knt x ops Q rest s I seg l H (some d) k r):JL x ops Q (⟨some d,.buildSlice T n ps,ty,pos,aft,none⟩::rest) l own H:=by
 unfold svS at h;split at h
 . rename_i E q;split at h
   . rename_i z K C;obtain⟨D,t⟩:=ZC h;clear h;simp only[TD]at D;obtain⟨h0,h2,h3,V,w⟩:=D;have t:ZH0 s.n (snds cs) 0 s.o (λo=>PS.put ⟨s.N,s.l,o,(s.n,n)::s.z,Nat.succ s.n,s.f,s.c,s.r⟩ d (.sv s.n 0 n) k)=some r:=t;rw[BR]at t;obtain⟨M,F⟩:=YZ (s:=⟨s.N,s.l,entA s.n (snds cs) 0 s.o,(s.n,n)::s.z,s.n+1,s.f,s.c,s.r⟩) t;rw[ZJb]at h0 F;have j:cs.length=vs.length:=(by have:=congrArg List.length e2;simpa using this);have hn:=TA h3;have w:=TI w;have hone:=DQ e3 h0;have e:∀v∈vs.map (·.2),v.cells.toList= [v]:=λv y=>by
      have:=Ti.1 hone v y;cases v<;>first|rfl|(simp[Value.oneCell']at this;done)
     have i:((vs.map (·.2)).map (·.cells.toList)).flatten=vs.map (·.2):=by
      have A:∀(L:List Value),(∀v∈L,v.cells.toList= [v])->(L.map (·.cells.toList)).flatten=L:=λL=>by
       induction L with
       |nil=>intro _;rfl
       |cons v L ih=>intro h;rw[Tp,TP,h v (by simp),ih λu q=>h u<|by simp[q]];rfl
      exact A _ e
     rw[<-G]at q C;refine ZSI (vs:=vs.map (·.2)) q C ?_ ?_ (by rw[<-hn,j];simp) (by rw[SY];exact SC w) (by rw[<-hs.N];exact M) λg W=>VJ ?_
     . rw[e1];congr 1;simpa using ZEN h2 e2
     . refine Ti.2 λv y=> ?_;have:=congrArg List.length<|e v y;rw[TM]at this;rw[this];rfl
     . rw[i];have O:VRs I (cs.map (·.2)) (vs.map (·.2)).toArray.toList:=(by simpa using e3);have m:=hs.new (T:=E) (b:=g) O;have B:(cs.map (·.2)).length=n:=(by simpa using hn);rw[B]at m;refine J _ _ _ _ _ _ ⟨?_,Sg.of λa R=>Zg<|Sq R,Rz _,ZMf hs _⟩ F (m.put ?_)
       . obtain⟨S,U⟩:=WQ s.n (cs.map (·.2)) 0 s.o;exact⟨rfl,⟨[(d,.sv s.n 0 n)],rfl⟩,⟨S,U⟩,⟨[(s.n,n)],rfl,by simp⟩,RJ _,⟨[],rfl⟩,TF _,⟨[],rfl⟩⟩
       . simp only[VR];exact⟨SD _,by rw[show upN I.ν s.n (g,.nilIface) s.n=(g,.nilIface)from Zl _ _ _]⟩
   . cases h
 . cases h
theorem ZMq{P:Program}{S T:Nat}(h:ZNl P S T=true):P.underlying S=some .string/\∃e,P.underlying T=some (.slice e)/\P.underlying e=some (.int .u8)/\elT P T=e:=by
 unfold ZNl at h;split at h
 . rename_i e h1 h2;split at h
   . rename_i h3;exact⟨h1,e,h2,h3,by unfold elT;rw[h2]⟩
   . cases h
 . cases h
theorem ZMu{P:Program}{S T:Nat}(h:ZPm P S T=true):S=T/\∃e,P.underlying T=some (.slice e)/\P.underlying e=some (.int .u8):=by
 unfold ZPm at h;split at h
 . rename_i e h2;split at h
   . rename_i h3;exact⟨TA h,e,h2,h3⟩
   . cases h
 . cases h
theorem ZTB{ty:TypeId}{d:Nat}{pos:String}{aft:Array Edge}(R:x.P=X.P)(hs:RS x s I seg l own H){p:Operand}{S T:Nat}{a:CV}{v:Value}{k:PS->Option β}{e:Option β}(h1:evo l p=some v)(A:VR I a v)(h:cvS X s d S T a k e=some r)(U:Knt x ops Q rest s I seg l H (some d) k r)
    (V:e=some r->JL x ops Q (⟨some d,.convert S T p,ty,pos,aft,none⟩::rest) l own H):JL x ops Q (⟨some d,.convert S T p,ty,pos,aft,none⟩::rest) l own H:=by
  unfold cvS at h;split at h
  . rename_i m;cases B:ZNl X.P S T with
    |false=>rw[B]at h;exact V h
    | true=>
      rw[B]at h;obtain⟨W,Y,b,i,g4⟩:=ZMq B;have h:chk (m.length<=LIM) (s.mrow d (elT X.P T) m k)=some r:=h;obtain⟨hl,h⟩:=ZI h;obtain⟨C,u⟩:=ZEE h;rw[g4]at u;simp only[VR]at A;subst A;rw[<-R]at W b i;refine ZTh W b i h1 hl (by rw[<-hs.N];exact C) λv K D=>VJ ?_;have F:RowOfM H RU8 0 Y 1 v m K:=by
        obtain⟨cells,⟨q1,G⟩,q3,q4⟩:=D;refine⟨cells,⟨q1,?_⟩,q3,q4⟩;rcases G with G|⟨g,cap,cur,fr,b1,b2,b3,b4,b5⟩
        . exact .inl G
        . exact .inr ⟨g,cap,cur,fr,b1,b2,b3,TQ _,b5⟩
      exact U _ _ _ _ _ _ (Go.newRC hs) u<|hs.putM F
  . rename_i j;split at h
    . rename_i t E m e0;obtain⟨ho,h5⟩:=ZC h;clear h;obtain⟨rfl,Y,b,i⟩:=ZMu ho;obtain⟨q,h⟩:=Zp h5;cases q;obtain⟨J,h⟩:=ZI h;obtain⟨Z,y⟩:=(hs.rw _ _ e0).resolve_left (by simp);have y:RowOf I.H RU8 0 E 1 (I.ν j).2 m (seg j):=y;rw[hs.H]at y;obtain⟨_,rfl,_⟩:=VR_row A;have h:PS.mrow ⟨s.N,s.l,s.o,s.z,s.n,s.f,s.c,(j,.dead)::s.r⟩ d E m k=some r:=h;obtain⟨C,u⟩:=ZEE h;have L:j<own.length:=(by rw[hs.own];simpa using Z);rw[<-R]at b i;refine ZTm j b i h1 (YY hs Z) y J (by rw[<-hs.N];exact C) λK' D=> ?_;have M:=(hs.setRow (c:=.dead) e0 (by simp) (K:=[]) trivial).putM (d:=d) D;have O:=U _ _ _ _ _ _ (Go.trans ⟨Ext.row s j .dead,Sg.setRow,Rz _,In.Le.refl _⟩<|Go.newRC<|hs.setRow (c:=.dead) e0 (by simp) (K:=[]) trivial) u M;exact λa w hh=>O a w<|hperm hh<|GJ L
    . cases h
  . exact V h
theorem ZQ6{ty:TypeId}{d:Nat}{pos:String}{aft:Array Edge}(j:EnvOk X)(e:x.P=X.P)(hs:RS x s I seg l own H){o:Op}{k:PS->Option β}(h:popR X s d o k=some r)(f:Knt x ops Q rest s I seg l H (some d) k r):JL x ops Q (⟨some d,o,ty,pos,aft,none⟩::rest) l own H:=by
  unfold popR at h;split at h
  . obtain⟨a,v,e1,e2,h⟩:=ZZ hs h;obtain⟨b,w,g,i,h⟩:=ZZ hs h;generalize hi:isInt X.P _=bo at h;cases bo with
    |true=>exact ZRh e hs hi e1 e2 g i h f
    |false=>exact ZRi e hs e1 e2 g i h f
  . obtain⟨a,v,e1,e2,h⟩:=ZZ hs h;obtain⟨b,w,g,i,h⟩:=ZZ hs h;exact ZRU e hs e1 e2 g i h f
  . obtain⟨cs,vs,e1,e2,e3,h⟩:=ZHc hs h;generalize Xu X.hb d=bo at h;cases bo with
    |true=>exact ZSh e hs e1 e2 e3 h f
    |false=>exact ZRc e hs e1 e2 e3 h f
  . obtain⟨m,h2⟩:=ZC h;clear h;cases ZGd m;obtain⟨c,v,e1,e2,h⟩:=ZZ hs h2;exact ZSx e hs e1 e2 h f
  . generalize Xu X.hb d=bo at h;cases bo with
    | true=>
      have h:=h;split at h
      . obtain⟨c,v,e1,e2,h⟩:=ZZ hs h;exact ZJR hs rfl (ZPN e hs e1 e2 h) f
      . obtain⟨c,v,e1,e2,h⟩:=ZZ hs h;exact ZSq e hs e1 e2 h (by simp) f
      . cases h
    |false=>exact ZMY j e hs h f
  . obtain⟨c,v,e1,e2,h⟩:=ZZ hs h;exact ZTB e hs e1 e2 h f λh=>ZMY j e hs h f
  . exact ZMY j e hs h f
theorem ZSi{ty:TypeId}{pos:String}{aft:Array Edge}(V:x.P=X.P)(hs:RS x s I seg l own H){p q:Operand}{T:Nat}{t:Ty}{j o:Nat}{g:Int}{cs:List CV}{v w:Value}{k:PS->Option β}(h1:evo l p=some v)(W:RelR I t j g o v)(h2:evo l q=some w)(hb:VRs I cs w.cells.toList)
    (h:stR X s T t j g o cs k=some r)(Y:Knt x ops Q rest s I seg l H none k r):JL x ops Q (⟨none,.store T p q,ty,pos,aft,none⟩::rest) l own H:=by
  unfold stR at h;split at h
  . rename_i u E m e;split at h
    . rename_i gg n b;rw[<-V]at b;obtain⟨F,G⟩:=ZC h;clear h;simp only[TD]at F;have e1:=Vk F.1;have e2:=TA F.2.1;have e3:=TI F.2.2;subst e1;obtain⟨R,d⟩:=(hs.rw _ _ e).resolve_left (by simp);have d:RowOf I.H (RT t) 0 E (szY t) (I.ν j).2 m (seg j):=d;rw[hs.H]at d;obtain⟨_,b',q',J,rfl⟩:=W;have a:w.cells.size=n:=(by rw[<-TM,<-hb.length];exact e2);have B:∀{K':Own} {m':List (den t)},RowOf H (RT t) 0 E (szY t) (I.ν j).2 m' K'->s.setR j (.own t E m') k=some r->JL x ops Q rest l (own.set j K') H:=λ{K' m'} i h=>by
        have h:k ⟨s.N,s.l,s.o,s.z,s.n,s.f,s.c,(j,.own t E m')::s.r⟩=some r:=h;exact Y _ _ _ undef _ _ ⟨Ext.row s j _,Sg.setRow,Rz _,In.Le.refl _⟩ h<|hs.setRow (c:=.own t E m') e (by simp) (K:=K') (by show RowOf _ _ _ _ _ _ _ _;rw[hs.H];exact i)
      cases C:Bool.and (Nat.beq o 0) (Nat.beq n<|szY t)with
      | true=>
        rw[C]at G;simp only[TD]at C;have Z:=TA C.1;have n0:=TA C.2;subst Z;subst n0;obtain⟨z,h,L⟩:=JG G;obtain⟨m',A,hn,h⟩:=X9 h;have D:=(RT.cells t z _).2<|L.le _ _ hb;rw[hs.H]at D;refine ZEb j b (YY hs R) d h1 J h2 a D (RT.one t) A (λK' i _=>B i h)
      | false=>
        rw[C]at G;obtain⟨y,hN,h⟩:=Zh G;obtain⟨z,h,L⟩:=JG h;obtain⟨m',A,hn,h⟩:=X9 h;obtain⟨b2,q2,cl,cur,S,M,i,hl,hc⟩:=RowOf.elem d hN;obtain⟨rfl,rfl⟩:=J.one M;have U:=(RT.cells (I:=I) t y cl).1 (by rw[hs.H];exact i);have O:VRs I (layL (spC t y) o cs) (cl.take o++w.cells.toList++cl.drop (o+n)):=by
          unfold layL;rw[show o+cs.length=o+n by rw[e2]];exact VRs.append (VRs.append (VRs.take o U) hb)<|VRs.drop (o+n) U
        have D:=(RT.cells t z _).2<|L.le _ _ O;rw[hs.H]at D;rw[S]at d;exact ZTg j o b (by rw[YY hs R,S]) d h1 J h2 a hc hl D (RT.one t) e3 A λK' i _=>B i h
    . cases h
  . cases h
theorem ZRY{ty:TypeId}{pos:String}{aft:Array Edge}(J:x.P=X.P)(hs:RS x s I seg l own H){p:Operand}{T:Nat}{a:CV}{v:Value}{k:PS->Option β}(h1:evo l p=some v)(D:VR I a v)(h:clrS X s T a k=some r)(L:Knt x ops Q rest s I seg l H none k r):JL x ops Q (⟨none,.call ⟨.builtin .clear,#[p],#[T]⟩,ty,pos,aft,none⟩::rest) l own H:=by
 unfold clrS at h;split at h
 . rename_i u j g;split at h
   . rename_i t E m e;split at h
     . rename_i w F;split at h
       . rename_i z sz M G;obtain⟨q,O⟩:=ZC h;clear h;simp only[TD]at q;have R:=Vk q.1;have S:=TA q.2.1;have U:=TA q.2.2;subst R S U;obtain⟨zc,V,h⟩:=ZJV O;obtain⟨y,h,W⟩:=JG h;have A:∀H,RT u H z.cells.toList y:=λH=>(RT.cells u y _).2<|W.le {I with H:=H} _<|V _;obtain⟨Y,d⟩:=(hs.rw _ _ e).resolve_left (by simp);have d:RowOf I.H (RT u) 0 w (szY u) (I.ν j).2 m (seg j):=d;simp only[VR]at D;obtain⟨e4,Z,i,⟨a1,c1,b⟩,hg0,hg1⟩:=D;obtain⟨a2,c2,B,_⟩:=d.len;have C:Z=m.length:=(by rw[B]at b;simp only[Value.slice.injEq]at b;exact b.2.1.symm);subst C;rw[hs.H]at d;rw[<-J]at F G;refine ZOr j F G (YY hs Y) d h1 i A (RT.one u) (ms':=Ow.clr m g.toNat m.length y) (by rw[show g.toNat+(m.length-g.toNat)=m.length by omega]) λK' hR _=> ?_;have h:k ⟨s.N,s.l,s.o,s.z,s.n,s.f,s.c,(j,.own u w<|Ow.clr m g.toNat m.length y)::s.r⟩=some r:=h;exact L _ _ _ undef _ _ ⟨Ext.row s j _,Sg.setRow,Rz _,In.Le.refl _⟩ h<|hs.setRow (c:=.own u w<|Ow.clr m g.toNat m.length y) e (by simp) (K:=K') (by show RowOf _ _ _ _ _ _ _ _;rw[hs.H];exact hR)
       . cases h
     . cases h
   . cases h
 . cases h
theorem ZQ5{ty:TypeId}{pos:String}{aft:Array Edge}(c:x.P=X.P)(hs:RS x s I seg l own H){o:Op}{k:PS->Option β}(h:pstR X s o k=some r)(d:Knt x ops Q rest s I seg l H none k r):JL x ops Q (⟨none,o,ty,pos,aft,none⟩::rest) l own H:=by
 unfold pstR at h;split at h
 . obtain⟨a,v,e1,e2,h⟩:=ZZ hs h;obtain⟨a,e2,h⟩:=ZDU e2 h;split at h
   . obtain⟨b,w,f,e,h⟩:=ZZ hs h;obtain⟨hb,h⟩:=ZC h;have g:=GZ e<|.inl hb;obtain⟨cs,i,h⟩:=ZIr hs g h;simp only[VR]at e2;exact ZSi c hs e1 e2 f i h d
   . exact ZPQ c hs h d
 . obtain⟨a,v,e1,e2,h⟩:=ZZ hs h;exact ZRY c hs e1 e2 h d
 . exact ZPQ c hs h d
end
section
variable{β:Type}{r:β}{x:Cx}{X:Env}{s:PS}{I:In}{seg:Nat->Own}{l:Slots}{own:List Own}{H:Heaplet}
variable{ops:Array Oper}{Q:Exit->Act->World->Prop}{rest:List Oper}{ty:TypeId}{d:Nat}{pos:String}{aft:Array Edge}
def flagS (s:PS)(t:Nat)(c:CV)(b:Bool):PS:=match c with
 | .bc i _ _=>⟨s.N,(t,.b b)::s.l,s.o,s.z,s.n,(match b with|true=>i::s.f|false=>s.f),s.c,s.r⟩
 |_=>⟨s.N,(t,.b b)::s.l,s.o,s.z,s.n,s.f,s.c,s.r⟩
theorem ZAZ (s:PS)(t:Nat)(c:CV)(b:Bool)(k:PS->Option β):flag s t c b k=k (flagS s t c b):=by
 cases c<;>cases b<;>rfl
theorem Ext.flag (s:PS)(t:Nat)(c:CV)(b:Bool):Ext s (flagS s t c b):=by
  have h1:∀m,Ext s ⟨s.N,(t,.b b)::s.l,s.o,s.z,s.n,m++s.f,s.c,s.r⟩:=λm=>⟨rfl,⟨[(t,.b b)],rfl⟩,⟨[],rfl⟩,⟨[],rfl,by simp⟩,TF _,⟨m,rfl⟩,TF _,⟨[],rfl⟩⟩;cases c with
  | bc i m n=>cases b with
    |true=>exact h1 [i]
    |false=>exact h1 []
  |_=>exact h1 []
theorem RS.flag (hs:RS x s I seg l own H){t:Nat}{c:CV}{e b:Bool}{v:Value}(h:VR I c v)(hb:CLe c (.b e))(j:e=b):RS x (flagS s t c b) I seg ((t,.bool b)::l) own H:=by
  have h0:=hs.put (d:=t) (c:=.b b) (v:=.bool b) (by simp only[VR]);have k:∀f,(∀c∈f,c<s.c/\I.κ c<MAX)->RS x ⟨s.N,(t,.b b)::s.l,s.o,s.z,s.n,f,s.c,s.r⟩ I seg ((t,.bool b)::l) own H:=λf p=>
    ⟨h0.N,h0.H,h0.n,h0.q,h0.own,h0.sl,h0.ze,h0.ce,p,h0.rw,h0.rz,h0.ro⟩
  unfold flagS;split
  . rename_i i m n;refine k _ ?_;cases b with
    |false=>exact hs.fx
    | true=>
      intro c a;rcases Ta.1 a with rfl|a
      . have h1:=hb _ _ h;simp only[VR]at h h1;obtain⟨g,u,w,y⟩:=h;rw[y]at h1;have h2:decide ((m:Int)<(n:Int))=true:=(by rw[Value.bool.inj h1,j]);have h3:=TO h2;rw[hs.q]at g;exact⟨g,by rw[u];simp only[MAX]at w|-;omega⟩
      . exact hs.fx c a
  . exact k _ hs.fx
def KntG (x:Cx)(ops:Array Oper)(Q:Exit->Act->World->Prop)(rest:List Oper)(s:PS)(I:In)(seg:Nat->Own)(H:Heaplet)(k:PS->Option β)(r:β):Prop:=
 ∀s' I' seg' l' own' H',Go s I seg H s' I' seg' H'->k s'=some r->RS x s' I' seg' l' own' H'->JL x ops Q rest l' own' H'
theorem KntG.go{s':PS}{I':In}{seg':Nat->Own}{H':Heaplet}{k:PS->Option β}(h:KntG x ops Q rest s I seg H k r)(g:Go s I seg H s' I' seg' H'):KntG x ops Q rest s' I' seg' H' k r:=
 λt J sg l o h2 a b hs=>h t J sg l o h2 (g.trans a) b hs
theorem KntG.knt{d:Option Nat}{k:PS->Option β}(h:KntG x ops Q rest s I seg H k r):Knt x ops Q rest s I seg l H d k r:=λt J sg v o h2 g a hs=>h t J sg _ o h2 g a hs
theorem ZF7 (g:EnvOk X)(e:x.P=X.P)(hs:RS x s I seg l own H){a:Option Nat}{o:Op}{k:PS->Option β}(h:popD X s a o k=some r)(i:Knt x ops Q rest s I seg l H a k r):JL x ops Q (⟨a,o,ty,pos,aft,none⟩::rest) l own H:=by
 refine ZQ4 hs h i λs' I' seg' own' H' f b c=> ?_;cases a with
 |some d=>exact ZQ6 g e b f c
 |none=>exact ZQ5 e b f c
theorem Go.flag (s:PS)(I:In)(seg:Nat->Own)(H:Heaplet)(t:Nat)(c:CV)(b:Bool):Go s I seg H (flagS s t c b) I seg H:=by
 refine⟨Ext.flag s t c b,?_,Rz _,In.Le.refl _⟩;exact Sg.of λ_ _=>rfl
theorem ZPy (B:EnvOk X)(C:x.P=X.P)(hs:RS x s I seg l own H){o:Oper}{k:PS->Option β}(h:gop X ops.toList s o k=some r)(z:KntG x ops Q rest s I seg H k r):JL x ops Q (o::rest) l own H:=by
  obtain⟨a,op,ty,pos,aft,g⟩:=o;unfold gop at h;cases g with
  |none=>exact ZF7 B C hs h z.knt
  | some g=>
    obtain⟨g,b⟩:=g;obtain⟨t,e1,h⟩:=Zb h;obtain⟨q,e2,e3⟩:=Zb e1;obtain⟨c,e4,h⟩:=Zb h;have A:ops[g]? =some q:=(by simpa using e2);have i:∀{s':PS} {I':In} {seg':Nat->Own} {l':Slots} {own':List Own} {H':Heaplet},RS x s' I' seg' l' own' H'->Go s I seg H s' I' seg' H'->skp s' a k=some r->((∃D,lk l' t=some (.bool D)/\(D==b)=false)\/lk l' t=some undef)->JL x ops Q (⟨a,op,ty,pos,aft,some (g,b)⟩::rest) l' own' H':=by
      intro s' I' seg' l' own' H' f m u E;cases a with
      |none=>cases u
      | some d=>
        obtain⟨w,p⟩:=YZ<|show s'.put d .und k=some r from u
        have G:Nat.blt d x.n=true:=(by rw[<-f.N];exact w);have j:=z _ _ _ _ _ _ (m.trans<|Go.st _ _ _ _ _ _) p (f.put (v:=undef) (by simp only[VR]));rcases E with⟨D,F,K⟩|F
        . exact ZNI A e3 F K G j
        . exact ZN8 A e3 F G j
    rcases hs.sl _ _ e4 with rfl|⟨v,w,p⟩
    . obtain⟨e,_,h⟩:=GM (show oBo .unk _=some r from h)
      cases(show(oBo CV.unk λ_=>some r)=some r from by first|rfl|(cases ‹oBo _ _=_›))
    . have y:c≠.und->∀(h:oBo c (λe=>cond e (flag s t c true λs=>Bool.rec (skp s a k) (popD X s a op k) b) (flag s t c false λs=>Bool.rec (popD X s a op k) (skp s a k) b))=some r),JL x ops Q (⟨a,op,ty,pos,aft,some (g,b)⟩::rest) l own H:=by
        intro _ h;obtain⟨e,hb,h⟩:=GM h;have J:=hb.le _ _ p;simp only[VR]at J;subst J;rcases GY h with⟨m,h⟩|⟨m,h⟩
        . rw[ZAZ]at h;refine ZEd w (λ_=> ?_) (λq=>by rw[m]at q;cases q);have f:=hs.flag (t:=t) p hb.le m;cases b with
          |true=>exact ZGK A e3 (by simp[lk]) (ZF7 B C f h (z.go<|Go.flag _ _ _ _ _ _ _).knt)
          |false=>exact i f (Go.flag _ _ _ _ _ _ _) h<|.inl ⟨true,by simp[lk],rfl⟩
        . rw[ZAZ]at h;refine ZEd w (λq=>by rw[m]at q;cases q) λ_=> ?_;have f:=hs.flag (t:=t) p hb.le m;cases b with
          |false=>exact ZGK A e3 (by simp[lk]) (ZF7 B C f h (z.go<|Go.flag _ _ _ _ _ _ _).knt)
          |true=>exact i f (Go.flag _ _ _ _ _ _ _) h<|.inl ⟨false,by simp[lk],rfl⟩
      cases c with
      |und=>simp only[VR]at p;subst p;exact i hs (Go.refl _ _ _ _) h (.inr w)
      |_=>exact y (by simp) h
theorem ZNY (c:EnvOk X)(d:x.P=X.P):∀{rest:List Oper} {s:PS} {I:In} {seg:Nat->Own} {l:Slots} {own:List Own} {H:Heaplet} {k:PS->Option β},RS x s I seg l own H->pops X ops.toList rest s k=some r->
    (∀s' I' seg' l' own' H',Go s I seg H s' I' seg' H'->k s'=some r->RS x s' I' seg' l' own' H'->JN x (Q .normal) l' own' H')->JL x ops Q rest l own H
  |[],s,I,seg,l,own,H,k,hs,h,a=>JL.nil (a _ _ _ _ _ _ (Go.refl _ _ _ _) h hs)
  | o::rest,s,I,seg,l,own,H,k,hs,h,a=>
    ZPy c d hs (show gop X ops.toList s o (λs=>pops X ops.toList rest s k)=some r from h) λs' I' seg' l' own' H' g e b=>ZNY c d b e λt J sg f i H2 j=>a t J sg f i H2<|g.trans j
end
structure Agr (s s':PS) (D:List Nat) (C:List (Nat×Nat)) (R:List Nat):Prop where
  N:s'.N=s.N
  l:∀t c,ZK s.l t=some c->t∉D->ZK s'.l t=some c
  o:∀a j c,a<s.n->lkO s.o a j=some c->(a,j)∉C->lkO s'.o a j=some c
  z:∀a m,a<s.n->ZK s.z a=some m->ZK s'.z a=some m
  n:s.n<=s'.n
  f:∀c∈s.f,c∈s'.f
  c:s.c<=s'.c
  r:∀k c,k<s.n->ZK s.r k=some c->k∉R->ZK s'.r k=some c
theorem ZGC{α:Type}:∀{m l:List (Nat×α)} {i:Nat},(∀p∈m,p.1≠i)->ZK (m++l) i=ZK l i
 |[],l,i,h=>rfl
 |p::m,l,i,h=>by rw[RB,ZH,TK (h p<|by simp),ZGC λq a=>h q<|by simp[a]]
theorem ZNg{α:Type}:∀{m l:List ((Nat×Nat)×α)} {i j:Nat},(∀p∈m,p.1≠(i,j))->lkO (m++l) i j=lkO l i j
 |[],l,i,j,h=>rfl
 |p::m,l,i,j,h=>by rw[RB,DZ,TK (h p<|by simp),ZNg λq a=>h q<|by simp[a]]
theorem ZPd{l:List (Nat×Nat)}{a o:Nat}:memP l a o=true↔(a,o)∈l:=by
  induction l with
  |nil=>simp[memP]
  | cons p l ih=>
    obtain⟨b,q⟩:=p;show(Bool.rec (memP l a o) (Bool.rec (memP l a o) true (Nat.beq q o)) (Nat.beq b a):Bool)=true↔_;by_cases h:b=a
    . rw[show Nat.beq b a=true from by simpa using h];by_cases h2:q=o
      . rw[show Nat.beq q o=true from by simpa using h2];simp[h,h2]
      . rw[Vr h2];simp only[ih,Ta,Si];exact⟨.inr,λk=>k.resolve_left λe=>h2 e.2.symm⟩
    . rw[Vr h];simp only[ih,Ta,Si];exact⟨.inr,λk=>k.resolve_left λe=>h e.1.symm⟩
theorem Agr.ext{s s':PS}{D:List Nat}{C:List (Nat×Nat)}{R:List Nat}(h:Ext s s')(h1:okT s s' D=true)(h2:okC s s' C R=true):Agr s s' D C R:=by
 obtain⟨m,e⟩:=h.l;obtain⟨B,u⟩:=h.o;obtain⟨E,x,y⟩:=h.z;obtain⟨F,A⟩:=h.f;obtain⟨mr,v⟩:=h.r;have d:=h2;unfold okC at d;simp only[TD]at d;obtain⟨h2,h3⟩:=d;refine⟨h.N,λt c b ht=> ?_,λa j c w b hn=> ?_,λa k w i=> ?_,h.n,λc b=>by rw[A];exact Ri _ b,h.c,λk c i b hn=> ?_⟩
 . rw[e,ZGC λp g q=> ?_]
   . exact b
   . have:=Zd.1 h1 p (by rw[e,YM];exact g);rw[q,b]at this;exact ht<|XX.1 this
 . rw[u,ZNg λp g q=> ?_]
   . exact b
   . have:=Zd.1 h2 p (by rw[u,YM];exact g);rw[q]at this;have hb:Nat.blt a s.n=true:=SC w;have this:(Bool.rec true (memP C a j) (Nat.blt a s.n):Bool)=true:=this;rw[hb]at this;exact hn (ZPd.1 this)
 . rw[x,ZGC λp g q=> ?_]
   . exact i
   . have:=y p g;omega
 . rw[v,ZGC λp g q=> ?_]
   . exact b
   . have:=Zd.1 h3 p (by rw[v,YM];exact g);rw[q]at this;have hb:Nat.blt k s.n=true:=SC i;have this:(Bool.rec true (Xu R k) (Nat.blt k s.n):Bool)=true:=this;rw[hb]at this;exact hn (XX.1 this)
theorem ZNa{I J:In}{c:CV}{v:Value}(h:VR I c v):VR J (old1 c) v:=by
 cases c<;>simp only[old1,VR]at h|-<;>exact h
theorem ZNf{I J:In}:∀{l:List CV} {vs:List Value},VRs I l vs->VRs J (mapC l) vs
  |[],vs,h=>by cases h.un0;exact VRs.nil
  | c::l,vs,h=>by
    obtain⟨v,us,rfl,h1,h2⟩:=h.un;exact VRs.cons (ZNa h1)<|ZNf h2
theorem ZNZ{I J:In}{c:CV}{v:Value}(h:VR I c v):VR J (oldC c) v:=by
  cases c with
  | tu l=>
    simp only[VR]at h;obtain⟨vs,rfl,h⟩:=h;show VR J (.tu<|mapC l) _;simp only[VR];exact⟨vs,rfl,ZNf h⟩
  |_=>exact ZNa h
section
variable{β:Type}{r:β}{x:Cx}{X:Env}{s q:PS}{I I0:In}{seg seg0:Nat->Own}{l:Slots}{own own0:List Own}{H H0:Heaplet}
variable{ops:Array Oper}{Q:Exit->Act->World->Prop}{rest:List Oper}{ty:TypeId}{d:Nat}{pos:String}{aft:Array Edge}
structure DR (x:Cx) (s q:PS) (I0:In) (seg0:Nat->Own) (n0:Nat) (H0:Heaplet) (I:In) (seg:Nat->Own) (l:Slots) (own:List Own) (H:Heaplet):Prop where
  fs:RS x s I seg l own H
  fq:RS x q I0 seg0 l ((List.range n0).map seg0) H0
  fle:n0<=s.n
  fseg:∀a,a<n0->seg a=seg0 a
  fH:Hle H0 H
  fI:I0.Le I
  fn:q.n=n0
theorem DR.put{n0:Nat}(h:DR x s q I0 seg0 n0 H0 I seg l own H){c c0:CV}{v:Value}(h1:VR I c v)(h2:VR I0 c0 v):DR x (s.st d c) (q.st d c0) I0 seg0 n0 H0 I seg ((d,v)::l) own H:=
 ⟨h.fs.put h1,h.fq.put h2,h.fle,h.fseg,h.fH,h.fI,h.fn⟩
theorem V7{l:Array Bool}{i:Nat}(h:ZDx ops l i=true):Take ops l i (l.setIfInBounds i true):=by
 unfold ZDx at h;simp only[TD]at h;exact⟨h.1,h.2,rfl⟩
theorem ZMs{R:List Nat}{i:Nat}(h:isOne R i=true):R= [i]:=by
 unfold isOne at h;split at h
 . rw[TA h]
 . cases h
theorem ZPB:∀{l:List (Nat×CV)} {t:Nat} {c:CV},ZK (wkL l) t=some c->∃c0,ZK l t=some c0/\c=wk1 c0
  |[],t,c,h=>by cases h
  | p::l,t,c,h=>by
    rw[show wkL (p::l)=(p.1,wk1 p.2)::wkL l from rfl,ZH]at h;rw[ZH];by_cases q:p.1=t
    . rw[TJ q]at h|-;cases h;exact⟨_,rfl,rfl⟩
    . rw[TK q]at h|-;exact ZPB h
theorem ZSg{I J:In}(b:J.H=I.H)(d:J.q=I.q)(a:J.κ=I.κ){c:CV}{v:Value}(h:VR I c v):VR J (wk1 c) v:=by
 cases c<;>first|exact h|trivial|skip
 . simp only[wk1,VR]at h|-;rw[d,a];exact h
 . simp only[wk1,VR]at h|-;rw[d,a];exact h
 . simp only[wk1,VR]at h|-;rw[b];exact h
 . simp only[wk1,VR]at h|-;rw[b];exact h
 . simp only[wk1,VR]at h|-;unfold ElR at h|-;rw[b];exact h
 . simp only[wk1,VR]at h|-;unfold ElR at h|-;rw[b];exact h
theorem RS.wk (hs:RS x s I seg l own H):RS x ⟨s.N,wkL s.l,[],[],0,s.f,s.c,[]⟩ {I with n:=0} seg l [] H:=by
 refine⟨hs.N,hs.H,rfl,hs.q,rfl,λt c e=> ?_,λa m e=>(by cases e),λa o c e=>(by cases e),hs.fx,λk c e=>(by cases e),λk c e=>(by cases e),λk c j d e=>(by cases e)⟩;obtain⟨c0,e1,rfl⟩:=ZPB e;rcases hs.sl t c0 e1 with rfl|⟨v,b,g⟩
 . exact .inl rfl
 . exact .inr ⟨v,b,ZSg (I:=I) (J:={I with n:=0}) rfl rfl rfl g⟩
theorem ZSS{k:PS->Option β}:q.wk k=k ⟨q.N,wkL q.l,[],[],0,q.f,q.c,[]⟩:=Y7 _ _
theorem ZNM:∀{l:List (Nat×CV)} {t:Nat},ZK (wkL l) t=(ZK l t).map wk1
  |[],t=>rfl
  | p::l,t=>by
    rw[show wkL (p::l)=(p.1,wk1 p.2)::wkL l from rfl,ZH,ZH];by_cases h:p.1=t
    . rw[TJ h,TJ h];rfl
    . rw[TK h,TK h];exact ZNM
theorem ZP0{c:CV}(h:fullC (wk1 c)=true):fullC c=true:=by
 cases c<;>first|exact h|rfl|(cases h;done)
theorem ZRj{os:List Operand}(h:allQ ⟨q.N,wkL q.l,[],[],0,q.f,q.c,[]⟩ os=true):allQ q os=true:=by
  refine Zd.2 λo a=> ?_;have:=Zd.1 h o a;cases o with
  | tmp t=>
    simp only[ZNM]at this|-;cases e:ZK q.l t with
    |none=>rw[e]at this;cases this
    |some c=>rw[e]at this;exact ZP0 this
  |_=>rfl
abbrev SO (seg0:Nat->Own)(T:List Nat)(l:List Nat):Segs:=l.map λa=>(seg0 a,T)
theorem ZGb{seg0:Nat->Own}{T D:List Nat}(h:(T.all λt=>D.contains t)=true):∀l:List Nat,Qw D (SO seg0 T l)=l.map seg0
  |[]=>rfl
  | a::l=>by
    show cond (T.all λt=>D.contains t) (seg0 a::Qw D (SO seg0 T l)) (Qw D<|SO seg0 T l)=_;rw[h,ZGb h l];rfl
theorem ZEj{seg0:Nat->Own}{T D:List Nat}(h:(T.all λt=>D.contains t)=false):∀l:List Nat,Qw D (SO seg0 T l)= []
  |[]=>rfl
  | a::l=>by
    show cond (T.all λt=>D.contains t) (seg0 a::Qw D (SO seg0 T l)) (Qw D<|SO seg0 T l)=_;rw[h,ZEj h l];rfl
theorem ZJu{seg0:Nat->Own}{T:List Nat}{L:Array Bool}{own:List Own}:∀l:List Nat,(∀a∈l,∃i:Nat,own[i]? =some (seg0 a))->Kept' (SO seg0 T l) L own
 |[],_=>trivial
 |a::l,h=>⟨.inr (h a<|by simp),ZJu l λb hb=>h b<|by simp[hb]⟩
theorem ZMj{seg0:Nat->Own}{T:List Nat}{L:Array Bool}{own:List Own}{t:Nat}(ht:t∈T)(h:L.getD t true=true):∀l:List Nat,Kept' (SO seg0 T l) L own
 |[]=>trivial
 |a::l=>⟨.inl<|List.any_eq_true.2 ⟨t,ht,h⟩,ZMj ht h l⟩
theorem GN{seg0:Nat->Own}{T:List Nat}{i:Nat}(h:(!(Xu T i))=true)(l:List Nat):ZB2 (SO seg0 T l) i=true:=by
 refine Ti.2 λx b=> ?_;obtain⟨a,_,rfl⟩:=T7.1 b;have h1:Xu T i=false:=by simpa using h
 have h2:i∉T:=λc=>by rw[XX.2 c]at h1;cases h1
 simpa using h2
def Ph (I0 I1:In)(n0 nS:Nat)(T:List Nat)(L:Array Bool):Prop:=(I1=I0/\n0=nS)\/(n0=0/\∃t∈T,L.getD t true=true)
theorem ZLf{L:Array Bool}{i t:Nat}(h:L.getD t true=true):(L.setIfInBounds i true).getD t true=true:=by
 by_cases c:i=t
 . subst c;rcases SZ i L.size with a|a
   . simp[a]
   . simp[Sh a]
 . rw[getD_set_ne true c];exact h
theorem ZBF{L:Array Bool}{i:Nat}:(L.setIfInBounds i true).getD i true=true:=by
 rcases SZ i L.size with h|h
 . simp[h]
 . simp[Sh h]
theorem Ph.set{I0 I1:In}{n0 nS:Nat}{T:List Nat}{L:Array Bool}(i:Nat)(h:Ph I0 I1 n0 nS T L):Ph I0 I1 n0 nS T (L.setIfInBounds i true):=
 h.imp id fun⟨a,t,b,c⟩=>⟨a,t,b,ZLf c⟩
abbrev Ih (x:Cx)(ops:Array Oper)(K:Act->World->Prop)(T:List Nat)(s0:PS)(Ib:In)(sb:Nat->Own)(Hb:Heaplet)(ih:Dk β)(r:β)(I0:In)(seg0:Nat->Own)(nS:Nat)(H0:Heaplet):Prop:=
 ∀{m:Nat} {a:Array Bool} {k:List (Nat×Bool)} {s q:PS} {I1 I:In} {n0:Nat} {seg:Nat->Own} {l:Slots} {own:List Own} {H:Heaplet},ih m a k s q=some r->DR x s q I1 seg0 n0 H0 I seg l own H->Ph I0 I1 n0 nS T a->Go s0 Ib sb Hb s I seg H->JB x ops K (SO seg0 T<|List.range nS) H0 m a l own H
variable{K:Act->World->Prop}{s0:PS}{Ib I1:In}{sb:Nat->Own}{Hb:Heaplet}{n0 nS:Nat}{ih:Dk β}{T:List Nat}
theorem DR.wk{n0:Nat}(h:DR x s q I1 seg0 n0 H0 I seg l own H):DR x s ⟨q.N,wkL q.l,[],[],0,q.f,q.c,[]⟩ {I1 with n:=0} seg0 0 H0 I seg l own H:=
 ⟨h.fs,h.fq.wk,TQ _,λa b=>absurd b<|Tn a,h.fH,⟨h.fI.H,TQ _,λk d=>absurd d<|Tn k,h.fI.q,h.fI.κ⟩,rfl⟩
theorem DR.wk_le{n0:Nat}(h:DR x s q I1 seg0 n0 H0 I seg l own H):({I1 with n:=0}:In).Le I1:=⟨Rz _,TQ _,λk a=>absurd a<|Tn k,TF _,λ_ _=>rfl⟩
theorem ZKA (y:Reg ops)(hI:Ih x ops K T s0 Ib sb Hb ih r I0 seg0 nS H0){m i:Nat}{a:Array Bool}{z:List (Nat×Bool)}(h:DR x s q I1 seg0 n0 H0 I seg l own H)(F:Ph I0 I1 n0 nS T a)(G:Go s0 Ib sb Hb s I seg H){o:Oper}(A:ops[i]? =some o){j t:Nat}{b:Bool}(B:o.guard=some (j,b)){C:Oper}
    (D:ops[j]? =some C)(ht:C.dst=some t)(k:(∃p,lk l t=some (.bool p)/\(p==b)=false)\/lk l t=some undef)(f:bb (!(Xu T i)) (dskp ops m a z s q i o.dst ih) none=some r):JB x ops K (SO seg0 T<|List.range nS) H0 m a l own H:=by
  obtain⟨hn,f⟩:=ZC f;obtain⟨h1,f⟩:=ZC f;obtain⟨u,op,ty,pos,aft,g⟩:=o;simp only at B;subst B;cases m with
  |zero=>cases f
  | succ m=>
    cases u with
    |none=>cases f
    | some d=>
      obtain⟨h2,h3⟩:=YZ<|show s.put d .und (λs=>ih m (a.setIfInBounds i true) z s<|q.st d .und)=some r from f
      have E:Nat.blt d x.n=true:=(by rw[<-h.fs.N];exact h2);have e:=hI h3 (h.put (d:=d) (c:=.und) (c0:=.und) (v:=undef) (by simp only[VR]) (by simp only[VR])) (F.set i)<|G.trans<|Go.st _ _ _ _ _ _;rcases k with⟨p,w,J⟩|w
      . exact JB.no A D ht w J e (V7 h1) (GN hn _) E
      . exact ON A D ht w e (V7 h1) (GN hn _) E
theorem ZM1 (z:x.P=X.P)(hI:Ih x ops K T s0 Ib sb Hb ih r I0 seg0 nS H0){m i:Nat}{a:Array Bool}{n:List (Nat×Bool)}{v:PS}{Iv:In}{o:Nat}(D:List Nat)(h:DR x s q I1 seg0 n0 H0 I seg l own H)(A:Ph I0 I1 n0 nS T a)(B:Go s0 Ib sb Hb s I seg H)
    (C:RS x v Iv seg0 l ((List.range o).map seg0) H0)(e:Iv.Le I1){op:Op}{ty:TypeId}{pos:String}{aft:Array Edge}{g:Option (Nat×Bool)}{d:Nat}(E:ops[i]? =some ⟨some d,op,ty,pos,aft,g⟩)(F:WP ops l g)(h1:ZDx ops a i=true)(hn:(!(Xu T i))=true)
    (G:hangs .any ops i D a=true)(hs:isMem X.P op=true->Qw D (SO seg0 T<|List.range nS)=(List.range o).map seg0)
    (b:dlk X m a n s q v i d op ih=some r):JB x ops K (SO seg0 T<|List.range nS) H0 (m+1) a l own H:=by
  obtain⟨_,b⟩:=ZC b;cases p:isMem X.P op with
  | true=>
    obtain⟨c,w,t,k,b⟩:=ZD2 (ty:=ty) (M:=AtM ((List.range o).map seg0) H0) z C (λ_ _ _ u=>u) b;have f:=(ZJC c _).symm.trans b;have j:s.put d c (λs=>q.lay d c λq=>ih m (a.setIfInBounds i true) n s q)=some r:=f;obtain⟨y,b⟩:=YZ j;exact JB.val D E (by rw[hs p];exact t _ _ ⟨rfl,rfl⟩) (hI b (h.put (k.mono<|e.trans h.fI)<|k.mono e) (A.set i)<|B.trans<|Go.st _ _ _ _ _ _) (V7 h1) F G (GN hn _) (by rw[<-h.fs.N];exact y)
  | false=>
    obtain⟨c,w,t,k,b⟩:=ZD2 (ty:=ty) (M:=λ_ _=>True) z C (λu=>by rw[u]at p;cases p) b;have f:=(ZJC c _).symm.trans b;have j:s.put d c (λs=>q.lay d c λq=>ih m (a.setIfInBounds i true) n s q)=some r:=f;obtain⟨y,b⟩:=YZ j;exact JB.val D E (t _ _ trivial) (hI b (h.put (k.mono<|e.trans h.fI)<|k.mono e) (A.set i)<|B.trans<|Go.st _ _ _ _ _ _) (V7 h1) F G (GN hn _) (by rw[<-h.fs.N];exact y)
noncomputable abbrev kE (ih:Dk β) (m:Nat) (a:Array Bool) (k:List (Nat×Bool)) (s':PS) (i:Nat) (b:Option Nat) (q:PS):Option β:=match b with
  |some d=>oB (ZK s'.l d) λc=>q.lay d (oldC c) λq=>ih m (a.setIfInBounds i true) k s' q
  |none=>ih m (a.setIfInBounds i true) k s' q
abbrev lE (a:Option Nat)(v:Value)(l:Slots):Slots:=match a with|some d=>(d,v)::l|none=>l
theorem ZLy (V:EnvOk X)(W:x.P=X.P)(hI:Ih x ops K T s0 Ib sb Hb ih r I0 seg0 nS H0){m i:Nat}{b:Array Bool}{M:List (Nat×Bool)}(h:DR x s q I1 seg0 n0 H0 I seg l own H)(F:Ph I0 I1 n0 nS T b)(Q:Go s0 Ib sb Hb s I seg H){o:Oper}(Y:ops[i]? =some o)(Z:WP ops l o.guard)
    (R:dactE X ops T m b M s q i o ih=some r):JOB x ops K (SO seg0 T<|List.range nS) H0 m b i l own H:=by
  obtain⟨u,op,ty,pos,aft,g⟩:=o;unfold dactE at R;have J:=R;clear R;refine JOB.step Y Z rfl λK' S=> ?_;refine ZF7 V W h.fs J λs' I' seg' v own' H' g j w=>JL.nil ?_;clear J;have L:∀{G:PS} {C:In} {A:Nat},DR x s G C seg0 A H0 I seg l own H->(∀a,a<A->seg' a=seg0 a)->A<=s'.n->Ph I0 C A nS T (b.setIfInBounds i true)->Kept' (SO seg0 T<|List.range nS) (b.setIfInBounds i true) own'->
      kE ih m b M s' i u G=some r->JN x K' (lE u v l) own' H':=by
    intro G C A k f y D E j;cases u with
    | none=>
      have z:DR x s' G C seg0 A H0 I' seg' l own' H':=⟨w,k.fq,y,f,k.fH.trans g.H,k.fI.trans g.I,k.fn⟩;exact S _ _ _ (k.fH.trans g.H) E (hI j z D<|Q.trans g)
    | some d=>
      obtain⟨c,e1,j⟩:=Zb j;rcases w.sl _ _ e1 with rfl|⟨v',f1,f2⟩
      . have z:DR x s' (G.st d<|oldC .unk) C seg0 A H0 I' seg' ((d,v)::l) own' H':=⟨w,k.fq.put (v:=v) (by show VR C .any v;simp only[VR]),y,f,k.fH.trans g.H,k.fI.trans g.I,k.fn⟩;exact S _ _ _ (k.fH.trans g.H) E<|hI j z D<|Q.trans g
      . have:v'=v:=(by simpa[lk,lput]using f1.symm);subst this;have z:DR x s' (G.st d<|oldC c) C seg0 A H0 I' seg' ((d,v')::l) own' H':=⟨w,k.fq.put<|ZNZ f2,y,f,k.fH.trans g.H,k.fI.trans g.I,k.fn⟩;exact S _ _ _ (k.fH.trans g.H) E<|hI j z D<|Q.trans g
  cases N:Xu T i with
  | true=>
    rw[N]at j;have U:=show(q.wk λq=>kE ih m b M s' i u q)=some r from j;rw[ZSS]at U;clear j;have j:=U;exact L h.wk (λa B=>absurd B<|Tn a) (TQ _) (.inr ⟨rfl,i,XX.1 N,ZBF⟩) (ZMj (XX.1 N) ZBF _) j
  | false=>
    rw[N]at j;obtain⟨O,j⟩:=ZC j;have f:∀a,a<n0->seg' a=seg0 a:=λa B=>by
      unfold okN at O;simp only[TD]at O;rw[<-h.fseg a B];refine g.g a (Tj B h.fle) (λp F e=> ?_) λp F e=> ?_
      . have:=TI<|Zd.1 O.1 p F;rw[h.fn,e]at this;omega
      . have:=TI<|Zd.1 O.2 p F;rw[h.fn,e]at this;omega
    have y:=TS h.fle g.e.n;refine L h f y (F.set i) ?_<|show kE ih m b M s' i u q=some r from j;rcases F with⟨_,rfl⟩|⟨_,t,ht,hL⟩
    . refine ZJu _ λa B=>⟨a,?_⟩;have B:a<n0:=(by simpa using B);rw[w.own];simp[show a<s'.n by omega,f a B]
    . exact ZMj ht (ZLf hL) _
theorem JB.many{so:Segs}{s:Heaplet}{f:Nat}{b:Array Bool}{R:List Nat}(g:Region.ready .any ops b=R)(d:R≠[])(h1:∀i∈R,JOB x ops K so s f b i l own H):
 JB x ops K so s (f+1) b l own H:=λh e j a w m=>by
 refine⟨λh0=>(by rw[g]at h0;exact absurd h0 d),λk c=> ?_⟩;rw[g]at c;exact h1 k c h e j a w m
theorem ZLw (c:EnvOk X)(d:x.P=X.P)(hI:Ih x ops K T s0 Ib sb Hb ih r I0 seg0 nS H0){m i:Nat}{a:Array Bool}{k:List (Nat×Bool)}(h:DR x s q I1 seg0 n0 H0 I seg l own H)(e:Ph I0 I1 n0 nS T a)(f:Go s0 Ib sb Hb s I seg H)
 (b:deff1 X ops T m a k s q ih i=some r):JOB x ops K (SO seg0 T<|List.range nS) H0 m a i l own H:=by
 obtain⟨o,g,b⟩:=Zb b;split at b
 . rename_i j;exact ZLy c d hI h e f g (by rw[j];trivial) b
 . cases b
theorem ZLv (d:EnvOk X)(e:x.P=X.P)(hI:Ih x ops K T s0 Ib sb Hb ih r I0 seg0 nS H0){m:Nat}{b:Array Bool}{k:List (Nat×Bool)}(h:DR x s q I1 seg0 n0 H0 I seg l own H)(f:Ph I0 I1 n0 nS T b)(g:Go s0 Ib sb Hb s I seg H):
    ∀(R:List Nat) (i:Nat),deffL X ops T m b k s q ih i R=some r->∀j∈i::R,JOB x ops K (SO seg0 T<|List.range nS) H0 m b j l own H
  | [],i,n,j,c=>by
    cases Sz.1 c;exact ZLw d e hI h f g n
  | a::R,i,n,j,c=>by
    obtain⟨h1,h2⟩:=BQ<|show agree (deff1 X ops T m b k s q ih i) (deffL X ops T m b k s q ih a R)=some r from n
    rcases Ta.1 c with rfl|c
    . exact ZLw d e hI h f g h1
    . exact ZLv d e hI h f g R a h2 j c
theorem ZKF (O : EnvOk X)(y:x.P=X.P)(E:Reg ops)(hI:Ih x ops K T s0 Ib sb Hb ih r I0 seg0 nS H0){m i:Nat}{a:Array Bool}{k:List (Nat×Bool)}{F:Bool}(h:DR x s q I1 seg0 n0 H0 I seg l own H)(j:Ph I0 I1 n0 nS T a)(z:Go s0 Ib sb Hb s I seg H){o:Oper}(A:ops[i]? =some o)(B:WP ops l o.guard)
    (e:dact X ops T m a k s q i F o ih=some r):JB x ops K (SO seg0 T<|List.range nS) H0 m a l own H:=by
  obtain⟨n,op,ty,pos,aft,g⟩:=o;cases m with
  |zero=>cases e
  | succ m=>
    cases F with
    | false=>
      obtain⟨h1,e⟩:=ZC<|show bb (isOne (Region.ready .any ops a) i) (dactE X ops T m a k s q i ⟨n,op,ty,pos,aft,g⟩ ih) none=some r from e
      exact JB.one (ZMs h1) (ZLy O y hI h j z A B e)
    | true=>
      obtain⟨h1,e⟩:=ZC (show bb (Bool.and (ZDx ops a i)<|!(Xu T i)) (match n with
        | some d=>Bool.rec
          (Bool.rec (pvl X s op λc=>s.put d c λs'=>fC (oldC c) λc=>q.lay d c λq=>ih m (a.setIfInBounds i true) k s' q) (dlk X m a k s q q i d op ih) (allQ q op.operands.toList))
          (Bool.rec (q.wk λv=>dlk X m a k s q v i d op ih) (dlk X m a k s q q i d op ih) (Bool.and (allQ q op.operands.toList) (Dm ops T a i))) (isMem X.P op)
        |none=>none) none=some r from e)
      simp only[TD]at h1;obtain⟨h1,hn⟩:=h1;cases n with
      |none=>cases e
      | some d=>
        cases u:isMem X.P op with
        | false=>
          replace e:=show(Bool.rec (Bool.rec (pvl X s op λc=>s.put d c λs'=>fC (oldC c) λc=>q.lay d c λq=>ih m (a.setIfInBounds i true) k s' q) (dlk X m a k s q q i d op ih) (allQ q op.operands.toList))
            (Bool.rec (q.wk λv=>dlk X m a k s q v i d op ih) (dlk X m a k s q q i d op ih) (Bool.and (allQ q op.operands.toList) (Dm ops T a i))) (isMem X.P op):Option β)=some r from e
          rw[u]at e;cases b:allQ q op.operands.toList with
          | false=>
            rw[b]at e;obtain⟨c,v,Q,G,e⟩:=ZD2 (ty:=ty) (M:=λ_ _=>True) y h.fs (λC=>by rw[C]at u;cases u) e;obtain⟨R,e⟩:=YZ e;rw[ZJC]at e;exact JB.val [] A (Q _ _ trivial) (hI e (h.put G<|ZNZ G) (j.set i)<|z.trans<|Go.st _ _ _ _ _ _) (V7 h1) B rfl (GN hn _) (by rw[<-h.fs.N];exact R)
          | true=>
            rw[b]at e;exact ZM1 y hI [] h j z h.fq (In.Le.refl _) A B h1 hn rfl (λC=>by rw[C]at u;cases u) e
        | true=>
          replace e:=show(Bool.rec (Bool.rec (pvl X s op λc=>s.put d c λs'=>fC (oldC c) λc=>q.lay d c λq=>ih m (a.setIfInBounds i true) k s' q) (dlk X m a k s q q i d op ih) (allQ q op.operands.toList))
            (Bool.rec (q.wk λv=>dlk X m a k s q v i d op ih) (dlk X m a k s q q i d op ih) (Bool.and (allQ q op.operands.toList) (Dm ops T a i))) (isMem X.P op):Option β)=some r from e
          rw[u]at e;cases b:Bool.and (allQ q op.operands.toList) (Dm ops T a i)with
          | true=>
            rw[b]at e;simp only[TD]at b;have w:=b.2;unfold Dm at w;simp only[TD]at w;refine ZM1 y hI (descD ops T a i) h j z h.fq (In.Le.refl _) A B h1 hn w.2 (λ_=> ?_) e;rw[ZGb w.1];rcases j with⟨_,rfl⟩|⟨_,t,ht,S⟩
            . rfl
            . have h3:=Ti.1 w.1 t ht;have J:=Ti.1 w.2 t (by simpa using h3);rw[S]at J;cases J
          | false =>
            rw[b]at e;have p:=show(q.wk λv=>dlk X m a k s q v i d op ih)=some r from e;rw[ZSS]at p;cases L:(T.all λt=>([]:List Nat).contains t)with
            |false=>exact ZM1 y hI [] h j z h.wk.fq (h.wk_le) A B h1 hn rfl (λ_=>ZEj L _) p
            | true=>
              have D:T= []:=by
                cases T with
                |nil=>rfl
                |cons t T=>simp at L
              subst D;rcases j with⟨_,rfl⟩|⟨_,t,ht,_⟩
              . have U:allQ q op.operands.toList=false:=by
                  have V:Dm ops [] a i=true:=rfl;rw[V]at b;simpa using b
                obtain⟨W,_⟩:=ZC<|show bb (allQ ⟨q.N,wkL q.l,[],[],0,q.f,q.c,[]⟩ op.operands.toList) _ none=some r from p
                exact absurd (ZRj W) (by rw[U];simp)
              . cases ht
theorem ZLq (E:EnvOk X)(F:x.P=X.P)(j:Reg ops)(hI:Ih x ops K T s0 Ib sb Hb ih r I0 seg0 nS H0){m i:Nat}{a:Array Bool}{p:List (Nat×Bool)}{G:Bool}(h:DR x s q I1 seg0 n0 H0 I seg l own H)(u:Ph I0 I1 n0 nS T a)(w:Go s0 Ib sb Hb s I seg H)
    (k:dstep X ops T m a p s q i G ih=some r):JB x ops K (SO seg0 T<|List.range nS) H0 m a l own H:=by
  obtain⟨o,A,k⟩:=Zb k;cases y:o.guard with
  | none=>
    rw[y]at k;exact ZKF E F j hI h u w A (by rw[y];trivial) k
  | some M =>
    obtain⟨g,b⟩:=M;rw[y]at k;obtain⟨t,e1,k⟩:=Zb k;obtain⟨J,e2,e3⟩:=Zb e1;obtain⟨c,e4,k⟩:=Zb k;rcases h.fs.sl _ _ e4 with rfl|⟨v,z,D⟩
    . cases k
    . have C:∀(k:oBo c (λe=>(match ZK p t with
          |none=>cond e (flag s t c true λs=>q.lay t (.b true) λq=>ih m a ((t,true)::p) s q) (flag s t c false λs=>q.lay t (.b false) λq=>ih m a ((t,false)::p) s q)
          |some _=>cond e (Bool.rec (bb (!(Xu T i)) (dskp ops m a p s q i o.dst ih) none) (dact X ops T m a p s q i G o ih) b) (Bool.rec (dact X ops T m a p s q i G o ih) (bb (!(Xu T i)) (dskp ops m a p s q i o.dst ih) none) b)))=some r),
          JB x ops K (SO seg0 T (List.range nS)) H0 m a l own H:=by
        intro k;obtain⟨e,hb,k⟩:=GM k;have L:=hb.le _ _ D;simp only[VR]at L;subst L;split at k
        . have fl:∀B,e=B->DR x (flagS s t c B) (q.st t<|.b B) I1 seg0 n0 H0 I seg ((t,.bool B)::l) own H:=λB d=>
            ⟨h.fs.flag D hb.le d,h.fq.put (by simp only[VR]),TS h.fle (Ext.flag s t c B).n,h.fseg,h.fH,h.fI,h.fn⟩
          rcases GY k with⟨d,f⟩|⟨d,f⟩
          . rw[ZAZ]at f;exact Ps z (λ_=>hI f (fl true d) u<|w.trans<|Go.flag _ _ _ _ _ _ _) λq=>by rw[d]at q;cases q
          . rw[ZAZ]at f;exact Ps z (λq=>by rw[d]at q;cases q) λ_=>hI f (fl false d) u<|w.trans<|Go.flag _ _ _ _ _ _ _
        . rcases GY k with⟨d,f⟩|⟨d,f⟩
          . subst d;cases b with
            |true=>exact ZKF E F j hI h u w A (by rw[y];exact⟨t,J,e2,e3,z⟩) f
            |false=>exact ZKA j hI h u w A y e2 e3 (.inl ⟨true,z,rfl⟩) f
          . subst d;cases b with
            |true=>exact ZKA j hI h u w A y e2 e3 (.inl ⟨false,z,rfl⟩) f
            |false=>exact ZKF E F j hI h u w A (by rw[y];exact⟨t,J,e2,e3,z⟩) f
      cases c with
      |und=>simp only[VR]at D;subst D;exact ZKA j hI h u w A y e2 e3 (.inr z) k
      |_=>exact C k
theorem ZJg (c:EnvOk X)(d:x.P=X.P)(b:Reg ops){k:PS->Option β}(e:∀s' I' seg' l' own' H',Go s0 Ib sb Hb s' I' seg' H'->k s'=some r->RS x s' I' seg' l' own' H'->JN x K l' own' H'):∀(n:Nat),Ih x ops K T s0 Ib sb Hb (pdr X ops T k n) r I0 seg0 nS H0
  |0=>by intro h _ _ _;cases h
  | n + 1 =>by
    rename_i m a f s q I1 I n0 seg l own H;intro h g p o;replace h:=show(match Region.ready .any ops a with
      |[]=>k s
      | i0::R=>(match findB (rdOk X ops T a s q f) (i0::R)with
        |some i=>dstep X ops T m a f s q i true (pdr X ops T k n)
        |none=>(match R with|[]=>dstep X ops T m a f s q i0 false (pdr X ops T k n)|j::R=>deff X ops T m a f s q (pdr X ops T k n) i0 (j::R))))=some r from h
    split at h
    . rename_i t;exact PH t<|e _ _ _ _ _ _ o h g.fs
    . rename_i t;split at h
      . exact ZLq c d b (ZJg c d b e n) g p o h
      . split at h
        . exact ZLq c d b (ZJg c d b e n) g p o h
        . cases m with
          |zero=>cases h
          |succ m=>exact JB.many t (by intro q;cases q)<|ZLv c d (ZJg c d b e n) g p o _ _ h
theorem ZP6 (p:EnvOk X)(m:x.P=X.P){id:Nat}{mb:Option (List Nat)}{k:PS->Option β}(hs:RS x s I seg l own H)(h:drawn X ops mb s k=some r)(f:∀s' I' seg' l' own' H',Go s I seg H s' I' seg' H'->k s'=some r->RS x s' I' seg' l' own' H'->JN x (Q .normal) l' own' H'):JC x (.region id ops true) Q l own H:=by
  obtain⟨o,h⟩:=ZC h;simp only[TD]at o;obtain⟨q,h1,h2⟩:=o;have e:∀{s:PS} {I:In} {seg:Nat->Own} {own:List Own} {H:Heaplet} (T:List Nat),RS x s I seg l own H->pdr X ops T k (2*ops.size+1) ops.size (Array.replicate ops.size false) [] s s=some r->(∀s' I' seg' l' own' H',Go s I seg H s' I' seg' H'->k s'=some r->RS x s' I' seg' l' own' H'->JN x (Q .normal) l' own' H')->JC x (.region id ops true) Q l own H:=by
    intro s I seg own H T hs h f;have t:DR x s s I seg s.n H I seg l own H:=⟨hs,by rw[<-hs.own];exact hs,TF _,λ_ _=>rfl,Rz _,In.Le.refl _,rfl⟩;have u:=ZJg (K:=Q .normal) p m ⟨h1,h2⟩ f _ h t (.inl ⟨rfl,rfl⟩) (Go.refl _ _ _ _);refine Q7 ops.size rfl (by rw[m];exact q) ⟨h1,h2⟩ (ZJu _ λa i=>⟨a,?_⟩) u;have i:a<s.n:=(by simpa using i);rw[hs.own];simp[i]
  cases mb with
  | none=>
    replace h:=show U4 (ownL s<|mvsL (Jf X s ops.toList++callA ops.toList) ops.toList++(Jf X s ops.toList++callA ops.toList)) s (λs=>pdr X ops [] k (2*ops.size+1) ops.size (Array.replicate ops.size false) [] s s)=some r from h;rw[Vu]at h;refine Gs (js:=ownL s<|mvsL (Jf X s ops.toList++callA ops.toList) ops.toList++(Jf X s ops.toList++callA ops.toList)) (K:=λa w=>(Code.region id ops true).wpIn (Fw x.r) 0 x.P Q a w) hs λseg2 own2 H2 j b=> ?_;exact e [] b h (λs' I' seg' l' own' H' g c d=>f s' I' seg' l' own' H' (j.trans g) c d)
  | some T=>
    replace h:=show U4 (ownL s<|mvsL (Jf X s ops.toList) ops.toList++Jf X s ops.toList) s (λs=>pdr X ops T k (2*ops.size+1) ops.size (Array.replicate ops.size false) [] s s)=some r from h;rw[Vu]at h;refine Gs (js:=ownL s<|mvsL (Jf X s ops.toList) ops.toList++Jf X s ops.toList) (K:=λa w=>(Code.region id ops true).wpIn (Fw x.r) 0 x.P Q a w) hs λseg2 own2 H2 j b=> ?_;exact e T b h λs' I' seg' l' own' H' g c d=>f s' I' seg' l' own' H' (j.trans g) c d
end
mutual
theorem Pj{I J K:In}(r:J.H=K.H)(hn:J.n=I.n)(w:J.q=I.q)(d:J.ν=K.ν)(p:J.κ=K.κ):∀{c:CV} {u v:Value},VR I c u->VR K c v->VR J c v
  | .i n,u,v,h,k=>k
  | .n c j,u,v,h,k=>by simp only[VR]at h k|-;exact⟨by rw[w];exact h.1,by rw[p];exact k.2.1,k.2.2⟩
  | .ln j,u,v,h,k=>k
  | .bc c m _,u,v,h,k=>by simp only[VR]at h k|-;exact⟨by rw[w];exact h.1,by rw[p];exact k.2.1,k.2.2⟩
  | .w8 x,u,v,h,k=>k
  | .w32 x,u,v,h,k=>k
  | .w64 x,u,v,h,k=>k
  | .b x,u,v,h,k=>k
  | .s l,u,v,h,k=>k
  | .sl t m,u,v,h,k=>by simp only[VR]at k|-;rw[r];exact k
  | .cl t m,u,v,h,k=>by simp only[VR]at k|-;rw[r];exact k
  | .rv t a g,u,v,h,k=>by simp only[VR]at h k|-;exact⟨by rw[hn];exact h.1,by rw[d];exact k.2⟩
  | .sv a _ n,u,v,h,k=>by simp only[VR]at h k|-;exact⟨by rw[hn];exact h.1,by rw[d];exact k.2⟩
  | .nils,u,v,h,k=>k
  | .nilp,u,v,h,k=>k
  | .nili,u,v,h,k=>k
  | .ptr a o,u,v,h,k=>by simp only[VR]at h k|-;exact⟨by rw[hn];exact h.1,by rw[d];exact k.2⟩
  | .el t x o,u,v,h,k=>by simp only[VR]at k|-;unfold ElR at k|-;rw[r];exact k
  | .oel t x,u,v,h,k=>by simp only[VR]at k|-;unfold ElR at k|-;rw[r];exact k
  | .orel t a x,u,v,h,k=>by
    simp only[VR]at h k|-;rcases k with k|⟨y,e,k⟩
    . exact .inl k
    . rcases h with⟨e2,_⟩|⟨D,e2,h⟩
      . rw[e]at e2;cases e2
      . exact .inr ⟨y,e,by rw[hn];exact h.1,by rw[d];exact k.2⟩
  | .clo f l m,u,v,h,k=>by
    simp only[VR]at h k|-;obtain⟨E,F,_,h1,h2⟩:=h;obtain⟨z,A,e,B,C⟩:=k;exact⟨z,A,e,PT r hn w d p h1 B,PT r hn w d p h2 C⟩
  | .fn f,u,v,h,k=>k
  | .row a,u,v,h,k=>by simp only[VR]at h k|-;exact⟨by rw[hn];exact h.1,by rw[d];exact k.2⟩
  | .rel t a i o,u,v,h,k=>by simp only[VR]at h k|-;exact⟨by rw[hn];exact h.1,by rw[d];exact k.2⟩
  | .ag l,u,v,h,k=>by
    simp only[VR]at h k|-;obtain⟨us,_,h⟩:=h;obtain⟨vs,e,k⟩:=k;exact⟨vs,e,PT r hn w d p h k⟩
  | .tu l,u,v,h,k=>by
    simp only[VR]at h k|-;obtain⟨us,_,h⟩:=h;obtain⟨vs,e,k⟩:=k;exact⟨vs,e,PT r hn w d p h k⟩
  | .und,u,v,h,k=>k
  | .any,u,v,h,k=>k
  | .unk,u,v,h,k=>k
theorem PT{I J K:In}(d:J.H=K.H)(hn:J.n=I.n)(e:J.q=I.q)(a:J.ν=K.ν)(b:J.κ=K.κ):∀{l:List CV} {us vs:List Value},VRs I l us->VRs K l vs->VRs J l vs
  |[],us,vs,h,k=>k
  | c::l,us,vs,h,k=>by
    obtain⟨u,f,_,h1,h2⟩:=h.un;obtain⟨v,g,rfl,i,j⟩:=k.un;exact VRs.cons (Pj d hn e a b h1 i)<|PT d hn e a b h2 j
end
noncomputable def fgtL:List Nat->List (Nat×CV)->List (Nat×CV)
 |[],l=>l
 |t::D,l=>match ZK l t with|none=>fgtL D l|some _=>fgtL D ((t,.unk)::l)
def fgtO:List (Nat×Nat)->List ((Nat×Nat)×CV)->List ((Nat×Nat)×CV)
 |[],o=>o
 |p::C,o=>fgtO C ((p,.unk)::o)
theorem ZMz{β:Type}:∀(D:List Nat) (s:PS) (k:PS->Option β),fgt D s k=k ⟨s.N,fgtL D s.l,s.o,s.z,s.n,s.f,s.c,s.r⟩
  |[],s,k=>rfl
  | t::D,s,k=>by
    show(Option.rec (fgt D s k) (λ_=>fgt D ⟨s.N,(t,.unk)::s.l,s.o,s.z,s.n,s.f,s.c,s.r⟩ k) (ZK s.l t):Option β)=_;cases h:ZK s.l t with
    |none=>show fgt D s k=_;rw[ZMz D];simp only[fgtL,h]
    |some c=>show fgt D _ k=_;rw[ZMz D];simp only[fgtL,h]
def ftR:List Nat->List (Nat×RC)->List (Nat×RC)
 |[],r=>r
 |p::C,r=>ftR C ((p,.dead)::r)
theorem ZJ7{β:Type}:∀(C:List Nat) (s:PS) (k:PS->Option β),fgtR C s k=k ⟨s.N,s.l,s.o,s.z,s.n,s.f,s.c,ftR C s.r⟩
 |[],s,k=>rfl
 |p::C,s,k=>ZJ7 C ⟨s.N,s.l,s.o,s.z,s.n,s.f,s.c,(p,.dead)::s.r⟩ k
theorem ZNm:∀(C:List Nat) (r:List (Nat×RC)),∃m,ftR C r=m++r
  |[],r=>⟨[],rfl⟩
  | p::C,r=>by
    obtain⟨m,e⟩:=ZNm C ((p,.dead)::r);exact⟨m++ [(p,.dead)],by rw[ftR,e];simp⟩
theorem Dn:∀{C:List Nat} {l:List (Nat×RC)} {k:Nat} {c:RC},ZK (ftR C l) k=some c->c=.dead\/(k∉C/\ZK l k=some c)
  |[],l,k,c,h=>.inr ⟨by simp,h⟩
  | p ::C,l,k,c,h=>by
    rcases Dn (show ZK (ftR C ((p,.dead)::l)) k=some c from h)with h|⟨h1,h2⟩
    . exact .inl h
    . rw[ZH]at h2;by_cases q:p=k
      . rw[TJ q]at h2;cases h2;exact .inl rfl
      . rw[TK q]at h2;exact .inr ⟨λa=>(Ta.1 a).elim (λe=>q e.symm) h1,h2⟩
theorem ZNo{β:Type}:∀(C:List (Nat×Nat)) (s:PS) (k:PS->Option β),fgtC C s k=k ⟨s.N,s.l,fgtO C s.o,s.z,s.n,s.f,s.c,s.r⟩
 |[],s,k=>rfl
 |p::C,s,k=>ZNo C ⟨s.N,s.l,(p,.unk)::s.o,s.z,s.n,s.f,s.c,s.r⟩ k
theorem ZGH:∀{D:List Nat} {l:List (Nat×CV)} {t:Nat} {c:CV},ZK (fgtL D l) t=some c->c=.unk\/(t∉D/\ZK l t=some c)
  |[],l,t,c,h=>.inr ⟨by simp,h⟩
  | d ::D,l,t,c,h=>by
    unfold fgtL at h;split at h
    . rename_i b;rcases ZGH h with h|⟨h1,h2⟩
      . exact .inl h
      . refine .inr ⟨λa=> ?_,h2⟩;rcases Ta.1 a with rfl|a
        . rw[b]at h2;cases h2
        . exact h1 a
    . rcases ZGH h with h|⟨h1,h2⟩
      . exact .inl h
      . rw[ZH]at h2;by_cases q:d=t
        . rw[TJ q]at h2;cases h2;exact .inl rfl
        . rw[TK q]at h2;exact .inr ⟨λa=>(Ta.1 a).elim (λe=>q e.symm) h1,h2⟩
theorem ZGG:∀{C:List (Nat×Nat)} {o:List ((Nat×Nat)×CV)} {a j:Nat} {c:CV},lkO (fgtO C o) a j=some c->c=.unk\/((a,j)∉C/\lkO o a j=some c)
  |[],o,a,j,c,h=>.inr ⟨by simp,h⟩
  | p ::C,o,a,j,c,h=>by
    rcases ZGG (show lkO (fgtO C ((p,.unk)::o)) a j=some c from h)with h|⟨h1,h2⟩
    . exact .inl h
    . rw[DZ]at h2;by_cases q:p=(a,j)
      . rw[TJ q]at h2;cases h2;exact .inl rfl
      . rw[TK q]at h2;exact .inr ⟨λb=>(Ta.1 b).elim (λe=>q e.symm) h1,h2⟩
section
variable{β:Type}{r:β}{x:Cx}{X:Env}{s s':PS}{I I':In}{seg seg':Nat->Own}{l l':Slots}{own own':List Own}{H H':Heaplet}{D:List Nat}{C:List (Nat×Nat)}{R:List Nat}
theorem RS.base (hs:RS x s I seg l own H)(ht:RS x s' I' seg' l' own' H')(b:Agr s s' D C R):
 RS x ⟨s.N,fgtL D s.l,fgtO C s.o,s.z,s.n,s.f,s.c,ftR R s.r⟩ ⟨H',I'.ν,s.n,I'.κ,s.c⟩ seg' l' ((List.range s.n).map seg') H':=by
 refine⟨hs.N,rfl,rfl,rfl,rfl,λt c e=> ?_,λa m e=> ?_,λa j c e=> ?_,λc i=> ?_,λk c e=> ?_,λk c e=> ?_,λk c j d e e2=> ?_⟩
 . rcases ZGH (show ZK (fgtL D s.l) t=some c from e)with h|⟨h1,h2⟩
   . exact .inl h
   . rcases hs.sl t c h2 with h|⟨u,_,h3⟩
     . exact .inl h
     . rcases ht.sl t c (b.l t c h2 h1)with h|⟨v,g,w⟩
       . exact .inl h
       . exact .inr ⟨v,g,Pj (I:=I) (J:=⟨H',I'.ν,s.n,I'.κ,s.c⟩) (K:=I') ht.H.symm hs.n.symm hs.q.symm rfl rfl h3 w⟩
 . obtain⟨h1,_⟩:=hs.ze a m e;obtain⟨_,h2⟩:=ht.ze a m<|b.z a m h1 e;exact⟨h1,h2⟩
 . rcases ZGG (show lkO (fgtO C s.o) a j=some c from e)with h|⟨h1,h2⟩
   . exact .inl h
   . rcases hs.ce a j c h2 with h|⟨p,_,_,u,_,_,h3⟩
     . exact .inl h
     . rcases ht.ce a j c (b.o a j c p h2 h1)with h|⟨_,cur,T,v,y,A,B⟩
       . exact .inl h
       . exact .inr ⟨p,cur,T,v,y,A,Pj (I:=I) (J:=⟨H',I'.ν,s.n,I'.κ,s.c⟩) (K:=I') ht.H.symm hs.n.symm hs.q.symm rfl rfl h3 B⟩
 . exact⟨(hs.fx c i).1,(ht.fx c<|b.f c i).2⟩
 . rcases Dn (show ZK (ftR R s.r) k=some c from e)with h|⟨h1,h2⟩
   . exact .inl h
   . rcases hs.rw k c h2 with h|⟨h3,_⟩
     . exact .inl h
     . rcases ht.rw k c (b.r k c h3 h2 h1)with h|⟨_,g⟩
       . exact .inl h
       . exact .inr ⟨h3,by rw[<-ht.H];exact g⟩
 . rcases Dn (show ZK (ftR R s.r) k=some c from e)with h|⟨h1,h2⟩
   . exact .inl h
   . exact hs.rz k c h2
 . rcases Dn (show ZK (ftR R s.r) k=some c from e)with h|⟨h1,h2⟩
   . exact .inl h
   . rcases ZGG (show lkO (fgtO C s.o) k j=some d from e2)with h|⟨_,h3⟩
     . exact .inr h
     . exact hs.ro k c j d h2 h3
theorem RS.learn (hs:RS x s I seg l own H){t:Nat}{c:CV}{v:Value}(h1:lk l t=some v)(h:VR I c v):RS x (s.st t c) I seg l own H:=by
 refine⟨hs.N,hs.H,hs.n,hs.q,hs.own,λa b e=> ?_,hs.ze,hs.ce,hs.fx,hs.rw,hs.rz,hs.ro⟩;change ZK ((t,c)::s.l) a=some b at e;rw[ZH]at e;by_cases q:t=a
 . subst q;rw[TJ rfl]at e;cases e;exact .inr ⟨v,h1,h⟩
 . rw[TK q]at e;exact hs.sl a b e
theorem RS.learnC (hs:RS x s I seg l own H){a o n:Nat}(p:ZK s.z a=some n){m:List CV}{vs:List Value}{cur:Array Value}{T:TypeId}(t:a<s.n)(g:seg a= [((I.ν a).1,.cells cur T (0,0))])(u:∀j v,vs[j]? =some v->cur.toList[o+j]? =some v)(w:VRs I m vs):
 RS x ⟨s.N,s.l,entA a m o s.o,s.z,s.n,s.f,s.c,s.r⟩ I seg l own H:=by
 refine⟨hs.N,hs.H,hs.n,hs.q,hs.own,hs.sl,hs.ze,λb j c e=> ?_,hs.fx,hs.rw,hs.rz,λk c j d e e2=> ?_⟩;change lkO (entA a m o s.o) b j=some c at e;rw[JO]at e;split at e
 . rename_i y;obtain⟨rfl,h1,h2⟩:=y;obtain⟨v,A,B⟩:=w.get e;exact .inr ⟨t,cur,T,v,g,by have:=u _ _ A;rwa[show o+(j-o)=j by omega]at this,B⟩
 . exact hs.ce b j c e
 . rcases hs.rz k c e with h|h3
   . exact .inl h
   have i:k≠a:=λq=>(by subst q;rw[p]at h3;cases h3);rw[show lkO (entA a m o s.o) k j=lkO s.o k j by rw[JO,TK λq=>i q.1]]at e2;exact hs.ro k c j d e e2
theorem ZHb:∀(D:List Nat) (l:List (Nat×CV)),∃m,fgtL D l=m++l
  |[],l=>⟨[],rfl⟩
  | t ::D,l=>by
    unfold fgtL;split
    . exact ZHb D l
    . obtain⟨m,e⟩:=ZHb D ((t,.unk)::l);exact⟨m++ [(t,.unk)],by rw[e];simp⟩
theorem ZLj:∀(C:List (Nat×Nat)) (o:List ((Nat×Nat)×CV)),∃m,fgtO C o=m++o
  |[],o=>⟨[],rfl⟩
  | p::C,o=>by
    obtain⟨m,e⟩:=ZLj C ((p,.unk)::o);exact⟨m++ [(p,.unk)],by rw[fgtO,e];simp⟩
end
section
variable{β:Type}{r:β}{x:Cx}{X:Env}{s s':PS}{I I':In}{seg seg':Nat->Own}{l l':Slots}{own own':List Own}{H H':Heaplet}{D:List Nat}{C:List (Nat×Nat)}{R:List Nat}
theorem ZLF:∀{ts:List Nat} {k:List CV->Option β},ldT s ts k=some r->∃cs,k cs=some r/\cs.length=ts.length/\∀(i t:Nat),ts[i]? =some t->∃c,cs[i]? =some c/\ZK s.l t=some c/\c≠.unk
  |[],k,h=>⟨[],h,rfl,λi t e=>by simp at e⟩
  | t::ts,k,h=>by
    obtain⟨c,e,h⟩:=Zb<|show oB (ZK s.l t) (λc=>kn c λc=>ldT s ts λr=>k (c::r))=some r from h
    obtain⟨h0,h⟩:=ZAW h;obtain⟨cs,h,a,b⟩:=ZLF h;refine⟨c::cs,h,by simp[a],λi u q=> ?_⟩;cases i with
    |zero=>simp at q;subst q;exact⟨c,rfl,e,h0⟩
    |succ i=>obtain⟨d,f,g⟩:=b i u (by simpa using q);exact⟨d,by simpa using f,g⟩
inductive Rg (s:PS):List (Nat×Nat×Nat)->List CV->Prop
  |nil:Rg s [] []
  |cons {p ps l m z}:ZK s.z p.1=some z->p.2.1+p.2.2<=z->l.length=p.2.2->(∀(j:Nat) (c:CV),l[j]? =some c->lkO s.o p.1 (p.2.1+j)=some c)->Rg s ps m->Rg s (p::ps) (l++m)
theorem ZLG:∀{cs:List (Nat×Nat×Nat)} {k:List CV->Option β},ldC s cs k=some r->∃l,k l=some r/\Rg s cs l
  |[],k,h=>⟨[],h,.nil⟩
  | p::cs,k,h=>by
    obtain⟨z,e,h⟩:=Zb<|show oB (ZK s.z p.1) (λm=>bb (Nat.ble (p.2.1+p.2.2) m) (ldU s p.1 p.2.2 p.2.1 λl=>ldC s cs λr=>k (l++r)) none)=some r from h
    obtain⟨a,h⟩:=ZC h;obtain⟨l,h,b,c⟩:=ZG6 h;obtain⟨m,h,d⟩:=ZLG h;exact⟨l++m,h,.cons e (TI a) b c d⟩
inductive Rv (seg:Nat->Own) (I:In):List (Nat×Nat×Nat)->List Value->Prop
  |nil:Rv seg I [] []
  |cons {p ps cur T us}:seg p.1= [((I.ν p.1).1,.cells cur T (0,0))]->p.2.1+p.2.2<=cur.size->Rv seg I ps us->Rv seg I (p::ps) ((cur.toList.drop p.2.1).take p.2.2++us)
theorem Rg.rv (hs:RS x s I seg l own H):∀{cs:List (Nat×Nat×Nat)} {m:List CV},Rg s cs m->∃vs,Rv seg I cs vs/\VUs I m vs
  |_,_,.nil=>⟨[],.nil,rfl⟩
  | _,_,.cons (p:=p) (l:=l0) i h a k n=>by
    obtain⟨us,h1,h2⟩:=n.rv hs;obtain⟨t,cur,T,g,b⟩:=hs.ze _ _ i;refine⟨_,.cons g (by rw[b];exact h) h1,VUs.append (Pp ?_ λj c e=> ?_) h2⟩
    . rw[a,TH,Td,TM,b];omega
    . refine(hs.ce _ _ _<|k j c e).imp id fun⟨_,d,u,v,f,o,q⟩=> ?_;rw[g]at f;simp only[SS,Si,Obj.cells.injEq,and_true,Rj]at f;obtain⟨rfl,_⟩:=f;have r:j<p.2.2:=(by rw[<-a];exact(TC.1 e).1);exact⟨v,by rw[TX,TJ r,SF];exact o,q⟩
theorem Rg.same (h:SameB s s'):∀{cs:List (Nat×Nat×Nat)} {m:List CV},Rg s cs m->Rg s' cs m
 |_,_,.nil=>.nil
 |_,_,.cons b a d f g=>.cons (by rw[h.z];exact b) a d (λj c e=>by rw[h.o];exact f j c e)<|g.same h
theorem OV (u:PS)(a o:Nat)(m:List CV):Ext u ⟨u.N,u.l,entA a m o u.o,u.z,u.n,u.f,u.c,u.r⟩:=⟨rfl,⟨[],rfl⟩,WQ _ _ _ _,⟨[],rfl,by simp⟩,TF _,⟨[],rfl⟩,TF _,⟨[],rfl⟩⟩
theorem ZJt:∀{ts:List Nat} {cs:List CV} {vs:List Value} {s:PS} {k:PS->Option β},RS x s I seg l own H->VRs I cs vs->(∀(i t:Nat) (v:Value),ts[i]? =some t->vs[i]? =some v->lk l t=some v)->ZMg ts cs s k=some r->
    ∃s',k s'=some r/\RS x s' I seg l own H/\Ext s s'/\(ts= []->s'.l=s.l)
  |[],cs,vs,s,k,hs,b,a,h=>⟨s,h,hs,Pf _,λ_=>rfl⟩
  | t ::ts,cs,vs,s,k,hs,b,a,h=>by
    cases cs with
    |nil=>cases h
    | cons c cs=>
      obtain⟨v,us,rfl,h1,h2⟩:=b.un;obtain⟨n,d⟩:=YZ<|show s.put t c (λs=>ZMg ts cs s k)=some r from h
      obtain⟨s2,g,f,j,_⟩:=ZJt (hs.learn (a 0 t v rfl rfl) h1) h2 (λi m v' e1 e2=>a (i+1) m v' (by simpa using e1)<|by simpa using e2) d;exact⟨s2,g,f,(Ext.st _ _ _).trans j,λe=>by cases e⟩
theorem ZNi:∀{cs:List (Nat×Nat×Nat)} {m:List CV} {vs ws:List Value} {s:PS} {k:List CV->PS->Option β},RS x s I seg l own H->VRs I m (vs++ws)->Rv seg I cs vs->layC cs m s k=some r->∃m' s',k m' s'=some r/\RS x s' I seg l own H/\Ext s s'/\VRs I m' ws/\s'.l=s.l
  |[],m,vs,ws,s,k,hs,g,a,h=>by cases a;exact⟨m,s,h,hs,Pf _,g,rfl⟩
  | p ::cs,m,vs,ws,s,k,hs,g,a,h=>by
    cases a with
    | cons u F a=>
      rename_i cur T us;replace h:=show oB (ZK s.z p.1) (λz=>bb (Nat.ble (p.2.1+(m.take p.2.2).length) z) (ZH0 p.1 (m.take p.2.2) p.2.1 s.o λw=>layC cs (m.drop p.2.2) ⟨s.N,s.l,w,s.z,s.n,s.f,s.c,s.r⟩ k) none)=some r from h;obtain⟨z,q,h⟩:=Zb h;obtain⟨_,h⟩:=ZC h;rw[BR]at h;have t:((cur.toList.drop p.2.1).take p.2.2).length=p.2.2:=(by rw[TH,Td,TM];omega);have b:=VRs.take p.2.2 g;have d:=VRs.drop p.2.2 g;have e1:(((cur.toList.drop p.2.1).take p.2.2++us)++ws).take p.2.2=(cur.toList.drop p.2.1).take p.2.2:=(by rw[TE];exact List.take_left' t);have e2:(((cur.toList.drop p.2.1).take p.2.2++us)++ws).drop p.2.2=us++ws:=(by rw[TE];exact List.drop_left' t);rw[e1]at b;rw[e2]at d;obtain⟨y,_⟩:=hs.ze _ _ q;have i:=hs.learnC q (o:=p.2.1) y u (λj v e=>by
        rw[TX]at e;split at e
        . rwa[SF]at e
        . cases e) b
      obtain⟨m',s2,A,B,C,D,E⟩:=ZNi i d a h;exact⟨m',s2,A,B,(OV _ _ _ _).trans C,D,E⟩
theorem DX:∀{l:List Nat} {i j:Nat},ZK (nth l i) j=if i<=j/\j<i+l.length then some (l[j-i]?)else none
  |[],i,j=>by rw[TK (by simp only[RF];omega)];rfl
  | a ::l,i,j=>by
    rw[show nth (a::l) i=(i,some a)::nth l (i+1)from rfl,ZH,DX];by_cases q:i=j
    . subst q;rw[TJ rfl,TJ ⟨TF _,by simp⟩];simp
    . rw[TK q];by_cases b:i+1<=j/\j<i+1+l.length
      . rw[TJ b,TJ ⟨by omega,by simp;omega⟩,show j-i=(j-(i+1))+1 by omega,Ro]
      . rw[TK b,TK (by simp;omega)]
theorem JH:∀{l:List Nat},ZB1 l=true->l.Nodup
  |[],h=>List.nodup_nil
  | a ::l,h=>by
    have h:(Bool.rec (ZB1 l) false (Xu l a):Bool)=true:=h;cases b:Xu l a with
    |true=>rw[b]at h;cases h
    | false=>
      rw[b]at h;exact SR.2 ⟨(λe=>by rw[XX.2 e]at b;cases b),JH h⟩
theorem ZNd{l:List Nat}(h:l.Nodup):InjR (nth l 100):=λi j a e1 e2=>by
 rw[DX]at e1 e2;split at e1
 . split at e2
   . rename_i h1 h2;have f:=TB e1;have b:=TB e2;obtain⟨d,g⟩:=TC.1 f;obtain⟨e,c⟩:=TC.1 b;have:=(List.getElem_inj h).1<|g.trans c.symm;omega
   . cases e2
 . cases e1
theorem ZK4{dr:List Nat}{ρ:Rho}:∀{bs:List Bp} {i:Nat},okF s s' dr ρ bs i=true->∀(j:Nat) (b:Bp),bs[j]? =some b->∀a,ZK ρ (i+j)=some (some a)->(b=.row->a<s.n->a∈dr/\K9 s' a=true)/\((∃n ps,b=.cells n ps)->s.n<=a)
  |[],i,h,j,b,e,a,d=>by simp at e
  | c ::bs,i,h,j,b,e,a,d=>by
    have g:okF s s' dr ρ bs (i+1)=true/\∀a,ZK ρ i=some (some a)->(c=.row->a<s.n->a∈dr/\K9 s' a=true)/\((∃n ps,c=.cells n ps)->s.n<=a):=by
      cases c with
      | row=>
        have h:Bool.and (match ZK ρ i with|some (some a)=>(Bool.rec true (Bool.and (Xu dr a) (K9 s' a)) (Nat.blt a s.n):Bool)|_=>true) (okF s s' dr ρ bs (i+1))=true:=h;simp only[TD]at h;refine⟨h.2,λa e1=>⟨λ_ f=> ?_,fun⟨n,ps,e2⟩=>by cases e2⟩⟩;have h1:=h.1;rw[e1]at h1;have h1:(Bool.rec true (Bool.and (Xu dr a) (K9 s' a)) (Nat.blt a s.n):Bool)=true:=h1;rw[show Nat.blt a s.n=true from SC f]at h1;have h1:Bool.and (Xu dr a) (K9 s' a)=true:=h1;simp only[TD]at h1;exact⟨XX.1 h1.1,h1.2⟩
      | cells n ps=>
        have h:Bool.and (match ZK ρ i with|some (some a)=>Nat.ble s.n a|_=>false) (okF s s' dr ρ bs (i+1))=true:=h;simp only[TD]at h;refine⟨h.2,λa e1=>⟨λe2=>(by cases e2),λ_=> ?_⟩⟩;have h1:=h.1;rw[e1]at h1;exact TI h1
    cases j with
    |succ j=>exact ZK4 g.1 j b (by simpa using e) a (by rw[show i+1+j=i+(j+1) by omega];exact d)
    |zero=>simp at e;subst e;exact g.2 a d
theorem ZE5{a:Nat}(h:K9 s a=true):∃t E m,ZK s.r a=some (.own t E m):=by
 unfold K9 at h;split at h
 . rename_i t E m e;exact⟨t,E,m,e⟩
 . cases h
structure Xt (s:PS) (I:In) (s':PS) (I':In):Prop where
  e:Ext s s'
  i:I.Le I'
theorem Py (s:PS)(I:In):Xt s I s I:=⟨Pf _,In.Le.refl _⟩
theorem Xt.trans{s t u:PS}{I J K:In}(h:Xt s I t J)(k:Xt t J u K):Xt s I u K:=⟨h.e.trans k.e,h.i.trans k.i⟩
def Bh (x:Cx)(s:PS)(I:In)(D:List Nat)(C:List (Nat×Nat))(R:List Nat)(K:Kx)(y:VH (hyS K.S))(l:Slots)(o:List Own)(g:Heaplet):Prop:=
 ∀{β:Type} {k:PS->Option β} {r:β},upK s D C R K y k=some r->∃u J seg,k u=some r/\RS x u J seg l o g/\Xt s I u J/\(K.ts= []->u.l=fgtL D s.l)
open Classical in
theorem ZC2 {F:List Own}{γ:Type}{q:γ}{b:PS}(hs:RS x s I seg l own H)(hb:b.n=s.n)(ht:RS x s' I' seg' l' own' H')(hν:I.Le I')(B:okT b s' D=true->okC b s' C R=true->Agr s s' D C R){K:Kx}{kp:VH (hyS K.S)->Option γ}(h:pkK b D C R s' K kp=some q):
    ∃y,kp y=some q/\∀{Kc:Act->World->Prop},(∀o g,Hle H' g->Bh x s I D C R K y l' o g->JN x Kc l' (o++F) g)->JN x Kc l' (own'++F) H':=by
  obtain⟨h0,h⟩:=ZC h;simp only[TD]at h0;have hnd:=JH h0.1;have holt:∀a∈K.ol,a<s.n:=λa O=>by have:=Zd.1 h0.2.1 a O;rw[hb]at this;simpa using this
  have hcslt:∀p∈K.cs,p.1<s.n:=λp M=>by have:=Zd.1 h0.2.2 p M;rw[hb]at this;simpa using this
  obtain⟨cs2,h,hr⟩:=ZLG h;obtain⟨cs1,h,hl1,hc1⟩:=ZLF h;obtain⟨hv,ρ,js,h,hsub,hinj,hρ,hT⟩:=ZB3 h<|ZNd hnd;obtain⟨hchk,h⟩:=ZC h;simp only[TD]at hchk;obtain⟨hM,hokT,hokC⟩:=hchk;have B:=B hokT hokC;obtain⟨y,ey,h9⟩:=UD h;clear h;subst ey
  -- what the check says
  unfold okM at hM;simp only[TD]at hM;obtain⟨m1,m2,m3,m4,m5⟩:=hM;have m1:=TI m1;have hjs:∀j∈js,j<s.n->j∈R:=λj hj A=>by
    have:=Zd.1 m2 j hj;rw[hb,show Nat.blt j s.n=true from SC A]at this;exact XX.1 this
  have hkey:∀i a,ZK ρ i=some a->i<K.S.bs.length\/(100<=i/\i<100+K.ol.length):=λi a e=>by
    have:=Zd.1 m3 _<|W5 e;simp only[Bool.or_eq_true,TD]at this;exact this.imp (λh=>by simpa using h) λh=>⟨TI h.1,by simpa using h.2⟩
  have hold:∀i,100<=i->i<100+K.ol.length->∃a,ZK (nth K.ol 100) i=some (some a)/\ZK ρ i=some (some a)/\a<s.n/\K.ol[i-100]? =some a:=λi h1 h2=>by
    have e:ZK (nth K.ol 100) i=some (K.ol[i-100]?):=(by rw[DX,TJ ⟨h1,h2⟩]);rw[TL<|by omega]at e;exact⟨_,e,hsub _ _ e,holt _<|Ry _,TL<|by omega⟩
  have hF:=ZK4 m4;have P:∀i a,i<K.S.bs.length->ZK ρ i=some (some a)->a<s.n->a∈R/\∃t E m,ZK s'.r a=some (.own t E m):=λi a hi e A=>by
    have h1:=hF i _ (TL hi) a (by rw[Te];exact e);cases hbs:K.S.bs[i]with
    |row=>obtain⟨g1,g2⟩:=h1.1 hbs (by rw[hb];exact A);exact⟨g1,ZE5 g2⟩
    |cells n ps=>have:=h1.2 ⟨n,ps,hbs⟩;rw[hb]at this;omega
  refine⟨y,h9,λ{Kc} hK=> ?_⟩;refine UR (js:=js) ht λseg2 own2 H2 g2 V=> ?_;have u:=Yo js s';obtain⟨vs2,hrv,hvu2⟩:=(hr.same u).rv V
  -- the values of the temporaries
  obtain ⟨L,hvr1,hvl⟩:∃L,VRs {I' with H:=H2} cs1 L/\∀(i t:Nat) (v:Value),K.ts[i]? =some t->L[i]? =some v->lk l' t=some v:=by
    have key:∀(ts:List Nat) (cs:List CV),cs.length=ts.length->(∀(i t:Nat),ts[i]? =some t->∃c,cs[i]? =some c/\ZK s'.l t=some c/\c≠.unk)->∃L,VRs {I' with H:=H2} cs L/\∀(i t:Nat) (v:Value),ts[i]? =some t->L[i]? =some v->lk l' t=some v:=λts=>by
      induction ts with
      | nil=>
        intro cs hl _;cases cs with
        |nil=>exact⟨[],VRs.nil,λi t v e=>by simp at e⟩
        |cons=>cases hl
      | cons t ts ih=>
        intro cs hl Z;cases cs with
        |nil=>cases hl
        | cons c cs=>
          obtain⟨L,e1,e2⟩:=ih cs (by simpa using hl) (λi t' e=>by simpa using Z (i+1) t' (by simpa using e));obtain⟨c',f1,f2,f3⟩:=Z 0 t rfl;simp at f1;subst f1;obtain⟨v,g1,g3⟩:=(V.sl t c (by rw[u.l];exact f2)).resolve_left f3;refine⟨v::L,VRs.cons g3 e1,λi t' v' Q U=> ?_⟩;cases i with
          |zero=>simp at Q U;subst Q U;exact g1
          |succ i=>exact e2 i t' v' (by simpa using Q)<|by simpa using U
    exact key _ _ hl1 hc1
  have hTS:=hT {I' with H:=H2} seg2 (vs2++L) (Rw.of V)<|VUs.append hvu2 hvr1.vu;have hag2:Agr s (pubS js s') D C R:=⟨by rw[u.N];exact B.N,λt c e q=>by rw[u.l];exact B.l t c e q,λa j c q e p=>by rw[u.o];exact B.o a j c q e p,λa m q e=>by rw[u.z];exact B.z a m q e,by rw[u.n];exact B.n,λc Z=>by rw[u.f];exact B.f c Z,by rw[u.c];exact B.c,
    λk c q e p=>by rw[GI λhm=>p<|hjs k hm q];exact B.r k c q e p⟩
  have hbase:=hs.base V hag2;have hn2:(pubS js s').n=s'.n:=u.n
  -- what a number is Zx it
  let m:=K.S.bs.length;let W:=Wf ρ {I' with H:=H2} seg2;let mv:Nat->Prop:=λa=>∃i,i<m/\ZK ρ i=some (some a);let G:Nat->Own:=λa=>if a<s.n then(if mv a then []else seg2 a)else sgW W (a-s.n)
  let J:In:={H:=H2,ν:=λa=>if a<s.n then I'.ν a else(match W (a-s.n)with|some w=>w.1|none=>(0,.nilIface)),n:=s.n+m,κ:=λc=>if c<s.c then I'.κ c else(cnt<|ofVH (hyS K.S) y)[c-s.c]?.getD 0,q:=s.c+(cnt<|ofVH (hyS K.S) y).length};have hsgf:∀i,i<m->sg (nth K.ol 100) s.n i=s.n+i:=λi hi=>by
    unfold sg;rw[DX,TK<|by omega]
  have hsgo:∀i a,ZK (nth K.ol 100) i=some (some a)->sg (nth K.ol 100) s.n i=a:=λi a e=>ZCu e;have hnmv:∀i a,100<=i->ZK ρ i=some (some a)->¬mv a:=λi a h1 e=>by
    rintro⟨i',hi',e'⟩;have:=hinj _ _ _ e e';omega
  have hW4:∀i w,W i=some w->sg (nth K.ol 100) s.n i<J.n/\J.ν (sg (nth K.ol 100) s.n i)=w.1/\G (sg (nth K.ol 100) s.n i)=w.2:=λi w e=>by
    have e0:=e;obtain⟨a,ea,ew⟩:∃a,ZK ρ i=some a/\w=(nuO {I' with H:=H2} a,sgO seg2 a):=by
      have e:(ZK ρ i).map (λa=>(nuO {I' with H:=H2} a,sgO seg2 a))=some w:=e;cases h1:ZK ρ i with
      |none=>rw[h1]at e;cases e
      |some a=>rw[h1]at e;exact⟨a,rfl,(TB e).symm⟩
    rcases hkey i a ea with hi|⟨h1,h2⟩
    . rw[hsgf i hi];refine⟨by show s.n+i<s.n+K.S.bs.length;omega,?_,?_⟩
      . show(if s.n+i<s.n then _ else(match W (s.n+i-s.n)with|some w=>w.1|none=>_))=_;rw[TK (by omega),Se,e0]
      . show(if s.n+i<s.n then _ else sgW W (s.n+i-s.n))=_;rw[TK (by omega),Se];unfold sgW;rw[e0]
    . obtain⟨a',f1,f2,f3,_⟩:=hold i h1 h2;rw[ea]at f2;have f2:=TB f2;subst f2;rw[hsgo i a' f1];subst ew;refine⟨by show a'<s.n+_;omega,?_,?_⟩
      . show(if a'<s.n then I'.ν a' else _)=_;rw[TJ f3];rfl
      . show(if a'<s.n then(if mv a' then []else seg2 a')else _)=_;rw[TJ f3,TK<|hnmv i a' h1 ea];rfl
  have hC:Cnt J s.c (cnt<|ofVH (hyS K.S) y):=λm' j e=>by
    have A:=(TC.1 e).1;refine⟨by show s.c+m'<s.c+_;omega,?_⟩;show(if s.c+m'<s.c then _ else(cnt<|ofVH (hyS K.S) y)[s.c+m'-s.c]?.getD 0)=j;rw[TK (by omega),Se,e];rfl
  have X:∀a t E mm,a<s.n->ZK s'.r a=some (.own t E mm)->ZK s.z a=none/\∀j d,lkO (fgtO C s.o) a j=some d->d=.unk:=λa t E mm A e=>by
    constructor
    . cases hz:ZK s.z a with
      |none=>rfl
      | some k=>
        have:=B.z a k A hz;rw[(ht.rz a _ e).resolve_left<|by simp]at this;cases this
    . intro j d e2;rcases ZGG e2 with h|⟨h1,h2⟩
      . exact h
      . exact(ht.ro a _ j d e<|B.o a j d A h2 h1).resolve_left<|by simp
  have hleJ:I.Le J:=⟨(by have:=hν.H;rw[ht.H]at this;exact this.trans g2.H),by rw[hs.n];exact Rc _ _,λk hk=>(TJ (by rw[<-hs.n];exact hk)).trans<|hν.ν k hk,by rw[hs.q];exact Rc _ _,λc Z=>(TJ (by rw[<-hs.q];exact Z)).trans<|hν.κ c Z⟩;have hB : Bh x s I D C R K y l' ((List.range J.n).map G) H2:=by
    intro β k r Y;replace Y:=show fgt D s (λs=>fgtC C s λs=>fgtR R s λs=>s.bu (nth K.ol 100) K.S (ofVH (hyS K.S) y) λus s=>layC K.cs us s λus s=>ZMg K.ts us s k)=some r from Y;rw[ZMz,ZNo,ZJ7]at Y;obtain⟨hok,cs',hs',c1,rs,bl,c2,rs',hLi,hBi,Y⟩:=Jb Y;obtain⟨ib1,ib2,ib3⟩:=InstB_ix hBi;obtain ⟨v1,hs4⟩:=RS.bu (J:=J) (seg2:=G) hbase hTS hok hLi hBi (λi a e=>by
        have e:ZK (nth K.ol 100) i=some (some a):=e;rw[DX]at e;split at e
        . exact holt a<|Tq<|TB e
        . cases e) (ZNd hnd) rfl rfl rfl (λa O=>TJ O) (λc Z=>TJ Z) hC hW4
      (λa O=>by
        have O:a<s.n:=O;by_cases hm:mv a
        . right;obtain⟨i,hi,e⟩:=hm;obtain⟨g1,t,E,mm,g3⟩:=P i a hi e O;refine⟨λc ec=> ?_,.inl<|X a t E mm O g3⟩;rcases Dn (show ZK (ftR R s.r) a=some c from ec)with h|⟨h,_⟩
          . exact h
          . exact absurd g1 h
        . left;show(if a<s.n then(if mv a then []else seg2 a)else _)=_;rw[TJ O,TK hm])
      (λp M A=>by
        have A:p.1<s.n:=A;obtain⟨k',hk',hpk⟩:∃k∈rowIx K.S.vs++rowIB K.S.bs,p.1=sg (nth K.ol 100) s.n k:=by
          rcases TR.1 M with M|M
          . obtain⟨k,hk,e⟩:=InstL_ix hLi p M;exact⟨k,by simp[hk],e⟩
          . obtain⟨k,hk,e⟩:=ib1 p M;exact⟨k,by simp[hk],e⟩
        have h5:=Zd.1 m5 k' hk';simp only[Bool.or_eq_true]at h5;rcases h5 with h5|h5
        . exfalso;have h5:k'<100:=(by simpa using h5);have:sg (nth K.ol 100) s.n k'=s.n+k':=(by unfold sg;rw[DX,TK<|by omega]);omega
        . split at h5
          . rename_i a ea;obtain⟨t,E,mm,g3⟩:=ZE5 h5;have hka:sg (nth K.ol 100) s.n k'=a:=by
              by_cases hk100:k'<100
              . exfalso;have:sg (nth K.ol 100) s.n k'=s.n+k':=(by unfold sg;rw[DX,TK<|by omega]);omega
              . refine ZCu ?_;rw[DX,TJ ⟨by omega,by have:=(TC.1 ea).1;omega⟩,ea]
            rw[hpk,hka];exact X a t E mm (by rw[<-hka,<-hpk];exact A) g3
          . cases h5)
      (λp M A=>by
        exfalso;have A:p.1<s.n:=A;obtain⟨j,n,ps,e1,e2,e3⟩:=ib2 p M;have hj:=(TC.1 e1).1;have:sg (nth K.ol 100) s.n (0+j)=s.n+(0+j):=hsgf _ (by show 0+j<K.S.bs.length;omega);have e2:p.1=sg (nth K.ol 100) s.n (0+j):=e2;omega)
    have hrv4 : Rv G J K.cs vs2:=by
      have key:∀{cs:List (Nat×Nat×Nat)} {vs:List Value} {m:List CV},Rg s' cs m->Rv seg2 {I' with H:=H2} cs vs->(∀p∈cs,p.1<s.n)->Rv G J cs vs:=λ{cs}=>by
        induction cs with
        |nil=>intro vs m _ h _;cases h;exact .nil
        | cons p cs ih=>
          intro vs m hg h A;cases h with
          | cons g1 g2 hr=>
            rename_i cur T us;cases hg with
            | cons hz _ _ _ hg=>
              have M:p.1<s.n:=A p (by simp);have hnm:¬mv p.1:=by
                rintro⟨i,hi,e⟩;obtain⟨_,t,E,mm,g3⟩:=P i p.1 hi e M;rw[(ht.rz _ _ g3).resolve_left<|by simp]at hz;cases hz
              refine Rv.cons (T:=T) ?_ g2 (ih hg hr λq hq=>A q<|by simp[hq]);show(if p.1<s.n then(if mv p.1 then []else seg2 p.1)else _)= [((if p.1<s.n then I'.ν p.1 else _:Nat×Value).1,_)];rw[TJ M,TK hnm,TJ M];exact g1
      exact key hr hrv hcslt
    obtain⟨m5,s5,Y,hs5,he5,hv5,hl5⟩:=ZNi hs4 v1 hrv4 Y;obtain⟨s6,Y,hs6,he6,hl6⟩:=ZJt hs5 hv5 hvl Y;refine⟨s6,J,G,Y,hs6,⟨?_,hleJ⟩,λets=>(hl6 ets).trans hl5⟩;refine Ext.trans (Ext.trans (Ext.trans ?_<|Ext.bu ?_) he5) he6
    . exact⟨rfl,ZHb _ _,ZLj _ _,⟨[],rfl,by simp⟩,TF _,⟨[],rfl⟩,TF _,ZNm _ _⟩
    . have:=hs4.q;have h6:s.c+_=c2:=this;show s.c<=c2;omega
  have hfin:=hK _ _ g2.H hB;obtain ⟨Rx,_,M⟩:=ZAQ (g:=seg2) (K:=List.range (pubS js s').n) (N:=J.n) (seg:=G) (λa=>if a<s.n then(if mv a then none else some a)else(ZK ρ (a-s.n)).bind id)
    (λa b' i O hb' e1 e2=>by
      have O:a<s.n+m:=O;have hb':b'<s.n+m:=hb';by_cases Q:a<s.n
      . simp only[Q,if_true]at e1;split at e1
        . cases e1
        . rename_i hm1;have e1:=TB e1;by_cases U:b'<s.n
          . simp only[U,if_true]at e2;split at e2
            . cases e2
            . have e2:=TB e2;omega
          . simp only[U,if_false]at e2;exfalso;refine hm1 ⟨b'-s.n,by omega,?_⟩;cases h1:ZK ρ (b'-s.n)with
            |none=>rw[h1]at e2;cases e2
            |some o=>rw[h1]at e2;have e2:o=some i:=e2;rw[e2,e1]
      . simp only[Q,if_false]at e1;cases h1:ZK ρ (a-s.n)with
        |none=>rw[h1]at e1;cases e1
        | some o=>
          rw[h1]at e1;have e1:o=some i:=e1;subst e1;by_cases U:b'<s.n
          . simp only[U,if_true]at e2;split at e2
            . cases e2
            . rename_i hm2;have e2:=TB e2;exact absurd ⟨a-s.n,by omega,by rw[h1,e2]⟩ hm2
          . simp only[U,if_false]at e2;cases h2:ZK ρ (b'-s.n)with
            |none=>rw[h2]at e2;cases e2
            | some o=>
              rw[h2]at e2;have e2:o=some i:=e2;subst e2;have:=hinj _ _ _ h1 h2;omega)
    (λa i O e=>by
      rw[Tx,hn2];by_cases Q:a<s.n
      . simp only[Q,if_true]at e;split at e
        . cases e
        . rw[<-TB e];exact Tj Q B.n
      . simp only[Q,if_false]at e;cases h1:ZK ρ (a-s.n)with
        |none=>rw[h1]at e;cases e
        |some o=>rw[h1]at e;have e:o=some i:=e;subst e;exact(hρ _ _ h1).2)
    (λa O=>by
      show(if a<s.n then(if mv a then []else seg2 a)else sgW W (a-s.n))=_;by_cases Q:a<s.n
      . simp only[Q,if_true];by_cases U:mv a
        . simp only[U,if_true]
        . simp only[U,if_false]
      . simp only [Q,if_false];unfold sgW;cases h1:ZK ρ (a-s.n)with
        | none => have:W (a-s.n)=none:=by show(ZK ρ (a-s.n)).map _=none;rw[h1];rfl
                  rw[this];rfl
        | some o=>
          have:W (a-s.n)=some (nuO {I' with H:=H2} o,sgO seg2 o):=Wf_of h1;rw[this];cases o<;>rfl)
  refine λa w hh=>hfin a w<|ZJA (R:=(Rx.map seg2).flatten) hh ?_;rw[TW,TW,V.own,TE];refine(M.append_right F.flatten).trans ?_;rw[TE];exact Sw _ Tc
theorem ZPT{d:Type}{q:d}{b:PS}(hs:RS x s I seg l own H)(hb:b.n=s.n)(ht:RS x s' I' seg' l' own' H')(a:I.Le I')(c:okT b s' D=true->okC b s' C R=true->Agr s s' D C R){K:Kx}{k:VH (hyS K.S)->Option d}(h:pkK b D C R s' K k=some q):
 ∃y,k y=some q/\∀{Kc:Act->World->Prop},(∀o g,Bh x s I D C R K y l' o g->JN x Kc l' o g)->JN x Kc l' own' H':=by
 obtain⟨y,h1,h2⟩:=ZC2 (F:=[]) hs hb ht a c h;refine⟨y,h1,λ{Kc} e=> ?_⟩;have:=h2 (Kc:=Kc) (λo g _ hb=>by rw[Th];exact e o g hb);rwa[Th]at this
end
def exX:Ex->Exit
 | .norm=>.normal
 | .exit id=>.exit id
 | .ret=>.ret
theorem OE (s:PS)(D:List Nat)(C:List (Nat×Nat))(R:List Nat):Agr s s D C R:=⟨rfl,λ_ _ h _=>h,λ_ _ _ _ h _=>h,λ_ _ _ h=>h,TF _,λ_ h=>h,TF _,λ_ _ _ h _=>h⟩
theorem ZLl{a b:Ex}(h:eqE a b=true):a=b:=by
 cases a<;>cases b<;>first|rfl|(cases h;done)|exact congrArg Ex.exit<|TA h
section
variable{β:Type}{r:β}{x:Cx}{X:Env}{Z:Hints}{s s' b:PS}{I I':In}{seg seg':Nat->Own}{l l':Slots}{own own':List Own}{H H':Heaplet}{D:List Nat}{C:List (Nat×Nat)}{R:List Nat}
variable{Q:Exit->Act->World->Prop}
def Kc (x:Cx)(Q:Exit->Act->World->Prop)(s:PS)(I:In)(k:Ex->PS->Option β)(r:β):Prop:=
 ∀e s' I' seg' l' own' H',Xt s I s' I'->k e s'=some r->RS x s' I' seg' l' own' H'->JN x (Q<|exX e) l' own' H'
theorem Kc.ext{k:Ex->PS->Option β}(h:Kc x Q s I k r)(e:Xt s I s' I'):Kc x Q s' I' k r:=λa t I' seg' l' own' H' h1 b hs=>h a t I' seg' l' own' H' (e.trans h1) b hs
def BhE (x:Cx)(s:PS)(I:In)(D:List Nat)(C:List (Nat×Nat))(R:List Nat)(e:Ex)(ks:List Kx)(y:KT ks)(l:Slots)(o:List Own)(g:Heaplet):Prop:=
 ∀{β:Type} {k:Ex->PS->Option β} {r:β},elK s D C R k ks y=some r->∃u J seg,k e u=some r/\RS x u J seg l o g/\Xt s I u J/\((∀K∈ks,K.ts= [])->u.l=fgtL D s.l)
theorem ZGF{A:Type}{q:A}{b:PS}(hs:RS x s I seg l own H)(hb:b=s)(ht:RS x s' I' seg' l' own' H')(c:I.Le I')(d:okT b s' D=true->okC b s' C R=true->Agr s s' D C R){e:Ex}:
    ∀ {ks:List Kx} {a:KT ks->Option A},inK b D C R e s' ks a=some q->
      ∃y,a y=some q/\∀{K:Act->World->Prop},(∀o g,Hle H' g->BhE x s I D C R e ks y l' o g->JN x K l' o g)->JN x K l' own' H'
  |[],a,h=>by cases h
  | [p],a,h=>by
    have h:(Bool.rec none (pkK b D C R s' p a) (eqE e p.e):Option A)=some q:=h;cases f:eqE e p.e with
    |false=>rw[f]at h;cases h
    | true=>
      rw[f]at h;obtain⟨y,h1,h2⟩:=ZC2 (F:=[]) hs (by rw[hb]) ht c d (show pkK b D C R s' p a=some q from h)
      exact⟨y,h1,λ{K} i=>by rw[<-Th own'];exact h2 λo g j m=>by rw[Th];exact i o g j λ{β k r} n=>by rw[ZLl f];obtain⟨u,J,sg,t,v,w,z⟩:=m<|show upK s D C R p y (k p.e)=some r from n;exact⟨u,J,sg,t,v,w,λe=>z<|e p<|by simp⟩⟩
  | p ::B::ks,a,h=>by
    have h:(Bool.rec (inK b D C R e s' (B::ks) λx=>a (.inr x)) (pkK b D C R s' p λx=>a (.inl x)) (eqE e p.e):Option A)=some q:=h;cases f:eqE e p.e with
    | false=>
      rw[f]at h;obtain⟨y,h1,h2⟩:=ZGF hs hb ht c d<|show inK b D C R e s' (B::ks) (λx=>a<|.inr x)=some q from h
      exact⟨.inr y,h1,λ{K} i=>h2 λo g j m=>i o g j λ{β k r} n=>by obtain⟨u,J,sg,t,v,w,z⟩:=m<|show elK s D C R k (B::ks) y=some r from n;exact⟨u,J,sg,t,v,w,λe=>z λK i=>e K<|Sl _ i⟩⟩
    | true=>
      rw[f]at h;obtain⟨y,h1,h2⟩:=ZC2 (F:=[]) hs (by rw[hb]) ht c d (show pkK b D C R s' p (λx=>a<|.inl x)=some q from h)
      exact⟨.inl y,h1,λ{K} i=>by rw[<-Th own'];exact h2 λo g j m=>by rw[Th];exact i o g j λ{β k r} n=>by rw[ZLl f];obtain⟨u,J,sg,t,v,w,z⟩:=m<|show upK s D C R p y (k p.e)=some r from n;exact⟨u,J,sg,t,v,w,λe=>z<|e p<|by simp⟩⟩
theorem ZMw{d:Type}{q:d}{b:PS}(hs:RS x s I seg l own H)(hb:b=s)(ht:RS x s' I' seg' l' own' H')(a:I.Le I')(c:okT b s' D=true->okC b s' C R=true->Agr s s' D C R){e:Ex}{ks:List Kx}{k:KT ks->Option d}(h:inK b D C R e s' ks k=some q):
 ∃y,k y=some q/\∀{K:Act->World->Prop},(∀o g,BhE x s I D C R e ks y l' o g->JN x K l' o g)->JN x K l' own' H':=by
 obtain⟨y,h1,h2⟩:=ZGF hs hb ht a c h;exact⟨y,h1,λf=>h2 λo g _ i=>f o g i⟩
theorem Zx{k:Ex->PS->Option β}{o:List Own}{g:Heaplet}(a:Kc x Q s I k r){e:Ex}{A:PS->Prop}(h:∃u J seg,k e u=some r/\RS x u J seg l' o g/\Xt s I u J/\A u):JN x (Q<|exX e) l' o g:=by
 obtain⟨u,J,sg,h1,h2,h3,_⟩:=h;exact a e u J sg l' o g h3 h1 h2
theorem ZHm{c:Code}{D:List Nat}{C:Cut}{k:Ex->PS->Option β}{run:(a:Type)->(Ex->PS->Option a)->Option a}(hs:RS x s I seg l own H)
 (b:∀{a:Type} {q:a} {d:Ex->PS->Option a},run a d=some q->∀{Q:Exit->Act->World->Prop},Kc x Q s I d q->JC x c Q l own H)(h:cutAt s D C run k=some r)(j:Kc x Q s I k r):JC x c Q l own H:=by
 obtain⟨t,h1,h2⟩:=ZT<|show Option.bind (run (KT C.ks) λe s'=>inK s (D++tsK C.ks) C.dc C.dr e s' C.ks some) (elK s (D++tsK C.ks) C.dc C.dr k C.ks)=some r from h
 refine b h1 λe s' I' seg' l' own' H' f hi ht=> ?_;obtain⟨y,h3,m⟩:=ZMw hs rfl ht f.i (Agr.ext f.e) hi;cases h3;exact m λo g n=>Zx j<|n h2
def dd:Slots->Slots
 |[]=> []
 |p::l=>p::(dd l).filter λq=> !Nat.beq p.1 q.1
theorem ZJF (k i:Nat):∀l:Slots,lk (l.filter λq=> !Nat.beq k q.1) i=if k=i then none else lk l i
  |[]=>by simp[lk]
  | p ::l=>by
    have ih:=ZJF k i l;by_cases h:k=p.1
    . rw[List.filter_cons_of_neg (by rw[<-h];simp),ih];by_cases q:k=i
      . rw[TJ q,TJ q]
      . rw[TK q,TK q];have:Nat.beq p.1 i=false:=Vr (by rw[<-h];exact q);simp[lk,this]
    . rw[List.filter_cons_of_pos (by rw[Vr h];rfl)];simp only[lk,ih];cases hb:Nat.beq p.1 i with
      | true=>
        have:p.1=i:=TA hb;subst this;simp[h]
      |false=>simp
theorem ZP8:∀(l:Slots) (i:Nat),lk (dd l) i=lk l i
  |[],i=>rfl
  | p::l,i=>by
    simp only[dd,lk,ZJF,ZP8 l i];cases hb:Nat.beq p.1 i with
    |true=>rfl
    |false=>rw[TK (by intro e;rw[e]at hb;simp at hb)]
theorem ZM6:∀(l:Slots) (p:Nat×Value),p∈dd l->lk l p.1=some p.2
  |[],p,h=>by cases h
  | q ::l,p,h=>by
    rcases Ta.1 h with rfl|h
    . simp[lk]
    . obtain⟨h1,h2⟩:=List.mem_filter.1 h;have:=ZM6 l p h1;have hb:Nat.beq q.1 p.1=false:=(by simpa using h2);simp[lk,hb,this]
theorem RS.lk{a:Slots}(hs:RS x s I seg l own H)(h:∀i,Go.Ow.lk a i=Go.Ow.lk l i):RS x s I seg a own H:=
 ⟨hs.N,hs.H,hs.n,hs.q,hs.own,λt c e=>(hs.sl t c e).imp id fun⟨v,h1,h2⟩=>⟨v,by rw[h];exact h1,h2⟩,hs.ze,hs.ce,hs.fx,hs.rw,hs.rz,hs.ro⟩
theorem sub_self:∀{l L:Slots},(∀p∈l,lk L p.1=some p.2)->Sub l L
 |[],L,h=>trivial
 |p::l,L,h=>⟨h p (by simp),sub_self λq a=>h q<|by simp[a]⟩
theorem ZRE{c:Code}{D:List Nat}{L:Lp}{k:Ex->PS->Option β}{body:PS->(Ex->PS->Option (VH (hyS L.h.S) ⊕ KT L.ks))->Option (VH (hyS L.h.S) ⊕ KT L.ks)}(hs:RS x s I seg l own H)
    (A:∀{s1:PS} {I1:In} {C:Nat->Own} {M:Slots} {j:List Own} {H1:Heaplet} {q:VH (hyS L.h.S) ⊕ KT L.ks} {T:Ex->PS->Option (VH (hyS L.h.S) ⊕ KT L.ks)},RS x s1 I1 C M j H1->body s1 T=some q->∀{Q:Exit->Act->World->Prop},Kc x Q s1 I1 T q->JC x c Q M j H1)
    (h:ZJr s D L body k=some r)(U:Kc x Q s I k r):JC x (.loop c) Q l own H:=by
  unfold ZJr at h;obtain⟨d,Y⟩:∃d,d=D++L.h.ts++tsK L.ks:=⟨_,rfl⟩;rw[<-Y]at h;obtain⟨B,V⟩:∃B:VH (hyS L.h.S)->Option (VH (hyS L.h.S) ⊕ KT L.ks),B=λx=>upK s d L.dc L.dr L.h x λs1=>body s1 λe s'=>match e with| .norm=>pkK s d L.dc L.dr s' L.h λy=>some (.inl y)|e=>inK s d L.dc L.dr e s' L.ks λy=>some (.inr y):=⟨_,rfl⟩
  have h:pkK s d L.dc L.dr s L.h (λx=>Option.bind (loop B x)<|elK s d L.dc L.dr k L.ks)=some r:=by rw[V];exact h
  obtain⟨Z,h1,h2⟩:=ZPT hs rfl hs (In.Le.refl _) (λ_ _=>OE s d L.dc L.dr) h;obtain⟨t,h3,W⟩:=ZT h1;refine h2 (Kc:=λa w=>(Code.loop c).wpIn (Fw x.r) 0 x.P Q a w) λo0 g0 N=> ?_;refine ZH6 (λn l o g=>∃y,Go.Ow.run B n y=some t/\(∀p∈l,True)/\Bh x s I d L.dc L.dr L.h y l o g) FUEL (l0:=dd l) ?_ ⟨Z,h3,λ_ _=>trivial,λ{β k r} G=> ?_⟩ (sub_self<|ZM6 l) ?_
  . rintro l o g ⟨_,h,_⟩;exact ZKs h
  . obtain⟨u,J,sg,O,R,v⟩:=N G;exact⟨u,J,sg,O,R.lk<|ZP8 l,v⟩
  . rintro n M o g ⟨y,hr,-,hb⟩;obtain⟨q,G,b⟩:=ZCw hr;rw[V]at G;obtain⟨u,J,sg,O,R,v,_⟩:=hb G;refine A R O λe s' I' seg' l' own' H' K hi ht=> ?_;have m:okT s s' d=true->okC s s' L.dc L.dr=true->Agr s s' d L.dc L.dr:=Agr.ext (v.trans K).e;cases e with
    | norm=>
      obtain⟨z,E,F⟩:=ZPT hs rfl ht (v.trans K).i m hi;cases E;exact F (λo' X f a w hh=>⟨l',_,_,⟨z,b,λ_ _=>trivial,f⟩,hh⟩)
    | exit id=>
      obtain⟨z,E,F⟩:=ZMw hs rfl ht (v.trans K).i m hi;cases E;have b:z=t:=b;subst b;exact F (λo' X f=>Zx (e:=.exit id) U (f W))
    | ret=>
      obtain⟨z,E,F⟩:=ZMw hs rfl ht (v.trans K).i m hi;cases E;have b:z=t:=b;subst b;exact F λo' X f=>Zx (e:=.ret) U (f W)
theorem ZOI{c:Code}{run:(β:Type)->PS->(Ex->PS->Option β)->Option β}{n:Nat}{k:Ex->PS->Option β}(hs:RS x s I seg l own H)
 (i:∀{s1:PS} {I1:In} {b:Nat->Own} {j:Slots} {d:List Own} {H1:Heaplet} {q:Ex->PS->Option β},RS x s1 I1 b j d H1->run β s1 q=some r->∀{Q:Exit->Act->World->Prop},Kc x Q s1 I1 q r->JC x c Q j d H1)
 (h:ZGQ run n s k=some r)(t:Kc x Q s I k r):JC x (.loop c) Q l own H:=by
 refine ZH6 (λn l o g=>∃s1 I1 b,RS x s1 I1 b l o g/\ZGQ run n s1 k=some r/\Xt s I s1 I1) n (l0:=dd l) ?_ ⟨s,I,seg,hs.lk<|ZP8 l,h,Py _ _⟩ (sub_self<|ZM6 l) ?_
 . rintro l o g ⟨_,_,_,_,h,_⟩;cases h
 . rintro n j o g ⟨s1,I1,b,m,h,p⟩;refine i m (show run β s1 (λe s'=>match e with| .norm=>ZGQ run n s' k|e=>k e s')=some r from h) λe s' I' seg' l' own' H' f hi ht=> ?_;cases e with
   |norm=>exact λa w u=>⟨l',own',H',⟨s',I',seg',ht,hi,p.trans f⟩,u⟩
   |exit id=>exact t (.exit id) s' I' seg' l' own' H' (p.trans f) hi ht
   |ret=>exact t .ret s' I' seg' l' own' H' (p.trans f) hi ht
theorem ZDZ (D:EnvOk X)(E:x.P=X.P):∀{c:Code} {β:Type} {r:β} {s:PS} {k:Ex->PS->Option β} {I:In} {seg:Nat->Own} {l:Slots} {own:List Own} {H:Heaplet},code X Z c β s k=some r->RS x s I seg l own H->∀{Q:Exit->Act->World->Prop},Kc x Q s I k r->JC x c Q l own H:=by
  intro c;induction c with
  |skip=>intro β r s k I seg l own H h hs Q d;exact JC.skip (d .norm s I seg l own H (Py _ _) h hs)
  |ret=>intro β r s k I seg l own H h hs Q d;exact BX (d .ret s I seg l own H (Py _ _) h hs)
  |exit id=>intro β r s k I seg l own H h hs Q d;exact ZAf (d (.exit id) s I seg l own H (Py _ _) h hs)
  | region id ops dr=>
    intro β r s k I seg l own H h hs Q d;have h:(Bool.rec (match ZK Z.cut (4*id)with
      |some C=>cutAt s (dstL ops.toList) (C.at s) (λ_ k=>pops X ops.toList ops.toList s (k .norm)) k
      |none=>pops X ops.toList ops.toList s<|k .norm) (match ZK Z.cut (4*id)with
      |some C=>cutAt s (dstL ops.toList) (C.at s) (λ_ k=>drawn X ops (ZK Z.mb id) s<|k .norm) k
      |none=>drawn X ops (ZK Z.mb id) s<|k .norm) dr:Option β)=some r:=h
    cases dr with
    | true=>
      have base:∀{g:Type} {q:g} {m:Ex->PS->Option g},drawn X ops (ZK Z.mb id) s (m .norm)=some q->∀{Q:Exit->Act->World->Prop},Kc x Q s I m q->JC x (.region id ops true) Q l own H:=λh Q d=>
        ZP6 D E hs h λs' I' seg' l' own' H' p f i=>d .norm s' I' seg' l' own' H' ⟨p.e,p.I⟩ f i
      have h:(match ZK Z.cut (4*id)with
        |some C=>cutAt s (dstL ops.toList) (C.at s) (λ_ k=>drawn X ops (ZK Z.mb id) s<|k .norm) k
        |none=>drawn X ops (ZK Z.mb id) s<|k .norm)=some r:=h
      split at h
      . exact ZHm hs base h d
      . exact base h d
    | false=>
      have base:∀{g:Type} {q:g} {m:Ex->PS->Option g},pops X ops.toList ops.toList s (m .norm)=some q->∀{Q:Exit->Act->World->Prop},Kc x Q s I m q->JC x (.region id ops false) Q l own H:=λh Q d=>
        Zj (ZNY D E hs h λs' I' seg' l' own' H' p f i=>d .norm s' I' seg' l' own' H' ⟨p.e,p.I⟩ f i)
      have h:(match ZK Z.cut (4*id)with
        |some C=>cutAt s (dstL ops.toList) (C.at s) (λ_ k=>pops X ops.toList ops.toList s<|k .norm) k
        |none=>pops X ops.toList ops.toList s<|k .norm)=some r:=h
      split at h
      . exact ZHm hs base h d
      . exact base h d
  | seq a b u w=>
    intro β r s k I seg l own H h hs Q d;have base:∀{g:Type} {q:g} {m:Ex->PS->Option g},code X Z a g s (λe s'=>match e with| .norm=>code X Z b g s' m|e=>m e s')=some q->∀{Q:Exit->Act->World->Prop},Kc x Q s I m q->JC x (.seq a b) Q l own H:=λ{g q m} h Q d=>
      Y0 (u h hs (λe s' I' seg' l' own' H' p f i=>by
        cases e with
        |norm=>exact Z9 (w f i<|d.ext p)
        |exit id=>exact U0 (d (.exit id) s' I' seg' l' own' H' p f i)
        |ret=>exact Wa<|d .ret s' I' seg' l' own' H' p f i))
    have h:(match ZK Z.cut (4*keyR a+3)with
      |some C=>cutAt s (dstC a++dstC b) (C.at s) (λg k=>code X Z a g s λe s'=>match e with| .norm=>code X Z b g s' k|e=>k e s') k
      |none=>code X Z a β s λe s'=>match e with| .norm=>code X Z b β s' k|e=>k e s')=some r:=h
    split at h
    . exact ZHm hs base h d
    . exact base h d
  | cond o a b u w=>
    intro β r s k I seg l own H h hs Q d;cases o with
    | tmp t =>
      obtain⟨c,e1,h⟩:=Zb (show oB (ZK s.l t) (λv=>oBo v λe=>(match ZK Z.cut (4*(t+1000*(keyR a+1000*keyR b))+1)with
        |some C=>cutAt s (t::(dstC a++dstC b)) (C.at s) (λg k=>cond e (flag s t v true λs=>code X Z a g s k)<|flag s t v false λs=>code X Z b g s k) k
        |none=>cond e (flag s t v true λs=>code X Z a β s k)<|flag s t v false λs=>code X Z b β s k))=some r from h)
      rcases hs.sl _ _ e1 with rfl|⟨v,F,B⟩
      . cases h
      . obtain⟨e,hb,h⟩:=GM h;have G:=hb.le _ _ B;simp only[VR]at G;subst G;have base:∀{g:Type} {q:g} {m:Ex->PS->Option g},cond e (flag s t c true λs=>code X Z a g s m) (flag s t c false λs=>code X Z b g s m)=some q->∀{Q:Exit->Act->World->Prop},Kc x Q s I m q->JC x (.cond (.tmp t) a b) Q l own H:=by
          intro g q m h Q d;rcases GY h with⟨p,h⟩|⟨p,h⟩
          . rw[ZAZ]at h;exact JC.cond F (λ_=>u h (hs.flag B hb.le p)<|d.ext ⟨Ext.flag _ _ _ _,In.Le.refl _⟩) λq=>by rw[p]at q;cases q
          . rw[ZAZ]at h;exact JC.cond F (λq=>by rw[p]at q;cases q) λ_=>w h (hs.flag B hb.le p)<|d.ext ⟨Ext.flag _ _ _ _,In.Le.refl _⟩
        split at h
        . exact ZHm hs base h d
        . exact base h d
    | const v=>
      cases v with
      | bool e=>
        cases e with
        |true=>exact ZH7 rfl (u (show code X Z a β s k=some r from h) hs d)
        |false=>exact ZDp rfl (w (show code X Z b β s k=some r from h) hs d)
      |_=>cases h
    |_=>cases h
  | block id b ih=>
    intro β r s k I seg l own H h hs Q d;have base:∀{g:Type} {q:g} {m:Ex->PS->Option g},code X Z b g s (λe s'=>match e with| .exit j=>Bool.rec (m e s') (m .norm s') (Nat.beq j id)|e=>m e s')=some q->∀{Q:Exit->Act->World->Prop},Kc x Q s I m q->JC x (.block id b) Q l own H:=λ{g q m} h Q d=>
      JC.block (ih h hs (λe s' I' seg' l' own' H' p f i=>by
        cases e with
        |norm=>exact KH (d .norm s' I' seg' l' own' H' p f i)
        |ret=>exact ZKb (d .ret s' I' seg' l' own' H' p f i)
        | exit j=>
          have f:(Bool.rec (m (.exit j) s') (m .norm s') (Nat.beq j id):Option g)=some q:=f;cases A:Nat.beq j id with
          | true=>
            rw[A]at f;cases TA A;exact Kb (d .norm s' I' seg' l' own' H' p f i)
          | false=>
            rw[A]at f;exact BU A<|d (.exit j) s' I' seg' l' own' H' p f i))
    have h:(match ZK Z.cut (4*id+2)with
      |some C=>cutAt s (dstC b) (C.at s) (λg k=>code X Z b g s λe s'=>match e with| .exit j=>Bool.rec (k e s') (k .norm s') (Nat.beq j id)|e=>k e s') k
      |none=>code X Z b β s λe s'=>match e with| .exit j=>Bool.rec (k e s') (k .norm s') (Nat.beq j id)|e=>k e s')=some r:=h
    split at h
    . exact ZHm hs base h d
    . exact base h d
  | loop b ih=>
    intro β r s k I seg l own H h hs Q d;have h:(match lkL s Z.lp (keyR b)with
      |some L=>ZJr s (dstC b) (L.at s) (code X Z b _) k
      |none=>(match ZK Z.un (keyR b)with|some n=>ZGQ (code X Z b) n s k|none=>none))=some r:=h
    split at h
    . exact ZRE hs (λy h1 Q z=>ih h1 y z) h d
    . split at h
      . exact ZOI hs (λy h1 Q z=>ih h1 y z) h d
      . cases h
  |_=>intro β r s k I seg l own H h hs Q d;cases h
theorem ZDj:∀{cs:List CV} {vs:List Value} {k t:Nat} {c:CV},VRs I cs vs->ZK (argsL cs k) t=some c->∃v,Go.Ow.lk ((List.range' k vs.length).zip vs) t=some v/\VR I c v
  |[],vs,k,t,c,b,h=>by cases h
  | a ::cs,vs,k,t,c,b,h=>by
    obtain⟨v,us,rfl,h1,h2⟩:=b.un;change ZK ((k,a)::argsL cs (k+1)) t=some c at h;rw[ZH]at h;simp only[Ts,S1,RQ,Go.Ow.lk];by_cases q:k=t
    . rw[TJ q]at h;cases h;rw[show Nat.beq k t=true from by simpa using q];exact⟨v,rfl,h1⟩
    . rw[TK q]at h;rw[Vr q];exact ZDj h2 h
theorem ZJQ:∀(vs:List Value) (k:Nat) (p:Nat×Value),p∈(List.range' k vs.length).zip vs->k<=p.1/\Go.Ow.lk ((List.range' k vs.length).zip vs) p.1=some p.2
  |[],k,p,h=>by simp at h
  | v ::vs,k,p,h=>by
    simp only[Ts,S1,RQ,Ta]at h|-;rcases h with rfl|h
    . exact⟨TF _,by simp[Go.Ow.lk]⟩
    . obtain⟨h1,h2⟩:=ZJQ vs (k+1) p h;refine⟨by omega,?_⟩;simp only[Go.Ow.lk];rw[Vr<|by omega];exact h2
theorem ZCy (i:x.P=X.P)(hs:RS x s I seg l own H):∀{d:List ResultVar} {k:List CV->Option β},GG X.P s d k=some r->∃cs us,Res x.P l own d us/\VRs I cs us/\k cs=some r
  |[],k,h=>⟨[],[],rfl,VRs.nil,h⟩
  | .tmp t::d,k,h=>by
    obtain⟨c,e,h⟩:=Zb<|show oB (ZK s.l t) (λc=>kn c λc=>GG X.P s d λr=>k (c::r))=some r from h
    obtain⟨h0,h⟩:=ZAW h;obtain⟨v,e1,e2⟩:=(hs.sl _ _ e).resolve_left h0;obtain⟨cs,us,j,p,h⟩:=ZCy i hs h;exact⟨c::cs,v::us,ZW e1 j,VRs.cons e2 p,h⟩
  | .cell t T ::d,k,h=>by
    obtain⟨c,e,h⟩:=Zb<|show oB (ZK s.l t) (λc=>(match c with| .ptr a o=>bb (Nat.beq o 0) (oB (ZK s.z a) λm=>bb (match ZE X.P T with|some (true,n)=>Nat.beq n m|some (false,_)=>true|none=>false) (ldO X.P s T a 0 λc=>GG X.P s d λr=>k (c::r)) none) none|_=>none))=some r from h
    cases c with
    | ptr a o =>
      obtain⟨D,h⟩:=ZC h;cases TA D;obtain⟨m,E,h⟩:=Zb h;obtain⟨g,h⟩:=ZC h;obtain⟨v,e1,e2⟩:=(hs.sl _ _ e).resolve_left (by simp);simp only[VR]at e2;obtain⟨_,rfl⟩:=e2;obtain⟨F,cur,G,u,y⟩:=hs.ze _ _ E;have hi:own[a]? =some [((I.ν a).1,Obj.cells cur G (0,0))]:=(by rw[YY hs F,u]);unfold ldO at h;split at h
      . rename_i n b;obtain⟨c,e3,h⟩:=Zb h;obtain⟨h0,h⟩:=ZAW h;obtain⟨_,q,_,w,f,A,C⟩:=(hs.ce _ _ _ e3).resolve_left h0;rw[u]at f;simp only[SS,Si,Obj.cells.injEq,and_true,Rj]at f;obtain⟨rfl,_⟩:=f;obtain⟨cs,us,j,p,h⟩:=ZCy i hs h;exact⟨c::cs,w::us,ZOk a e1 hi (by rw[i];exact b) A j,VRs.cons C p,h⟩
      . rename_i n b;rw[b]at g;have g:=TA g;obtain⟨cl,h,J,K⟩:=ZC9 hs h;obtain⟨cs,us,j,p,h⟩:=ZCy i hs (show GG X.P s d (λr=>k (.ag cl::r))=some r from h)
        have B:VR I (.ag cl) (.agg cur):=by
          simp only[VR];rcases K with rfl|⟨_,q,_,f,A,C⟩
          . cases cl with
            | nil=>
              refine⟨[],?_,VRs.nil⟩;have:cur= #[]:=Array.eq_empty_of_size_eq_zero (by rw[y,<-g]);rw[this]
            |cons=>cases J
          . rw[u]at f;simp only[SS,Si,Obj.cells.injEq,and_true,Rj]at f;obtain⟨rfl,_⟩:=f;refine⟨_,?_,A⟩;apply congrArg;apply Sr.1;rw[List.drop_zero,TZ (by rw[TM,y,g];exact TF _),Tf]
        refine⟨.ag cl::cs,.agg cur::us,Qm a e1 hi ?_ j,VRs.cons B p,h⟩;rw[i,b,TM,y,g]
      . cases h
    |_=>cases h
theorem ZIs{P:Program}{s t:PS}(h:SameB s t){a:List ResultVar}{k:List CV->Option β}:GG P t a k=GG P s a k:=by
 obtain⟨N,l,o,z,n,f,c,r⟩:=s;obtain⟨i,l',o',j,m,p,q,u⟩:=t;obtain⟨h1,h2,h3,b,d,e,g⟩:=h;simp only at h1 h2 h3 b d e g;subst h1 h2 h3 b d e g;rfl
theorem ZCN:∀{n i:Nat},ZK (idR n) i=if i<n then some (some i)else none
  |0,i=>rfl
  | n +1,i=>by
    rw[show idR (n+1)=(n,some n)::idR n from rfl,ZH,ZCN];by_cases q:n=i
    . subst q;rw[TJ rfl,TJ<|SD _]
    . rw[TK q];by_cases a:i<n
      . rw[TJ a,TJ<|by omega]
      . rw[TK a,TK<|by omega]
theorem ZNe{i n:Nat}:∀{l:List (Nat×CV)} {k:Nat} {c:CV},ZK (mvl i n l) k=some c->∃d,ZK l k=some d/\c=mvC i n d
  | p ::l,k,c,h=>by
    have h:ZK ((p.1,mvC i n p.2)::mvl i n l) k=some c:=h;rw[ZH]at h;rw[ZH];split at h
    . rename_i q;cases h;rw[TJ q];exact⟨_,rfl,rfl⟩
    . rename_i q;rw[TK q];exact ZNe h
theorem ZF9{i n:Nat}:∀{l:List ((Nat×Nat)×CV)} {a o:Nat} {c:CV},lkO (mvl i n l) a o=some c->∃d,lkO l a o=some d/\c=mvC i n d
  | p ::l,a,o,c,h=>by
    have h:(Bool.rec (lkO (mvl i n l) a o) (Bool.rec (lkO (mvl i n l) a o) (some (mvC i n p.2)) (Nat.beq p.1.2 o)) (Nat.beq p.1.1 a):Option CV)=some c:=h;show∃d,(Bool.rec (lkO l a o) (Bool.rec (lkO l a o) (some p.2) (Nat.beq p.1.2 o)) (Nat.beq p.1.1 a):Option CV)=some d/\c=mvC i n d;cases h1:Nat.beq p.1.1 a with
    |false=>rw[h1]at h;exact ZF9 h
    | true=>
      rw[h1]at h;cases h2:Nat.beq p.1.2 o with
      |false=>rw[h2]at h;exact ZF9 h
      |true=>rw[h2]at h;cases h;exact⟨_,rfl,rfl⟩
noncomputable def mvS (s:PS) (i:Nat) (t:Ty) (E:Nat) (m:List (den t)):PS:=⟨s.N,mvl i s.n s.l,mvl i s.n s.o,s.z,s.n+1,s.f,s.c,(s.n,.own t E m)::(i,.dead)::s.r⟩
theorem RS.mv{i:Nat}{t:Ty}{E:Nat}{m:List (den t)}(hs:RS x s I seg l own H)(e:ZK s.r i=some (.own t E m)):
    RS x (mvS s i t E m) {I with ν:=upN I.ν s.n<|I.ν i,n:=s.n+1} (upN (upN seg i []) s.n<|seg i) l ((List.range (s.n+1)).map<|upN (upN seg i []) s.n<|seg i) H:=by
  obtain⟨hi,D⟩:=(hs.rw _ _ e).resolve_left (by simp);have u:ZK s.z i=none:=(hs.rz _ _ e).resolve_left (by simp);have f:∀a,a<s.n->upN I.ν s.n (I.ν i) a=I.ν a:=λa A=>Zg<|Sq A;have g:∀a,a<s.n->a≠i->upN (upN seg i []) s.n (seg i) a=seg a:=λa A b=>by rw[Zg<|Sq A,Zg b]
  have w:I.Le {I with ν:=upN I.ν s.n<|I.ν i,n:=s.n+1}:=⟨Rz _,by show I.n<=s.n+1;rw[hs.n];omega,λk F=>f k (by rw[<-hs.n];exact F),TF _,λ_ _=>rfl⟩;have y:∀{c:CV} {v:Value},(c=.unk\/VR I c v)->(mvC i s.n c=.unk\/VR {I with ν:=upN I.ν s.n<|I.ν i,n:=s.n+1} (mvC i s.n c) v):=λ{c v} h=>by
    cases c with
    | row j=>
      have B:=h.resolve_left<|by simp
      right;show VR _ (Bool.rec (.row j) (.row s.n) (Nat.beq j i):CV) v;cases G:Nat.beq j i with
      |false=>exact B.mono w
      | true=>
        have:=TA G;subst this;simp only[VR]at B|-;refine⟨SD _,?_⟩;rw[show upN I.ν s.n (I.ν j) s.n=I.ν j from Zl _ _ _];exact B.2
    |_=>exact h.imp id λh=>h.mono w
  refine⟨hs.N,hs.H,rfl,hs.q,rfl,λt c e2=> ?_,λa k e2=> ?_,λa o c e2=> ?_,hs.fx,λk c e2=> ?_,λk c e2=> ?_,λk c j d e2 e3=> ?_⟩
  . obtain⟨d,p,rfl⟩:=ZNe (show ZK (mvl i s.n s.l) t=some c from e2)
    rcases hs.sl t d p with h|⟨v,h1,h2⟩
    . exact .inl (by rw[h];rfl)
    . exact(y<|.inr h2).imp id λh=>⟨v,h1,h⟩
  . obtain⟨h1,h2⟩:=hs.ze a k e2;have b:a≠i:=λq=>(by subst q;rw[show ZK s.z a=some k from e2]at u;cases u);refine⟨SV h1,?_⟩;rw[g a h1 b];show∃cur T,seg a= [((upN I.ν s.n (I.ν i) a).1,_)]/\_;rw[f a h1];exact h2
  . obtain⟨d,p,rfl⟩:=ZF9 (show lkO (mvl i s.n s.o) a o=some c from e2)
    rcases hs.ce a o d p with h|⟨h1,cur,T,v,h2,h3,J⟩
    . exact .inl (by rw[h];rfl)
    . by_cases b:a=i
      . subst b;rcases hs.ro _ _ _ _ e p with h|h
        . cases h
        . exact .inl (by rw[h];rfl)
      . refine(y<|.inr J).imp id λh=>⟨SV h1,cur,T,v,?_,h3,h⟩;rw[g a h1 b];show seg a= [((upN I.ν s.n (I.ν i) a).1,_)];rw[f a h1];exact h2
  . change ZK ((s.n,RC.own t E m)::(i,RC.dead)::s.r) k=some c at e2;rw[ZH]at e2;split at e2
    . rename_i q;have q:s.n=k:=q;subst q;cases e2;refine .inr ⟨SD _,?_⟩;rw[Zl];show RwOk I.H (upN I.ν s.n (I.ν i) s.n).2 _ _;rw[Zl];exact D
    . rename_i q;rw[ZH]at e2;split at e2
      . cases e2;exact .inl rfl
      . rename_i C;have C:¬i=k:=C;refine(hs.rw k c e2).imp id fun⟨h1,h2⟩=>⟨SV h1,?_⟩;rw[g k h1 λh=>C h.symm];show RwOk I.H (upN I.ν s.n (I.ν i) k).2 _ _;rw[f k h1];exact h2
  . change ZK ((s.n,RC.own t E m)::(i,RC.dead)::s.r) k=some c at e2;rw[ZH]at e2;split at e2
    . rename_i q;have q:s.n=k:=q;subst q
      right;show ZK s.z s.n=none;cases h:ZK s.z s.n with
      |none=>rfl
      |some m=>have:=(hs.ze _ m h).1;omega
    . rw[ZH]at e2;split at e2
      . cases e2;exact .inl rfl
      . exact hs.rz k c e2
  . change ZK ((s.n,RC.own t E m)::(i,RC.dead)::s.r) k=some c at e2;obtain⟨K,p,rfl⟩:=ZF9 (show lkO (mvl i s.n s.o) k j=some d from e3)
    rw[ZH]at e2;split at e2
    . rename_i q;have q:s.n=k:=q;subst q;rcases hs.ce _ _ _ p with h|⟨h1,_⟩
      . exact .inr (by rw[h];rfl)
      . omega
    . rw[ZH]at e2;split at e2
      . cases e2;exact .inl rfl
      . exact(hs.ro k c j K e2 p).imp id λh=>by rw[h];rfl
theorem ZRD{n i:Nat}{seg:Nat->Own}(hi:i<n):(((List.range n).map seg).flatten).Perm (((List.range (n+1)).map<|upN (upN seg i []) n<|seg i).flatten):=by
 have h1:(List.range n).map (upN (upN seg i []) n<|seg i)=((List.range n).map seg).set i []:=by
  apply Tl;intro j;rw[T3];simp only[SN];by_cases h:j<n
  . rw[Rm h];simp only[S7];rw[Zg<|Sq h];by_cases q:i=j
    . subst q;simp[Zl,hi]
    . rw[TK q,Zg<|Ne.symm q]
  . have:(List.range n)[j]? =none:=(by simp;omega);rw[this];by_cases q:i=j
    . omega
    . rw[TK q];rfl
 rw[List.range_succ,SJ,h1];have h2:(List.map (upN (upN seg i []) n<|seg i) [n])= [seg i]:=by show [upN _ n (seg i) n]=_;rw[Zl]
 rw[h2];have h3:=GJ (own:=(List.range n).map seg) (j:=i) (K:=seg i) (by simpa using hi);have a:((List.range n).map seg).set i (seg i)=(List.range n).map seg:=by
  apply Tl;intro j;rw[T3];by_cases q:i=j
  . subst q;simp[hi]
  . rw[TK q]
 rw[a]at h3;exact h3
theorem ZGA{F:List Own}{C:Act->World->Prop}{B:Nat}:∀{js:List Nat} {s:PS} {I:In} {seg:Nat->Own} {own:List Own} {k:PS->Option β},RS x s I seg l own H->B<=s.n->mvJ js s k=some r->
    (∀s1 I1 b o,(∀a,a<B->I1.ν a=I.ν a)->RS x s1 I1 b l o H->k s1=some r->JN x C l (o++F) H)->JN x C l (own++F) H
  |[],s,I,seg,own,k,hs,d,h,c=>c s I seg own (λ_ _=>rfl) hs h
  | i ::js,s,I,seg,own,k,hs,d,h,c=>by
    replace h:=show(match ZK s.r i with
      |some (.own t E m)=>mvJ js (mvS s i t E m) k
      |_=>mvJ js s k)=some r from h
    split at h
    . rename_i t E m e;have hi:=((hs.rw _ _ e).resolve_left<|by simp).1;have f:=hs.mv e;have:=ZGA (F:=F) f (show B<=s.n+1 by omega) h (λs1 I1 b o h1 h2 h3=>c s1 I1 b o (λa g=>by rw[h1 a g];exact Zg<|by omega) h2 h3);intro a w j;refine this a w<|hperm j ?_;rw[hs.own,TW,TW];exact(ZRD hi).append_right _
    . exact ZGA hs d h c
theorem ZPa{C:Act->World->Prop}{B:Nat}{js:List Nat}{k:PS->Option β}(hs:RS x s I seg l own H)(c:B<=s.n)(h:mvJ js s k=some r)
 (d:∀s1 I1 b o,(∀a,a<B->I1.ν a=I.ν a)->RS x s1 I1 b l o H->k s1=some r->JN x C l o H):JN x C l own H:=by
 have:=ZGA (F:=[]) (C:=C) hs c h (λs1 I1 b o h1 h2 h3=>by rw[Th];exact d s1 I1 b o h1 h2 h3);rwa[Th]at this
theorem ZP4{fn:Func}{i o:Sp}{y:VH (hyS o)}{w:World}{W:Wt}{l':Slots}{A:Exit}{I1:In}{s:Nat->Own}{c:List Own}{H1:Heaplet}{s1:PS}(f:∀k w,W k=some w->k<i.bs.length)(B:∀k w,W k=some w->I1.ν k=w.1)
    (C:RS {P:=X.P,r:=none,n:=fn.ntmps,w0:=w,H0:=H,S:=ids ((List.range i.bs.length).map<|sgW W).flatten,ds:=[]} s1 I1 s l' c H1)(D:A=.ret\/A=.normal)
    (R:oB (GG X.P s1 fn.results.toList some) (λl=>mtS s1 o l (idR i.bs.length) λhs ρ js=>bb (allB (λp=>Nat.blt p.1 o.bs.length) ρ) (toVH (hyS o) hs some) none)=some y):
    JN {P:=X.P,r:=none,n:=fn.ntmps,w0:=w,H0:=H,S:=ids ((List.range i.bs.length).map<|sgW W).flatten,ds:=[]} (Ret {P:=X.P,r:=none,n:=fn.ntmps,w0:=w,H0:=H,S:=ids ((List.range i.bs.length).map<|sgW W).flatten,ds:=[]} fn (λu K' H'=>∃us v,(∀k w,v k=some w->k<o.bs.length)/\(∀k w,W k=some w->∃Q,v k=some Q/\Q.1=w.1)/\u=Ow.pack us/\TellsS H' v o (ofVH (hyS o) y) us/\K'=(List.range o.bs.length).map (sgW v)) A) l' c H1:=by
  obtain⟨T,E,m⟩:=Zb R;obtain⟨hv,ρ,js,m,q,t,F,G⟩:=ZB3 m (λi j a e1 e2=>by
    rw[ZCN]at e1 e2;split at e1
    . split at e2
      . have e1:=TB<|TB e1;have e2:=TB<|TB e2;omega
      . cases e2
    . cases e1)
  obtain⟨h,m⟩:=ZC m;have h:∀k a,ZK ρ k=some a->k<o.bs.length:=λk a e=>by simpa using Zd.1 h _ (W5 e)
  obtain⟨y',U,I⟩:=UD m;cases I;subst U;have J:∀k,k<i.bs.length->ZK ρ k=some (some k):=λk L=>q _ _ (by rw[ZCN,TJ L]);refine Gs (js:=js) C λseg2 own2 H2 g2 d=> ?_;obtain⟨V,us,Y,Z,f3⟩:=ZCy (x:={P:=X.P,r:=none,n:=fn.ntmps,w0:=w,H0:=H,S:=ids ((List.range i.bs.length).map<|sgW W).flatten,ds:=[]}) rfl d (by rw[ZIs<|Yo js s1];exact E);cases f3;have M:=G {I1 with H:=H2} seg2 us (Rw.of d) Z.vu;have O:∀k w,Wf ρ {I1 with H:=H2} seg2 k=some w->k<o.bs.length:=λk w e=>by
    unfold Wf at e;cases e2:ZK ρ k with
    |none=>rw[e2]at e;cases e
    |some a=>exact h k a e2
  obtain ⟨Rx,_,hp⟩:=ZAQ (g:=seg2) (K:=List.range (pubS js s1).n) (N:=o.bs.length) (seg:=sgW<|Wf ρ {I1 with H:=H2} seg2) (λk=>(ZK ρ k).bind id)
    (λa b z _ _ e1 e2=>by
      cases h1:ZK ρ a with
      |none=>rw[h1]at e1;cases e1
      | some o1=>cases h2:ZK ρ b with
        |none=>rw[h2]at e2;cases e2
        | some o2=>
          rw[h1]at e1;rw[h2]at e2;have e1:o1=some z:=e1;have e2:o2=some z:=e2;subst e1 e2;exact t _ _ _ h1 h2)
    (λa z _ e=>by
      cases h1:ZK ρ a with
      |none=>rw[h1]at e;cases e
      |some o=>rw[h1]at e;have e:o=some z:=e;subst e;rw[Tx,(Yo js s1).n];exact(F _ _ h1).2)
    (λk _=>by
      unfold sgW Wf;cases ZK ρ k with
      |none=>rfl
      |some a=>cases a<;>rfl)
  refine ZU (K:=(List.range o.bs.length).map<|sgW<|Wf ρ {I1 with H:=H2} seg2) (rst:=Rx.map seg2) D (by simp) rfl Y (by rw[d.own];exact hp) ⟨us,_,O,λk w e=> ?_,rfl,M,rfl⟩;have L:=f k w e;refine⟨_,Wf_of<|J k L,?_⟩;exact B k w e
def Enter (P:Program)(f:Nat)(DO:Array Value->List Own->Heaplet->(Value->List Own->Heaplet->Prop)->Prop):Prop:=
  ∀ {fn:Func} {c:Code} {vs:List Value} {K:List Own} {H:Heaplet} {R:Value->List Own->Heaplet->Prop},P.funcs[f]? =some fn->fn.body=some c->Nat.ble vs.length fn.ntmps=true->
    (∀w,JC {P:=P,r:=none,n:=fn.ntmps,w0:=w,H0:=H,S:=ids K.flatten,ds:=[]} c (Ret {P:=P,r:=none,n:=fn.ntmps,w0:=w,H0:=H,S:=ids K.flatten,ds:=[]} fn R) ((List.range' 0 vs.length).zip vs) K H)->DO vs.toArray K H R
theorem ZM0{P:Program}{f:Nat}:Enter P f (Does P f):=λ{fn c vs K H R} a b hn h=>Does.enter (l:=(List.range' 0 vs.length).zip vs) a b hn (sub_self λp d=>(ZJQ vs 0 p d).2) h
theorem ZNn{DO:Array Value->List Own->Heaplet->(Value->List Own->Heaplet->Prop)->Prop}{f:Nat}(Q:Enter X.P f DO)(hX:EnvOk X){i o:Sp}:FnOkG DO i o (fnV X Z f i o):=by
 intro H W vs z y C hT h;obtain⟨fn,hf,h⟩:=Zb (show oB X.P.funcs[f]? (λfn=>oB fn.body λc=>PS.bu ⟨fn.ntmps,[],[],[],0,[],0,[]⟩ [] i (ofVH (hyS i) z) λus s=>Xq (argsL us 0) λl=>bb (Nat.ble l.length fn.ntmps) (code X Z c (VH<|hyS o) ⟨s.N,l,s.o,s.z,s.n,s.f,s.c,s.r⟩ λe s=>match e with
  | .exit _=>none
  |_=>U4 Z.pb s λs=>mvJ Z.mv s λs=>oB (GG X.P s fn.results.toList some) λl=>mtS s o l (idR i.bs.length) λhs ρ js=>bb (allB (λp=>Nat.blt p.1 o.bs.length) ρ) (toVH (hyS o) hs some) none) none)=some y from h)
 obtain⟨c,R,h⟩:=Zb h;obtain⟨hok,cs,T,c1,F,G,I,g,hLi,hBi,h⟩:=Jb h;rw[Y7]at h;obtain⟨hn,h⟩:=ZC h;have U:∀(cs:List CV) (k:Nat),(argsL cs k).length=cs.length:=λcs=>by
  induction cs with
  |nil=>intro k;rfl
  |cons a cs ih=>intro k;show(argsL cs (k+1)).length+1=_;rw[ih];rfl
 rw[U]at hn;let s0:PS:=⟨fn.ntmps,[],[],[],0,[],0,[]⟩;let J:In:={H:=H,ν:=λa=>match W a with|some w=>w.1|none=>(0,.nilIface),n:=0+i.bs.length,κ:=λc=>(cnt<|ofVH (hyS i) z)[c]?.getD 0,q:=0+(cnt<|ofVH (hyS i) z).length};have hC:Cnt J 0 (cnt<|ofVH (hyS i) z):=λm j e=>by
  have D:=(TC.1 e).1;refine⟨by show 0+m<0+_;omega,?_⟩;show(cnt<|ofVH (hyS i) z)[0+m]?.getD 0=j;rw[Te,e];rfl
 have hsg:∀k,sg ([]:Rho) 0 k=k:=λk=>Te k;have hW4:∀k w,W k=some w->sg ([]:Rho) 0 k<J.n/\J.ν (sg ([]:Rho) 0 k)=w.1/\sgW W (sg ([]:Rho) 0 k)=w.2:=λk w e=>by
  rw[hsg];refine⟨by show k<0+i.bs.length;have:=C k w e;omega,?_,?_⟩
  . show(match W k with|some w=>w.1|none=>_)=_;rw[e]
  . unfold sgW;rw[e]
 have base:∀(x:Cx) (l:Slots),x.n=fn.ntmps->RS x s0 ⟨H,λ_=>(0,.nilIface),0,λ_=>0,0⟩ (λ_=> []) l [] H:=λx l hx=>
  ⟨hx.symm,rfl,rfl,rfl,rfl,λt c e=>(by cases e),λa m e=>(by cases e),λa o c e=>(by cases e),λc R=>(by cases R),λk c e=>(by cases e),λk c e=>(by cases e),λk c o d e=>(by cases e)⟩
 have entry:∀(x:Cx) (l:Slots),x.n=fn.ntmps->VRs J cs vs/\RS x (buS s0 i G I (F++g)) J (sgW W) l ((List.range J.n).map<|sgW W) H:=λx l hx=>
  RS.bu (J:=J) (seg2:=sgW W) (base x l hx) hT hok hLi hBi (λi a e=>by cases e) (λi j a e=>by cases e) rfl rfl rfl (λa ha=>absurd ha<|Tn _) (λc R=>absurd R<|Tn _) hC hW4 (λa ha=>absurd ha<|Tn _) (λp hp D=>absurd D<|Tn _) λp hp D=>absurd D<|Tn _
 have hJn:J.n=i.bs.length:=Te _;have V:=(entry {P:=X.P,r:=none,n:=fn.ntmps,w0:=default,H0:=H,S:=[],ds:=[]} [] rfl).1;rw[V.length]at hn;refine Q hf R hn λw=> ?_;obtain⟨_,b⟩:=entry {P:=X.P,r:=none,n:=fn.ntmps,w0:=w,H0:=H,S:=ids ((List.range i.bs.length).map<|sgW W).flatten,ds:=[]} ((List.range' 0 vs.length).zip vs) rfl;rw[hJn]at b;have M:RS {P:=X.P,r:=none,n:=fn.ntmps,w0:=w,H0:=H,S:=ids ((List.range i.bs.length).map<|sgW W).flatten,ds:=[]} ⟨(buS s0 i G I (F++g)).N,argsL cs 0,(buS s0 i G I (F++g)).o,(buS s0 i G I (F++g)).z,(buS s0 i G I (F++g)).n,(buS s0 i G I (F++g)).f,(buS s0 i G I (F++g)).c,(buS s0 i G I (F++g)).r⟩ J (sgW W) ((List.range' 0 vs.length).zip vs) ((List.range i.bs.length).map<|sgW W) H:=
  ⟨b.N,b.H,b.n,b.q,b.own,λt c e=>.inr<|ZDj V e,b.ze,b.ce,b.fx,b.rw,b.rz,b.ro⟩
 refine ZDZ hX rfl h M ?_;intro e s' I' seg' l' own' H' he Y T;have fin:∀{K:Exit} (I1:In) (A:Nat->Own) (v:List Own) (H1:Heaplet) (s1:PS),(∀k,k<i.bs.length->I1.ν k=I'.ν k)->RS {P:=X.P,r:=none,n:=fn.ntmps,w0:=w,H0:=H,S:=ids ((List.range i.bs.length).map<|sgW W).flatten,ds:=[]} s1 I1 A l' v H1->K=.ret\/K=.normal->oB (GG X.P s1 fn.results.toList some) (λl=>mtS s1 o l (idR i.bs.length) λhs ρ js=>bb (allB (λp=>Nat.blt p.1 o.bs.length) ρ) (toVH (hyS o) hs some) none)=some y->
  JN {P:=X.P,r:=none,n:=fn.ntmps,w0:=w,H0:=H,S:=ids ((List.range i.bs.length).map<|sgW W).flatten,ds:=[]} (Ret {P:=X.P,r:=none,n:=fn.ntmps,w0:=w,H0:=H,S:=ids ((List.range i.bs.length).map<|sgW W).flatten,ds:=[]} fn (λu K' H'=>∃us E,(∀k w,E k=some w->k<o.bs.length)/\(∀k w,W k=some w->∃w',E k=some w'/\w'.1=w.1)/\u=Ow.pack us/\TellsS H' E o (ofVH (hyS o) y) us/\K'=(List.range o.bs.length).map (sgW E)) K) l' v H1:=λI1 A v H1 s1 hν M O hr=>ZP4 C (λk w e=>by
  have Y:=C k w e;rw[hν k Y,he.i.ν k (by show k<0+i.bs.length;omega)];show(match W k with|some w=>w.1|none=>_)=_;rw[e]) M O hr
 have hnn:i.bs.length<=s'.n:=by have:=he.e.n;show _<=_;exact TS (by show i.bs.length<=0+i.bs.length;omega) this
 have L:∀{K:Exit},K=.ret\/K=.normal->U4 Z.pb s' (λs=>mvJ Z.mv s λs1=>oB (GG X.P s1 fn.results.toList some) λl=>mtS s1 o l (idR i.bs.length) λhs ρ js=>bb (allB (λp=>Nat.blt p.1 o.bs.length) ρ) (toVH (hyS o) hs some) none)=some y->
  JN {P:=X.P,r:=none,n:=fn.ntmps,w0:=w,H0:=H,S:=ids ((List.range i.bs.length).map<|sgW W).flatten,ds:=[]} (Ret {P:=X.P,r:=none,n:=fn.ntmps,w0:=w,H0:=H,S:=ids ((List.range i.bs.length).map<|sgW W).flatten,ds:=[]} fn (λu K' H'=>∃us E,(∀k w,E k=some w->k<o.bs.length)/\(∀k w,W k=some w->∃w',E k=some w'/\w'.1=w.1)/\u=Ow.pack us/\TellsS H' E o (ofVH (hyS o) y) us/\K'=(List.range o.bs.length).map (sgW E)) K) l' own' H':=by
  intro K O hr;rw[Vu]at hr;refine Gs (js:=Z.pb) T λseg2 own2 H2 g2 hs2=> ?_;exact ZPa (B:=i.bs.length) hs2 (by rw[(Yo Z.pb s').n];exact hnn) hr λs1 I1 A v h1 h2 h3=>fin I1 A v H2 s1 h1 h2 O h3
 cases e with
 |norm=>exact L (.inr rfl) Y
 |ret=>exact L (.inl rfl) Y
 |exit id=>cases Y
theorem ZS7 (h:EnvOk X){f:Nat}{i o:Sp}:FnOk X.P f i o (fnV X Z f i o):=ZNn ZM0 h
end
end Go.Pv
