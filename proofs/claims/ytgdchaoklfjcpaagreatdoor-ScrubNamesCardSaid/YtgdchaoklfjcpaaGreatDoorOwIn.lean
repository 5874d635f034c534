import Derived.Test.YtgdchaoklfjcpaaGreatDoorOwMb
import Derived.Test.YtgdchaoklfjcpaaGreatDoorOwMa
/- Proved: what copies and growths leave of a row of one's own when an element is put in: cell lists alone. -/
set_option linter.unusedSimpArgs false
set_option linter.unusedVariables false
namespace Go.Ow
open Go.RowKit
theorem ZAT{P:Program}{w:World}{T e:TypeId}{s:Nat}(f:P.underlying T=some (.slice e))(i:∀w,(Go.sizeOf e).run P w=.ok s w){g:Nat}{cur:Array Value}{E:TypeId}(k:w.heap[g]? =some (.cells cur E (0,0))){o n c:Nat}{sa:Addr}{sl sc:Nat}{cs:List Value}
    (d:cs.length=Nat.min sl n*s)(h:∀j v,cs[j]? =some v->w.cell? (sa.add j)=some v)(a:o+cs.length<=cur.size)(h1:∀v∈cs,v.oneCell'=true)(ty:TypeId):
    (Builtin.copy_ #[T,T] ty #[.slice (some ⟨g,o,none⟩) n c,.slice (some sa) sl sc]).run P w=.ok (goInt<|Nat.min sl n) (w.setRow g (cur.toList.take o++cs++cur.toList.drop (o+cs.length)).toArray):=by
  have l:=run_firstCells_some (P:=P) w s (Nat.min sl n) sa sl sc cs d h;have b:=run_storeCells_at P g o E cs 0 cur w k (by simpa using a) h1;simp only[SI]at b;simp[Builtin.copy_,run_underlying f,Builtin.lenOf,i,l,goInt,Result.andThen];rw[b];simp only[TE]
theorem ZP5{α:Type}{a b:List α}{n:Nat}(h:a.length=n):(a++b).drop n=b:=by subst h;exact RP
theorem ZPG{α:Type}{a b:List α}{n:Nat}(h:a.length=n):(a++b).take n=a:=by subst h;exact T6
theorem ZOX{cur C a cells us:List Value}{n i k:Nat}(hi:i<n)(h0:cells.length=n*k)(b:cur.take (n*k)=cells)(h:us.length=k)(hs:(n+1)*k<=cur.length)
    (e1:C=cur.take ((i+1)*k)++cells.drop (i*k)++cur.drop ((i+1)*k+(cells.drop (i*k)).length))(e2:a=C.take (i*k)++us++C.drop (i*k+us.length)):
    C.length=cur.length/\a.length=cur.length/\a.take ((n+1)*k)=cells.take (i*k)++us++cells.drop (i*k):=by
  have h1:i*k+k<=n*k:=by rw[<-Nat.succ_mul];exact TN _ hi
  have h2:(n+1)*k=n*k+k:=Nat.succ_mul _ _;have h3:(i+1)*k=i*k+k:=Nat.succ_mul _ _;rw[h2]at hs|-;rw[h3]at e1;have c:(cells.drop (i*k)).length=n*k-i*k:=by rw[Td,h0]
  have l:C.length=cur.length:=by
    rw[e1];simp only[TG,TH,Td,h0];omega
  have t1:C.take (i*k)=cells.take (i*k):=by
    rw[e1,TE,List.take_append_of_le_length (by rw[TH];omega),SU,Tr (by omega),<-b,SU,Tr<|by omega]
  have t:C.drop (i*k+k)=cells.drop (i*k)++cur.drop (i*k+k+(cells.drop (i*k)).length):=by
    rw[e1,TE];exact ZP5 (by rw[TH];omega)
  refine⟨l,?_,?_⟩
  . rw[e2];simp only[TG,TH,Td,l,h];omega
  . rw[e2,t1,h,t,<-TE];have d:(cells.take (i*k)++us++cells.drop (i*k)).length=n*k+k:=by
      simp only[TG,TH,c,h,h0];omega
    rw[<-d,T6]
theorem ZMv{C b c pre us mid:List Value}{a k:Nat}(e:C.take a=pre)(d:us.length=k)(hs:a+k+mid.length<=C.length)
    (e1:b=C.take a++us++C.drop (a+us.length))(e2:c=b.take (a+k)++mid++b.drop (a+k+mid.length)):
    b.length=C.length/\c.length=C.length/\c.take (a+k+mid.length)=pre++us++mid:=by
  have lp:(C.take a).length=a:=by rw[TH];omega
  have l:b.length=C.length:=by rw[e1];simp only[TG,TH,Td,d];omega
  have t1:b.take (a+k)=pre++us:=by
    have h:(C.take a++us).length=a+k:=(by rw[TG,lp,d]);rw[e1,<-e,<-h,T6]
  refine⟨l,?_,?_⟩
  . rw[e2];simp only[TG,TH,Td,l];omega
  . have h:(pre++us++mid).length=a+k+mid.length:=(by rw[TG,<-t1,TH,l];omega);rw[e2,t1,<-h,T6]
structure InsW (P:Program) (f ov T k:Nat):Prop where
  A :∀(b c vb vc n i N G:Nat) (w WA WB WC:World),i<n->c=n->n+1<=G->c<9223372036854775807->
    (∀ty,(Builtin.append_ #[T,3] ty #[.slice (some ⟨b,0,none⟩) i c,.int .i64<|(n:Int)+1-i]).run P w=.ok (.slice (some ⟨N,0,none⟩) (n+1) G) WA)->
    (∀ty dc,(Builtin.copy_ #[T,T] ty #[.slice (some ⟨N,i*k,none⟩) (n+1-i) dc,.slice (some ⟨vb,0,none⟩) 1 vc]).run P WA=.ok (goInt 1) WB)->
    (∀ty dc sc,(Builtin.copy_ #[T,T] ty #[.slice (some ⟨N,(i+1)*k,none⟩) (n-i) dc,.slice (some ⟨b,i*k,none⟩) (n-i) sc]).run P WB.drew=.ok (goInt (n-i)) WC)->
    Calls P f #[.slice (some ⟨b,0,none⟩) n c,.int .i64 i,.slice (some ⟨vb,0,none⟩) 1 vc] w λe w'=>e=.returned (.slice (some ⟨N,0,none⟩) (n+1) G)/\w'=WC
  B :∀(b c vb vc n i:Nat) (w W1 W2:World),i<n->n+1<=c->c<=9223372036854775807->
    (∀lb cb,(callFunc ov #[.slice (some ⟨vb,0,none⟩) 1 vc,.slice (some ⟨b,(i+1)*k,none⟩) lb cb]).run P w=.ok (.value<|.bool false) w)->
    (∀ty dc sc,(Builtin.copy_ #[T,T] ty #[.slice (some ⟨b,(i+1)*k,none⟩) (n-i) dc,.slice (some ⟨b,i*k,none⟩) (n+1-i) sc]).run P w.drew=.ok (goInt (n-i)) W1)->
    (∀ty dc,(Builtin.copy_ #[T,T] ty #[.slice (some ⟨b,i*k,none⟩) (n+1-i) dc,.slice (some ⟨vb,0,none⟩) 1 vc]).run P W1=.ok (goInt 1) W2)->
    Calls P f #[.slice (some ⟨b,0,none⟩) n c,.int .i64 i,.slice (some ⟨vb,0,none⟩) 1 vc] w λe w'=>e=.returned (.slice (some ⟨b,0,none⟩) (n+1) c)/\w'=W2
  C :∀(p:Option Addr),(p=none\/∃b,p=some ⟨b,0,none⟩)->∀(n c vb vc:Nat) (r:Value) (w WA:World),
    (∀ty,(Builtin.append_ #[T,T] ty #[.slice p n c,.slice (some ⟨vb,0,none⟩) 1 vc]).run P w=.ok r WA)->
    Calls P f #[.slice p n c,.int .i64 n,.slice (some ⟨vb,0,none⟩) 1 vc] w λe w'=>e=.returned r/\w'=WA
  O :∀(w:World) (a b la ca lb cb o:Nat) (c1 c2:Array Value) (E1 E2:TypeId),a≠b->w.heap[a]? =some (.cells c1 E1 (0,0))->w.heap[b]? =some (.cells c2 E2 (0,0))->c2.size≠0->
    (callFunc ov #[.slice (some ⟨a,0,none⟩) la ca,.slice (some ⟨b,o,none⟩) lb cb]).run P w=.ok (.value<|.bool false) w
theorem ZPp {α:Type}{R:Rep α}{P:Program}{f ov T k e bytes:Nat}{z:Value}(W:InsW P f ov T k)(hT:P.underlying T=some (.slice e))(h3:P.underlying 3=some (.int .i64))(he:eInfo P e=some (z,k,bytes))(hz:∀w,(Go.sizeOf e).run P w=.ok k w)(hzo:YS z.cells.toList)(hbb:Nat.ble bytes 128=true)
    {HF H:Heaplet}{B B2:Nat}{v u:Value}{l:List α}{x:α}{i:Nat}{K K2:Own}(hr:RowOf HF R B e k v l K)(hx:RowOf HF R B2 e k u [x] K2)(hi:i<=l.length)(hl:l.length+1<=LIM):
    Does P f #[v,.int .i64 i,u] [K,K2] H (λr K' H'=>∃K1,K'= [K1]/\H'=H/\RowOf HF R 0 e k r (l.take i++x::l.drop i) K1):=by
  obtain⟨cells,J,hf,hone⟩:=hr;obtain⟨us,hrow2,hf2,y⟩:=hx;intro w ha E;have E:OwnOk H (K++K2) w:=by simpa using E
  have hKok:OwnOk H K w:=E.left;obtain⟨k0,k1⟩:=hrow2;rcases k1 with⟨-,q,-⟩|⟨D,m,s,rfl,rfl,b3,b4,b5,b6,b7⟩
  . cases q
  have U:us.length=k:=by rw[k0];simp
  have hub:w.heap[D]? =some (.cells s e (0,0)):=E.here (D,.cells s e (0,0)) (by simp);have huc:∀X:World,X.heap[D]? =some (.cells s e (0,0))->∀j v,us[j]? =some v->X.cell? ((⟨D,0,none⟩:Addr).add j)=some v:=λX h j v M=>by
    rw[add_lit,Te,cell_of_row X D j s e (0,0) h];rw[<-b7,TX]at M;split at M
    . simpa using M
    . cases M
  have Y:Flat HF R k (cells.take (i*k)++us++cells.drop (i*k)) (l.take i++x::l.drop i):=by
    have:=Flat.append (Flat.append (PN i hf).2 hf2) (PN i hf).1;rw[TE];exact this
  have Z:YS (cells.take (i*k)++us++cells.drop (i*k)):=λu hu=>by
    rcases TR.1 hu with hu|hu
    . rcases TR.1 hu with hu|hu
      . exact hone u<|SX hu
      . exact y u hu
    . exact hone u<|RD hu
  have hsrc:Src P k T (.slice (some ⟨D,0,none⟩) 1 m) 1 us w:=Src.ofSlice w hT ⟨D,0,none⟩ _ m us k0 (huc w hub) y;rcases SZ i l.length with hlt|N
  . obtain ⟨n,hn⟩:∃n,n=l.length:=⟨_,rfl⟩;have t:(l.take i++x::l.drop i).length=n+1:=(by simp;omega);rw[<-hn]at hlt hl J;obtain⟨h0,h1⟩:=J;rcases h1 with⟨-,q,-⟩|⟨g,cap,cur,rfl,rfl,e3,e4,e5,e6,e7⟩
    . omega
    have hg:w.heap[g]? =some (.cells cur e (0,0)):=E.here (g,.cells cur e (0,0)) (by simp);have hne:D≠g:=λh=>by
      have:=E.nodup;simp[ids,h]at this
    have hap:∀o,H g o=none:=λo=>E.apart (g,.cells cur e (0,0)) (by simp) o;have L:(cells.drop (i*k)).length=(n-i)*k:=(by rw[Td,h0,Nat.sub_mul]);have hmc:∀X:World,X.heap[g]? =some (.cells cur e (0,0))->∀j v,(cells.drop (i*k))[j]? =some v->X.cell? ((⟨g,i*k,none⟩:Addr).add j)=some v:=λX h j v M=>by
      rw[add_lit,cell_of_row X g (i*k+j) cur e (0,0) h];rw[<-e7,SF,TX]at M;split at M
      . simpa using M
      . cases M
    have hmo:∀v∈cells.drop (i*k),v.oneCell'=true:=λv hv=>hone v<|RD hv;have hk1:(i+1)*k+(n-i)*k=(n+1)*k:=(by rw[<-TU];congr 1;omega);have hk2:(n+1)*k<=cap*k\/cap=n:=by
      rcases SZ n cap with h|h
      . exact .inl<|TN _ h
      . exact .inr<|by omega
    have hmin1:Nat.min (n+1-i) (n-i)=n-i:=Re (by omega);have I:Nat.min 1 (n+1-i)=1:=Tr (by omega);have hmin3:Nat.min (n-i) (n-i)=n-i:=Nat.min_self _;have hki:i*k+k=(i+1)*k:=(Nat.succ_mul _ _).symm;by_cases Q:n+1<=cap
    . have hkp:0<k:=(by obtain⟨_,_,_,_,_,_,h2⟩:=Zn he;exact h2);have hsz:(n+1)*k<=cur.size:=TS (TN _ Q) e6;have hik:(i+1)*k<=(n+1)*k:=TN _ (by omega);have hcs:cur.size≠0:=(by have h5:=TN k (show 1<=n+1 by omega);omega);obtain⟨F,hC1⟩:∃F,F=cur.toList.take ((i+1)*k)++cells.drop (i*k)++cur.toList.drop ((i+1)*k+(cells.drop (i*k)).length):=⟨_,rfl⟩;obtain⟨V,hC2⟩:∃V,V=F.take (i*k)++us++F.drop (i*k+us.length):=⟨_,rfl⟩;obtain⟨l1,l2,l3⟩:=ZOX hlt h0 e7 U (by simpa using hsz) hC1 hC2;have c1:=λty dc sc=>ZAT (P:=P) (w:=w.drew) hT hz (g:=g) hg (o:=(i+1)*k) (n:=n-i) (c:=dc) (sa:=⟨g,i*k,none⟩) (sl:=n+1-i) (sc:=sc) (cs:=cells.drop (i*k)) (by rw[hmin1,L]) (hmc w.drew hg) (by rw[L,hk1];exact hsz) hmo ty;rw[<-hC1,hmin1]at c1;have hg1:(w.drew.setRow g F.toArray).heap[g]? =some (.cells F.toArray e (0,0)):=by
        have:=(Mem.setRow (w:=w.drew) (H:=H) ha hg hap F.toArray).ok.here (g,.cells F.toArray e (0,0)) (by simp);exact this
      have hb1:(w.drew.setRow g F.toArray).heap[D]? =some (.cells s e (0,0)):=by
        rw[show(w.drew.setRow g F.toArray).heap[D]? =w.drew.heap[D]? from by simp only[World.setRow,S9];rw[TK λe=>hne e.symm]];exact hub
      have c2:=λty dc=>ZAT (P:=P) (w:=w.drew.setRow g F.toArray) hT hz (g:=g) hg1 (o:=i*k) (n:=n+1-i) (c:=dc) (sa:=⟨D,0,none⟩) (sl:=1) (sc:=m) (cs:=us) (by rw[I,Nat.one_mul,U]) (huc _ hb1) (by rw[U,hki,Tm,l1];simpa using TS hik hsz) y ty;rw[I]at c2;simp only[Tf]at c2;rw[<-hC2]at c2;refine CallsIn.mono (callsIn_wide.2 (W.B g cap D m n i w _ _ hlt Q (by unfold maxLen at e5;omega) (λlb cb=>W.O w D g 1 m lb cb _ _ _ _ _ hne hub hg hcs)
        (λty dc sc=>by rw[c1];congr 2;omega) λty dc=>c2 ty dc)) ?_
      rintro e' w2 ⟨rfl,rfl⟩;have m1:=((Mem.same ha E).drew.go (Sk _) (K':=[(g,.cells F.toArray e (0,0))]) (by simpa[ids]using Mem.setRow (w:=w.drew) (H:=H) ha hg hap F.toArray));have m2:=m1.go (Sk _) (K':=[(g,.cells V.toArray e (0,0))]) (by simpa[ids]using Mem.setRow (H:=H) m1.agr hg1 hap V.toArray);refine⟨_,[[(g,.cells V.toArray e (0,0))]],H,rfl,⟨_,rfl,rfl,cells.take (i*k)++us++cells.drop (i*k),⟨?_,.inr ⟨g,cap,V.toArray,by rw[t],rfl,TQ _,by rw[t];exact Q,e5,?_,?_⟩⟩,Y,Z⟩,by simpa using m2.sub (Sv _ _)⟩
      . rw[t,<-l3,TH,l2,TM];exact Tr hsz
      . rw[Tm,l2];simpa using e6
      . rw[t];exact l3
    . obtain rfl:cap=n:=(by omega);obtain⟨inf,hi1,hi2,hi3,hi4,hi5,hkp⟩:=Zn he;have hiN:i+(cap+1-i)=cap+1:=(by omega);have hlb:=XY hl hbb;have hpre:(cells.take (i*k)).length=i*k:=(by rw[TH,h0];exact Tr<|TN _<|by omega);have hold:(Builtin.firstCells inf.size i<|.slice (some ⟨g,0,none⟩) i cap).run P w.drew=.ok (cells.take (i*k)).toArray w.drew:=by
        rw[hi3];exact run_firstCells_some (P:=P) w.drew k i ⟨g,0,none⟩ i cap _ hpre (λj v M=>by
          rw[add_lit,Te,cell_of_row w.drew g j cur e (0,0) hg];rw[<-e7,TX,TX]at M;split at M
          . split at M
            . simpa using M
            . cases M
          . cases M)
      have hrz:=λty=>Lib.run_append_grow_zeros (P:=P) w T 3 ty e inf z .i64 .i64 hT h3 hi1 hi2 (some ⟨g,0,none⟩) i cap _ hold (cap+1-i) (by omega) (by rw[hi3];exact hkp) (by omega) (by unfold LIM at hl;omega) (by rw[hi4];exact TS (TS (TN _<|by omega) hlb)<|by decide) (growslice_fits (by omega) (by rw[hiN,hi4];exact hlb));have N:=grownCap_ge w (i+(cap+1-i)) cap e;have hcm:grownCap w (i+(cap+1-i)) cap e<=maxLen:=grownCap_le_maxLen w _ cap e (by rw[hiN];exact QO hl);generalize hG:grownCap w (i+(cap+1-i)) cap e=G at hrz N hcm;rw[hiN]at hrz N;obtain⟨C,hC⟩:∃C,C=((cells.take (i*k)).toArray++Builtin.zeroCells z.cells (cap+1-i)++Builtin.zeroCells z.cells (G-(cap+1))):=⟨_,rfl⟩;rw[<-hC]at hrz;have hCl:C.size=G*k:=by
        rw[hC];simp only[RX,Tm,size_zeroCells,hi5,hpre];rw[<-TU,<-TU];congr 1;omega
      have hGk:(cap+1)*k<=G*k:=TN _ N;have hCt:C.toList.take (i*k)=cells.take (i*k):=by
        rw[hC];simp only[S4,TE,Tf];exact ZPG hpre
      obtain⟨F,hC1⟩:∃F,F=C.toList.take (i*k)++us++C.toList.drop (i*k+us.length):=⟨_,rfl⟩;obtain⟨V,hC2⟩:∃V,V=F.take (i*k+k)++cells.drop (i*k)++F.drop (i*k+k+(cells.drop (i*k)).length):=⟨_,rfl⟩;have S:i*k+k+(cells.drop (i*k)).length=(cap+1)*k:=(by rw[L,hki,hk1]);obtain⟨l1,l2,l3⟩:=ZMv hCt U (by rw[S,TM,hCl];exact hGk) hC1 hC2;have hgl:g<w.heap.size:=(TV.1 hg).1;have hbl:D<w.heap.size:=(TV.1 hub).1;have mA:=(Mem.same ha E).drew.go (K:=[]) (rst:=[(g,.cells cur e (0,0))]++ [(D,.cells s e (0,0))]) (by simp) (K':=[(w.heap.size,.cells C e (0,0))]) (by simpa[ids]using Mem.alloc (w:=w.drew) (H:=H) ha (.cells C e (0,0)));have hNg:w.heap.size≠g:=(by omega);have hNb:w.heap.size≠D:=(by omega);have hWA:(w.drew.alloc<|.cells C e (0,0)).heap[w.heap.size]? =some (.cells C e (0,0)):=mA.ok.here (w.heap.size,.cells C e (0,0)) (by simp);have hbA:(w.drew.alloc<|.cells C e (0,0)).heap[D]? =some (.cells s e (0,0)):=mA.ok.here (D,.cells s e (0,0)) (by simp);have hgA:(w.drew.alloc<|.cells C e (0,0)).heap[g]? =some (.cells cur e (0,0)):=mA.ok.here (g,.cells cur e (0,0)) (by simp);have hapN:∀o,H w.heap.size o=none:=λo=>mA.ok.apart (w.heap.size,.cells C e (0,0)) (by simp) o;have c1:=λty dc=>ZAT (P:=P) hT hz (g:=w.heap.size) hWA (o:=i*k) (n:=cap+1-i) (c:=dc) (sa:=⟨D,0,none⟩) (sl:=1) (sc:=m) (cs:=us) (by rw[I,Nat.one_mul,U]) (huc _ hbA) (by rw[U,hCl];omega) y ty;rw[I,<-hC1]at c1;have mB:=mA.go (Sk _) (K':=[(w.heap.size,.cells F.toArray e (0,0))]) (by simpa[ids]using Mem.setRow (H:=H) mA.agr hWA hapN F.toArray);have mB:=mB.drew;have hWB:=mB.ok.here (w.heap.size,.cells F.toArray e (0,0)) (by simp);have hgB:=mB.ok.here (g,.cells cur e (0,0)) (by simp);have c2:=λty dc sc=>ZAT (P:=P) hT hz (g:=w.heap.size) hWB (o:=(i+1)*k) (n:=cap-i) (c:=dc) (sa:=⟨g,i*k,none⟩) (sl:=cap-i) (sc:=sc) (cs:=cells.drop (i*k)) (by rw[hmin3,L]) (hmc _ hgB) (by rw[L,hk1,Tm,l1,TM,hCl];exact hGk) hmo ty;simp only[Tf]at c2;rw[hmin3,<-hki,<-hC2]at c2;have mC:=mB.go (Sk _) (K':=[(w.heap.size,.cells V.toArray e (0,0))]) (by simpa[ids]using Mem.setRow (H:=H) mB.agr hWB hapN V.toArray);refine CallsIn.mono (callsIn_wide.2<|W.A g cap D m cap i w.heap.size G w _ _ _ hlt rfl N (by unfold LIM at hl;omega) (λty=>by have:=hrz ty;rwa[show((cap+1-i:Nat):Int)=(cap:Int)+1-i by omega]at this) (λty dc=>c1 ty dc) λty dc sc=>by rw[<-hki,c2];congr 2;omega) ?_;rintro e' w2 ⟨rfl,rfl⟩;refine⟨_,[[(w.heap.size,.cells V.toArray e (0,0))]],H,rfl,⟨_,rfl,rfl,cells.take (i*k)++us++cells.drop (i*k),⟨?_,.inr ⟨w.heap.size,G,V.toArray,by rw[t],rfl,TQ _,by rw[t];exact N,hcm,?_,?_⟩⟩,Y,Z⟩,by simpa using mC.sub (Sv _ _)⟩
      . rw[t,<-S,<-l3,TH,l2,S,TM,hCl];exact Tr hGk
      . rw[Tm,l2,TM,hCl];exact TF _
      . rw[t,<-S];exact l3
  . obtain rfl:i=l.length:=Nat.le_antisymm hi N;have hrow0:Row 0 e k v cells l.length K:=⟨J.1,J.2.imp id fun⟨g,cap,cur,a,b,c,d⟩=>⟨g,cap,cur,a,b,TQ _,d⟩⟩;obtain⟨v',K',X,hrun,hrow',hm⟩:=ZCg (ty:=0) hT he ha hKok hrow0 hsrc (QO hl) (XY hl hbb) (TQ _);obtain⟨p,c,rfl,hp⟩:∃p c,v=.slice p l.length c/\(p=none\/∃b,p=some ⟨b,0,none⟩):=by
      rcases J.2 with⟨rfl,q,-⟩|⟨g,cap,cur,rfl,-⟩
      . exact⟨none,0,by rw[q],.inl rfl⟩
      . exact⟨_,cap,rfl,.inr ⟨g,rfl⟩⟩
    refine CallsIn.mono (callsIn_wide.2<|W.C p hp l.length c D m v' w X λty=>hrun) ?_;rintro e' w2 ⟨rfl,rfl⟩;have hm2:=((Mem.same ha E).go (Sk _) hm).sub<|Sv _ _;refine⟨v',[K'],H,rfl,⟨K',rfl,rfl,cells++us,?_,?_,?_⟩,by simpa using hm2⟩
    . have:(l.take l.length++x::l.drop l.length).length=l.length+1:=(by simp);rw[this];exact hrow'
    . rw[RN,List.drop_length];exact Flat.append hf2 hf
    . exact λu hu=>(TR.1 hu).elim (hone u) (y u)
end Go.Ow
