import Derived.Test.YtgdchaoklfjcpaaGreatDoorOwMf
/- that new memory's bytes do not matter to bytes.Repeat. -/
set_option linter.unusedSimpArgs false
set_option linter.unusedVariables false
namespace Go.Ow
theorem ZCq{α:Type}{l m:List α}{a:Nat}(h:a<=l.length):(cpy l a m).take (a+m.length)=l.take a++m:=by
  unfold cpy;rw[List.take_left' (by rw[TG,TH];omega)]
theorem ZGD{α:Type}{l m:List α}{a:Nat}(h:a+m.length<=l.length):(cpy l a m).length=l.length:=by
  unfold cpy;rw[TG,TG,TH,Td];omega
theorem ZSo{a b:Type}{body:a->Option (a ⊕ b)}{n:Nat}{s s':a}(h:body s=some (.inl s')):run body (n+1) s=run body n s':=by
  show Option.bind (body s) _=_;rw[h];rfl
theorem ZPP{x:UInt64×UInt64}{t:Int}{n:Nat}(hn:n<=LIM)(z:w64 (x.2.toNat:Int)=(n:Int))(f:Nat):∀(A B:List UInt8) (k:Int) (r:List UInt8),
    A.length=n->B.length=n->0<=k->k<=(n:Int)->A.take k.toNat=B.take k.toNat->run (og_bytes_Repeat_l1 x t) f (A,k)=some r->run (og_bytes_Repeat_l1 x t) f (B,k)=some r:=by
  induction f with
  |zero=>intro A B k r _ _ _ _ _ h;cases h
  | succ f E=>
    intro A B k r q s h0 H l h;obtain⟨o,a,C⟩:=ZCw h;rw[og_bytes_Repeat_l1.eq_1]at a;dsimp only at a;rw[z]at a;by_cases u:k<(n:Int)
    . rw[Rk u,RG]at a;obtain⟨h1,a⟩:=ZI a;obtain⟨h2,a⟩:=ZI a;obtain⟨F,c,h3,a⟩:=KV a;have i:cut A (0:Int) (min k t)=A.take (min k t).toNat:=(by simp[cut]);have v:cut B (0:Int) (min k t)=B.take (min k t).toNat:=(by simp[cut]);have w:B.take (min k t).toNat=A.take (min k t).toNat:=by
        have e1:(A.take k.toNat).take (min k t).toNat=(B.take k.toNat).take (min k t).toNat:=(by rw[l]);rw[SU,SU,Tr<|by omega]at e1;exact e1.symm
      have d:(A.take (min k t).toNat).length=(min k t).toNat:=(by rw[TH];omega);rw[i,d]at a;rw[i]at c;obtain⟨m,y⟩:∃m,m=(A.take (min k t).toNat).take ((A.length:Int).toNat-k.toNat):=⟨_,rfl⟩;rw[<-y]at c;have b:(m.length:Int)=min ((min k t).toNat:Int) ((A.length:Int)-k):=(by rw[y,TH,d];omega);rw[<-b]at a;have D:w64 (k+(m.length:Int))=k+(m.length:Int):=Jg (by omega) (by have:LIM=1099511627776:=rfl;omega);rw[D]at a;have j:=Zk C a;obtain⟨p,e⟩:∃p,p=cpy B k.toNat m:=⟨_,rfl⟩;have g:og_bytes_Repeat_l1 x t (B,k)=some (.inl (p,k+(m.length:Int))):=by
        rw[og_bytes_Repeat_l1.eq_1];dsimp only;rw[z,Rk u,RG,v,w,d];unfold chk cpyO;rw[TJ (by omega),TJ (by omega),TJ<|by omega];rw[show(A.take (min k t).toNat).take ((B.length:Int).toNat-k.toNat)=m by rw[y,q,s],<-e,s,<-q,<-b,D]
      rw[ZSo g];have G:k.toNat+m.length<=n:=(by omega);refine E F p _ r (by rw[c,ZGD (by omega),q]) (by rw[e,ZGD (by omega),s]) (by omega) (by omega) ?_ j;rw[show(k+(m.length:Int)).toNat=k.toNat+m.length by omega,c,e,ZCq (by omega),ZCq (by omega),l]
    . rw[decide_eq_false u,cond_false]at a;have I:=Zo C a;have:A=B:=by
        rw[TZ (by omega),TZ<|by omega]at l;exact l
      rw[<-this];exact h
theorem ZEa{x:UInt64×UInt64}{d:Int}{p:List UInt8}{r:List UInt8}{e o:List UInt8}{n:Nat}
    (w:e=List.replicate (w64 (x.2.toNat:Int)).toNat (0:UInt8))(j:w64 (x.2.toNat:Int)=(n:Int))(u:o.length=n)
    (g:(slc e 0 (w64 (x.2.toNat:Int)) λb=>cpyO b 0 (b.length:Int) p λf=>Option.bind (loop (og_bytes_Repeat_l1 x d) (f,min (p.length:Int)<|(b.length:Int)-0)) λc=>some c)=some r)(q:n<=LIM):
    (slc o 0 (w64 (x.2.toNat:Int)) λb=>cpyO b 0 (b.length:Int) p λf=>Option.bind (loop (og_bytes_Repeat_l1 x d) (f,min (p.length:Int)<|(b.length:Int)-0)) λc=>some c)=some r:=by
  have k:e.length=n:=by rw[w,j,SG];omega
  have i:∀l:List UInt8,l.length=n->cut l 0 (n:Int)=l:=λl y=>by simp[cut,TZ<|Nat.le_of_eq y]
  rw[j]at g|-;unfold slc at g|-;rw[TJ (by omega),i _ k]at g;rw[TJ (by omega),i _ u];dsimp only at g|-;unfold cpyO at g|-;rw[TJ<|by omega]at g;rw[TJ<|by omega];rw[k]at g;rw[u];obtain⟨m,s⟩:∃m,m=p.take ((n:Int).toNat-(0:Int).toNat):=⟨_,rfl⟩;rw[<-s]at g|-;have v:min (p.length:Int) ((n:Int)-0)=(m.length:Int):=by rw[s,TH];omega
  rw[v]at g|-;obtain⟨t,ht,h⟩:=T5.1 g;have z:m.length<=n:=by omega
  have:=ZPP q j FUEL (cpy e (0:Int).toNat m) (cpy o (0:Int).toNat m) (m.length:Int) t
    (by rw[ZGD (by simp only[Rt];omega),k]) (by rw[ZGD (by simp only[Rt];omega),u]) (by omega) (by omega)
    (by
      have e1:=ZCq (l:=e) (m:=m) (a:=(0:Int).toNat) (by simp);have e2:=ZCq (l:=o) (m:=m) (a:=(0:Int).toNat) (by simp);simp only[Rt,Te,List.take_zero,Sy]at e1 e2;rw[T4];simp only[Rt];rw[e1,e2]) ht
  show Option.bind (loop (og_bytes_Repeat_l1 x d) (cpy o (0:Int).toNat m,(m.length:Int))) (λc=>some c)=some r;rw[show loop (og_bytes_Repeat_l1 x d) (cpy o (0:Int).toNat m,(m.length:Int))=some t from this];exact h
end Go.Ow
