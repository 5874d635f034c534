import Derived.Test.YtgdchaoklfjcpaaGreatDoorProg
import Derived.KernelRfl
import Derived.Lib.QuoteBits
import Derived.Shelf.RegionOpenPlain
import Derived.WalkKit
import Derived.Lib.Walk
import Derived.Lib.SliceRun
import Derived.Lib.AppendZeros
import Derived.Lib.Overlaps
import Derived.Laws.Externs
import Derived.Laws.IdiomCopy
import Derived.Test.YtgdchaoklfjcpaaGreatDoorOwIn
set_option linter.unusedSimpArgs false
set_option linter.unusedVariables false
namespace Go.Proofs.YtgdchaoklfjcpaaGreatDoor
open Go Go.Shelf Go.RowKit Go.Lib Go.Proofs
theorem ZJS{P:Program}(w:World){o:Oper}{a:Act}{K:Act->World->Prop}{Q:Exit->Act->World->Prop}(d s:Operand)(t b:TypeId)
    (e:o.op=.call {callee:=.builtin .copy,args:=#[d,s],argTypes:=#[t,b]})(v u:Value)(f:a.eval d=v)(hs:a.eval s=u){v':Value}{c:World}
    (g:(Builtin.copy_ #[t,b] o.type #[v,u]).run P w=.ok v' c)(h:K (a.put o.dst v') c):o.wp P a w K Q:=by
  unfold Oper.wp execOp;simp only[e,resolve,invoke,builtin,Sem.run_bind,Sem.run_pure,Result.andThen_ok,List.map_toArray,Tp,List.map_nil,f,hs,g];exact h
theorem J4{P:Program}(w:World){ops:Array Oper}{r:List Oper}{o:Oper}{a:Act}{Q:Exit->Act->World->Prop}(b:o.guard=none)(d s:Operand)(t c:TypeId)
    (f:o.op=.call {callee:=.builtin .copy,args:=#[d,s],argTypes:=#[t,c]})(v u:Value)(g:a.eval d=v)(hs:a.eval s=u){v':Value}{e:World}
    (i:(Builtin.copy_ #[t,c] o.type #[v,u]).run P w=.ok v' e)(h:wpList P ops Q r (a.put o.dst v') e):wpList P ops Q (o::r) a w:=
  wpList_plain b λ_ j=>ZJS w d s t c f v u g hs i (j _ _ h)
theorem DH{P:Program}{ops:Array Oper}{o:Oper}{a:Act}{w:World}{K:Act->World->Prop}{Q:Exit->Act->World->Prop}{E:Prop}
    (e:o.guard=none)(d x:Operand)(b s:TypeId)(h:o.op=Op.call {callee:=Callee.builtin Builtin.copy,args:=#[d,x],argTypes:=#[b,s]})
    (v u:Value)(f:a.eval d=v)(g:a.eval x=u){v':Value}{c:World}(i:(Builtin.copy_ #[b,s] o.type #[v,u]).run P w=.ok v' c)(j:K (a.put o.dst v') c):
    if Region.wanted o (yielded ops a.tmps)=true then Oper.wp P o a w K Q else E:=by
  have k:Region.wanted o (yielded ops a.tmps)=true:=by simp[Region.wanted,e]
  rw[TJ k];unfold Oper.wp;simp[execOp,h,resolve,invoke,builtin,f,g,i,Result.andThen];exact j
set_option maxHeartbeats 4000000 in
set_option maxRecDepth 100000 in
theorem insB{P:Program}(m:P.funcs[115]? =some Tryz.f115)(t:P.underlying 35=some (.slice 83))(z:∀w,(Go.sizeOf 83).run P w=.ok 12 w)
    (o:P.underlying 3=some (.int .i64))(p:P.underlying 4=some .bool)(mixed:P.follows .mixedOrders=true)(b off c d v vc n i:Nat)(w W j:World)(hi:i<n)(f:n+1<=c)(k:c<=9223372036854775807)
    (g:∀q r,(callFunc 173 #[.slice (some ⟨d,v,none⟩) 1 vc,.slice (some ⟨b,off+(i+1)*12,none⟩) q r]).run P w=.ok (.value (.bool false)) w)
    (h:∀ty dc sc,(Builtin.copy_ #[35,35] ty #[.slice (some ⟨b,off+(i+1)*12,none⟩) (n-i) dc,.slice (some ⟨b,off+i*12,none⟩) (n+1-i) sc]).run P w.drew=.ok (goInt (n-i)) W)
    (a:∀ty dc,(Builtin.copy_ #[35,35] ty #[.slice (some ⟨b,off+i*12,none⟩) (n+1-i) dc,.slice (some ⟨d,v,none⟩) 1 vc]).run P W=.ok (goInt 1) j):
    Calls P 115 #[.slice (some ⟨b,off,none⟩) n c,.int .i64 i,.slice (some ⟨d,v,none⟩) 1 vc] w λe s=>
      e=.returned (.slice (some ⟨b,off,none⟩) (n+1) c)/\s=j:=by
  have u:=run_underlying t;have G:=run_underlying o;have H:=run_underlying p;have hn:Tryz.f115.ntmps=95:=by kernel_rfl
  have x:IntKind.i64.wrap ((n:Int)+1)=(n:Int)+1:=by rw[show(n:Int)+1=((n+1:Nat):Int) by omega];exact Go.Lib.wrap_i64_small _ (by omega)
  have y:IntKind.i64.wrap ((i:Int)+1)=(i:Int)+1:=by rw[show(i:Int)+1=((i+1:Nat):Int) by omega];exact Go.Lib.wrap_i64_small _ (by omega)
  have A:0<=(i:Int)+1/\i<=n:=⟨by omega,by omega⟩;have B:0<=(i:Int)+1:=by omega
  have C:i<=n:=by omega
  have D:i<=n+1:=by omega
  have E:(i:Int)<=(n:Int)+1:=by omega
  have F:¬(c=i+1):=by omega
  have l:¬(c=i):=by omega
  go_enter m,hn
  go_wp2_with (simp only[g])
  go_region_law_o (refine DH rfl _ _ 35 35 rfl _ _ (by simp[Act.eval,Act.put]) (by simp[Act.eval,Act.put]) (h _ _ _) ?_)
  go_wp2_with (at_builtin;refine J4 _ rfl _ _ 35 35 rfl _ _ rfl rfl (a _ _) ?_)
  go_ret
  exact⟨rfl,rfl⟩
set_option maxHeartbeats 4000000 in
set_option maxRecDepth 100000 in
theorem insA{P:Program}(l:P.funcs[115]? =some Tryz.f115)(t:P.underlying 35=some (.slice 83))(z:∀w,(Go.sizeOf 83).run P w=.ok 12 w)
    (m:P.underlying 3=some (.int .i64))(o:P.underlying 4=some .bool)(mixed:P.follows .mixedOrders=true)(b off c f v vc n i N G:Nat)(w W g j:World)(hi:i<n)(p:c=n)(J:n+1<=G)(k:c<9223372036854775807)
    (d:∀ty,(Builtin.append_ #[35,3] ty #[.slice (some ⟨b,off,none⟩) i c,.int .i64 ((n:Int)+1-i)]).run P w=.ok (.slice (some ⟨N,0,none⟩) (n+1) G) W)
    (h:∀ty dc,(Builtin.copy_ #[35,35] ty #[.slice (some ⟨N,i*12,none⟩) (n+1-i) dc,.slice (some ⟨f,v,none⟩) 1 vc]).run P W=.ok (goInt 1) g)
    (a:∀ty dc sc,(Builtin.copy_ #[35,35] ty #[.slice (some ⟨N,(i+1)*12,none⟩) (n-i) dc,.slice (some ⟨b,off+i*12,none⟩) (n-i) sc]).run P g.drew=.ok (goInt (n-i)) j):
    Calls P 115 #[.slice (some ⟨b,off,none⟩) n c,.int .i64 i,.slice (some ⟨f,v,none⟩) 1 vc] w λe q=>
      e=.returned (.slice (some ⟨N,0,none⟩) (n+1) G)/\q=j:=by
  have u:=run_underlying t;have K:=run_underlying m;have L:=run_underlying o;have hn:Tryz.f115.ntmps=95:=by kernel_rfl
  have r:IntKind.i64.wrap ((n:Int)+1)=(n:Int)+1:=by rw[show(n:Int)+1=((n+1:Nat):Int) by omega];exact Go.Lib.wrap_i64_small _ (by omega)
  have s:IntKind.i64.wrap ((i:Int)+1)=(i:Int)+1:=by rw[show(i:Int)+1=((i+1:Nat):Int) by omega];exact Go.Lib.wrap_i64_small _ (by omega)
  have x:IntKind.i64.wrap ((n:Int)+1-i)=(n:Int)+1-i:=by rw[show(n:Int)+1-i=((n+1-i:Nat):Int) by omega];exact Go.Lib.wrap_i64_small _ (by omega)
  have y:0<=(i:Int)+1/\i<=n:=⟨by omega,by omega⟩;have A:0<=(i:Int)+1:=by omega
  have B:i<=n:=by omega
  have C:i<=n+1:=by omega
  have D:(i:Int)<=(n:Int)+1:=by omega
  have E:¬(c=i+1/\i+1<n):=by omega
  have F:¬(G=i):=by omega
  have H:¬(G=i+1):=by omega
  subst p;have I:¬(c=i):=by omega
  go_enter l,hn
  go_wp2_with (first
    |(at_builtin;refine Lib.wpList_append_run _ rfl _ _ _ _ rfl _ _ rfl rfl _ _ (d _) ?_)
    |(at_builtin;refine J4 _ rfl _ _ 35 35 rfl _ _ rfl rfl (h _ _) ?_))
  go_region_law_o (refine DH rfl _ _ 35 35 rfl _ _ (by simp[Act.eval,Act.put]) (by simp[Act.eval,Act.put]) (a _ _ _) ?_)
  go_wp2
  go_ret
  exact⟨rfl,rfl⟩
set_option maxHeartbeats 4000000 in
set_option maxRecDepth 100000 in
theorem insC{P:Program}(a:P.funcs[115]? =some Tryz.f115)(t:P.underlying 35=some (.slice 83))(z:∀w,(Go.sizeOf 83).run P w=.ok 12 w)
    (f:P.underlying 3=some (.int .i64))(g:P.underlying 4=some .bool)(mixed:P.follows .mixedOrders=true)(p:Option Addr)(i:p=none\/∃b,p=some ⟨b,0,none⟩)(n c d v vc:Nat)(r:Value)(w W:World)
    (h:∀ty,(Builtin.append_ #[35,35] ty #[.slice p n c,.slice (some ⟨d,v,none⟩) 1 vc]).run P w=.ok r W):
    Calls P 115 #[.slice p n c,.int .i64 n,.slice (some ⟨d,v,none⟩) 1 vc] w λe j=>
      e=.returned r/\j=W:=by
  have u:=run_underlying t;have m:=run_underlying f;have o:=run_underlying g;have hn:Tryz.f115.ntmps=95:=by kernel_rfl
  have k:IntKind.i64.wrap 1=1:=by decide
  have q:(0:Int)<=(n:Int):=by omega
  rcases i with rfl|⟨b,rfl⟩
  . go_enter a,hn
    go_wp2_with (at_builtin;refine Lib.wpList_append_run _ rfl _ _ _ _ rfl _ _ rfl rfl _ _ (h _) ?_)
    go_ret
    exact⟨rfl,rfl⟩
  . by_cases l:c=n
    . go_enter a,hn
      go_wp2_with (at_builtin;refine Lib.wpList_append_run _ rfl _ _ _ _ rfl _ _ rfl rfl _ _ (h _) ?_)
      go_ret
      exact⟨rfl,rfl⟩
    . go_enter a,hn
      go_wp2_with (at_builtin;refine Lib.wpList_append_run _ rfl _ _ _ _ rfl _ _ rfl rfl _ _ (h _) ?_)
      go_ret
      exact⟨rfl,rfl⟩
theorem insW:Go.Ow.InsW Tryz.prog 115 173 35 12:=by
  have t:Tryz.prog.underlying 35=some (.slice 83):=by kernel_rfl
  have d:Tryz.prog.underlying 3=some (.int .i64):=by kernel_rfl
  have f:Tryz.prog.underlying 4=some .bool:=by kernel_rfl
  have z:∀w,(Go.sizeOf 83).run Tryz.prog w=.ok 12 w:=λw=>Go.Ow.run_sizeOf (g:=true) (by kernel_rfl) w;have mixed:Tryz.prog.follows .mixedOrders=true:=by kernel_rfl
  refine⟨?_,?_,?_,?_⟩
  . intro b c v vc n i N G w W u x h1 h2 h3 h j k y;exact insA Tryz.func115 t z d f mixed b 0 c v 0 vc n i N G w W u x h1 h2 h3 h j k (λty dc sc=>by rw[Te];exact y ty dc sc)
  . intro b c v vc n i w A B h1 h2 h3 h j k;exact insB Tryz.func115 t z d f mixed b 0 c v 0 vc n i w A B h1 h2 h3 (λl m=>by rw[Te];exact h l m) (λty dc sc=>by rw[Te,Te];exact j ty dc sc) (λty dc=>by rw[Te];exact k ty dc)
  . intro p C n c v vc r w W h1;exact insC Tryz.func115 t z d f mixed p C n c v 0 vc r w W h1
  . intro w a b D E l m o F H I J q s hb hs;rw[run_callFunc_extern Tryz.func173 (by kernel_rfl) (by kernel_rfl) (by kernel_rfl) (e:=Extern.SlicesOverlaps.overlaps #[35,35] #[4]) (by kernel_rfl)];rw[Go.Lib.run_overlaps_apart w 35 4 83 t 12 z ⟨a,0,none⟩ ⟨b,o,none⟩ D E l m q I J F.size H.size (by simp[World.shape?,s]) (by simp[World.shape?,hb]) hs (by simp[World.frozen?,s]) (by simp[World.frozen?,s])];rfl
end Go.Proofs.YtgdchaoklfjcpaaGreatDoor
