import Derived.Test.YtooeopogefefiaaGreatDoorProg
import Derived.KernelRfl
import Derived.Lib.QuoteBits
import Derived.Shelf.RegionOpenPlain
import Derived.WalkKit
import Derived.Lib.Walk
import Derived.Lib.SliceRun
import Derived.Lib.AppendZeros
import Derived.Lib.Overlaps
import Derived.Laws.Externs
import Derived.Laws.IdiomCopy
import Derived.Test.YtooeopogefefiaaGreatDoorOwIn
set_option linter.unusedSimpArgs false
set_option linter.unusedVariables false
namespace Go.Proofs.YtooeopogefefiaaGreatDoor
open Go Go.Shelf Go.RowKit Go.Lib Go.Proofs
theorem ZJs{P:Program}(w:World){o:Oper}{a:Act}{K:Act->World->Prop}{Q:Exit->Act->World->Prop}(d s:Operand)(t b:TypeId)
    (e:o.op=.call {callee:=.builtin .copy,args:=#[d,s],argTypes:=#[t,b]})(v u:Value)(f:a.eval d=v)(hs:a.eval s=u){v':Value}{c:World}
    (g:(Builtin.copy_ #[t,b] o.type #[v,u]).run P w=.ok v' c)(h:K (a.put o.dst v') c):o.wp P a w K Q:=by
  unfold Oper.wp execOp;simp only[e,resolve,invoke,builtin,Sem.run_bind,Sem.run_pure,Result.andThen_ok,List.map_toArray,Tq,List.map_nil,f,hs,g];exact h
theorem Ga{P:Program}(w:World){ops:Array Oper}{r:List Oper}{o:Oper}{a:Act}{Q:Exit->Act->World->Prop}(b:o.guard=none)(d s:Operand)(t c:TypeId)
    (f:o.op=.call {callee:=.builtin .copy,args:=#[d,s],argTypes:=#[t,c]})(v u:Value)(g:a.eval d=v)(hs:a.eval s=u){v':Value}{e:World}
    (i:(Builtin.copy_ #[t,c] o.type #[v,u]).run P w=.ok v' e)(h:wpList P ops Q r (a.put o.dst v') e):wpList P ops Q (o::r) a w:=
  wpList_plain b λ_ j=>ZJs w d s t c f v u g hs i (j _ _ h)
theorem Dp{P:Program}{ops:Array Oper}{o:Oper}{a:Act}{w:World}{K:Act->World->Prop}{Q:Exit->Act->World->Prop}{E:Prop}
    (e:o.guard=none)(d x:Operand)(b s:TypeId)(h:o.op=Op.call {callee:=Callee.builtin Builtin.copy,args:=#[d,x],argTypes:=#[b,s]})
    (v u:Value)(f:a.eval d=v)(g:a.eval x=u){v':Value}{c:World}(i:(Builtin.copy_ #[b,s] o.type #[v,u]).run P w=.ok v' c)(j:K (a.put o.dst v') c):
    if Region.wanted o (yielded ops a.tmps)=true then Oper.wp P o a w K Q else E:=by
  have k:Region.wanted o (yielded ops a.tmps)=true:=by simp[Region.wanted,e]
  rw[TG k];unfold Oper.wp;simp[execOp,h,resolve,invoke,builtin,f,g,i,Result.andThen];exact j
set_option maxHeartbeats 4000000 in
set_option maxRecDepth 100000 in
theorem insB{P:Program}(o:P.funcs[55]? =some Tryz.f55)(t:P.underlying 34=some (.slice 57))(z:∀w,(Go.sizeOf 57).run P w=.ok 12 w)
    (p:P.underlying 3=some (.int .i64))(q:P.underlying 4=some .bool)(mixed:P.follows .mixedOrders=true)(b off c d v f n i:Nat)(w W k:World)(hi:i<n)(g:n+1<=c)(l:c<=9223372036854775807)
    (j:∀r s,(callFunc 115 #[.slice (some ⟨d,v,none⟩) 1 f,.slice (some ⟨b,off+(i+1)*12,none⟩) r s]).run P w=.ok (.value (.bool false)) w)
    (h:∀ty dc sc,(Builtin.copy_ #[34,34] ty #[.slice (some ⟨b,off+(i+1)*12,none⟩) (n-i) dc,.slice (some ⟨b,off+i*12,none⟩) (n+1-i) sc]).run P w.drew=.ok (goInt (n-i)) W)
    (a:∀ty dc,(Builtin.copy_ #[34,34] ty #[.slice (some ⟨b,off+i*12,none⟩) (n+1-i) dc,.slice (some ⟨d,v,none⟩) 1 f]).run P W=.ok (goInt 1) k):
    Calls P 55 #[.slice (some ⟨b,off,none⟩) n c,.int .i64 i,.slice (some ⟨d,v,none⟩) 1 f] w λe u=>
      e=.returned (.slice (some ⟨b,off,none⟩) (n+1) c)/\u=k:=by
  have x:=run_underlying t;have H:=run_underlying p;have I:=run_underlying q;have hn:Tryz.f55.ntmps=95:=by kernel_rfl
  have y:IntKind.i64.wrap ((n:Int)+1)=(n:Int)+1:=by rw[show(n:Int)+1=((n+1:Nat):Int) by omega];exact Go.Lib.wrap_i64_small _ (by omega)
  have A:IntKind.i64.wrap ((i:Int)+1)=(i:Int)+1:=by rw[show(i:Int)+1=((i+1:Nat):Int) by omega];exact Go.Lib.wrap_i64_small _ (by omega)
  have B:0<=(i:Int)+1/\i<=n:=⟨by omega,by omega⟩;have C:0<=(i:Int)+1:=by omega
  have D:i<=n:=by omega
  have E:i<=n+1:=by omega
  have F:(i:Int)<=(n:Int)+1:=by omega
  have G:¬(c=i+1):=by omega
  have m:¬(c=i):=by omega
  go_enter o,hn
  go_wp2_with (simp only[j])
  go_region_law_o (refine Dp rfl _ _ 34 34 rfl _ _ (by simp[Act.eval,Act.put]) (by simp[Act.eval,Act.put]) (h _ _ _) ?_)
  go_wp2_with (at_builtin;refine Ga _ rfl _ _ 34 34 rfl _ _ rfl rfl (a _ _) ?_)
  go_ret
  exact⟨rfl,rfl⟩
set_option maxHeartbeats 4000000 in
set_option maxRecDepth 100000 in
theorem insA{P:Program}(m:P.funcs[55]? =some Tryz.f55)(t:P.underlying 34=some (.slice 57))(z:∀w,(Go.sizeOf 57).run P w=.ok 12 w)
    (o:P.underlying 3=some (.int .i64))(p:P.underlying 4=some .bool)(mixed:P.follows .mixedOrders=true)(b off c f v g n i N G:Nat)(w W j k:World)(hi:i<n)(q:c=n)(K:n+1<=G)(l:c<9223372036854775807)
    (d:∀ty,(Builtin.append_ #[34,3] ty #[.slice (some ⟨b,off,none⟩) i c,.int .i64 ((n:Int)+1-i)]).run P w=.ok (.slice (some ⟨N,0,none⟩) (n+1) G) W)
    (h:∀ty dc,(Builtin.copy_ #[34,34] ty #[.slice (some ⟨N,i*12,none⟩) (n+1-i) dc,.slice (some ⟨f,v,none⟩) 1 g]).run P W=.ok (goInt 1) j)
    (a:∀ty dc sc,(Builtin.copy_ #[34,34] ty #[.slice (some ⟨N,(i+1)*12,none⟩) (n-i) dc,.slice (some ⟨b,off+i*12,none⟩) (n-i) sc]).run P j.drew=.ok (goInt (n-i)) k):
    Calls P 55 #[.slice (some ⟨b,off,none⟩) n c,.int .i64 i,.slice (some ⟨f,v,none⟩) 1 g] w λe r=>
      e=.returned (.slice (some ⟨N,0,none⟩) (n+1) G)/\r=k:=by
  have u:=run_underlying t;have L:=run_underlying o;have M:=run_underlying p;have hn:Tryz.f55.ntmps=95:=by kernel_rfl
  have s:IntKind.i64.wrap ((n:Int)+1)=(n:Int)+1:=by rw[show(n:Int)+1=((n+1:Nat):Int) by omega];exact Go.Lib.wrap_i64_small _ (by omega)
  have x:IntKind.i64.wrap ((i:Int)+1)=(i:Int)+1:=by rw[show(i:Int)+1=((i+1:Nat):Int) by omega];exact Go.Lib.wrap_i64_small _ (by omega)
  have y:IntKind.i64.wrap ((n:Int)+1-i)=(n:Int)+1-i:=by rw[show(n:Int)+1-i=((n+1-i:Nat):Int) by omega];exact Go.Lib.wrap_i64_small _ (by omega)
  have A:0<=(i:Int)+1/\i<=n:=⟨by omega,by omega⟩;have B:0<=(i:Int)+1:=by omega
  have C:i<=n:=by omega
  have D:i<=n+1:=by omega
  have E:(i:Int)<=(n:Int)+1:=by omega
  have F:¬(c=i+1/\i+1<n):=by omega
  have H:¬(G=i):=by omega
  have I:¬(G=i+1):=by omega
  subst q;have J:¬(c=i):=by omega
  go_enter m,hn
  go_wp2_with (first
    |(at_builtin;refine Lib.wpList_append_run _ rfl _ _ _ _ rfl _ _ rfl rfl _ _ (d _) ?_)
    |(at_builtin;refine Ga _ rfl _ _ 34 34 rfl _ _ rfl rfl (h _ _) ?_))
  go_region_law_o (refine Dp rfl _ _ 34 34 rfl _ _ (by simp[Act.eval,Act.put]) (by simp[Act.eval,Act.put]) (a _ _ _) ?_)
  go_wp2
  go_ret
  exact⟨rfl,rfl⟩
set_option maxHeartbeats 4000000 in
set_option maxRecDepth 100000 in
theorem insC{P:Program}(a:P.funcs[55]? =some Tryz.f55)(t:P.underlying 34=some (.slice 57))(z:∀w,(Go.sizeOf 57).run P w=.ok 12 w)
    (g:P.underlying 3=some (.int .i64))(i:P.underlying 4=some .bool)(mixed:P.follows .mixedOrders=true)(p:Option Addr)(j:p=none\/∃b,p=some ⟨b,0,none⟩)(n c d v f:Nat)(r:Value)(w W:World)
    (h:∀ty,(Builtin.append_ #[34,34] ty #[.slice p n c,.slice (some ⟨d,v,none⟩) 1 f]).run P w=.ok r W):
    Calls P 55 #[.slice p n c,.int .i64 n,.slice (some ⟨d,v,none⟩) 1 f] w λe k=>
      e=.returned r/\k=W:=by
  have u:=run_underlying t;have o:=run_underlying g;have q:=run_underlying i;have hn:Tryz.f55.ntmps=95:=by kernel_rfl
  have l:IntKind.i64.wrap 1=1:=by decide
  have s:(0:Int)<=(n:Int):=by omega
  rcases j with rfl|⟨b,rfl⟩
  . go_enter a,hn
    go_wp2_with (at_builtin;refine Lib.wpList_append_run _ rfl _ _ _ _ rfl _ _ rfl rfl _ _ (h _) ?_)
    go_ret
    exact⟨rfl,rfl⟩
  . by_cases m:c=n
    . go_enter a,hn
      go_wp2_with (at_builtin;refine Lib.wpList_append_run _ rfl _ _ _ _ rfl _ _ rfl rfl _ _ (h _) ?_)
      go_ret
      exact⟨rfl,rfl⟩
    . go_enter a,hn
      go_wp2_with (at_builtin;refine Lib.wpList_append_run _ rfl _ _ _ _ rfl _ _ rfl rfl _ _ (h _) ?_)
      go_ret
      exact⟨rfl,rfl⟩
theorem insW:Go.Ow.InsW Tryz.prog 55 115 34 12:=by
  have t:Tryz.prog.underlying 34=some (.slice 57):=by kernel_rfl
  have f:Tryz.prog.underlying 3=some (.int .i64):=by kernel_rfl
  have h:Tryz.prog.underlying 4=some .bool:=by kernel_rfl
  have z:∀w,(Go.sizeOf 57).run Tryz.prog w=.ok 12 w:=λw=>Go.Ow.run_sizeOf (g:=true) (by kernel_rfl) w;have mixed:Tryz.prog.follows .mixedOrders=true:=by kernel_rfl
  refine⟨?_,?_,?_,?_⟩
  . intro b c v d n i N G w W x y h1 h2 h3 j k l A;exact insA Tryz.func55 t z f h mixed b 0 c v 0 d n i N G w W x y h1 h2 h3 j k l (λty dc sc=>by rw[Tf];exact A ty dc sc)
  . intro b c v d n i w B C h1 h2 h3 j k l;exact insB Tryz.func55 t z f h mixed b 0 c v 0 d n i w B C h1 h2 h3 (λm q=>by rw[Tf];exact j m q) (λty dc sc=>by rw[Tf,Tf];exact k ty dc sc) (λty dc=>by rw[Tf];exact l ty dc)
  . intro p D n c v d r w W h1;exact insC Tryz.func55 t z f h mixed p D n c v 0 d r w W h1
  . intro w a b E F m q o H I J K s u hb hs;rw[run_callFunc_extern Tryz.func115 (by kernel_rfl) (by kernel_rfl) (by kernel_rfl) (e:=Extern.SlicesOverlaps.overlaps #[34,34] #[4]) (by kernel_rfl)];rw[Go.Lib.run_overlaps_apart w 34 4 57 t 12 z ⟨a,0,none⟩ ⟨b,o,none⟩ E F m q s J K H.size I.size (by simp[World.shape?,u]) (by simp[World.shape?,hb]) hs (by simp[World.frozen?,u]) (by simp[World.frozen?,u])];rfl
end Go.Proofs.YtooeopogefefiaaGreatDoor
