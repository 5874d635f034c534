import Derived.Test.YtnahhdmkiffgnaaGreatDoorOwMf
import Derived.Test.YtnahhdmkiffgnaaGreatDoorNa
import Derived.Shelf.RegionOpenPlain
import Derived.WalkKit
import Derived.Lib.Walk
import Derived.Lib.SliceRun
import Derived.Lib.AppendZeros
import Derived.Lib.Overlaps
import Derived.Laws.Externs
import Derived.Laws.IdiomCopy
/-
  What is proved here: slices.Insert of one change into a list of none, or ahead of one: what the code does, where its copies are told.
-/
set_option linter.unusedSimpArgs false
set_option linter.unusedVariables false
namespace Go.Proofs.YtnahhdmkiffgnaaGreatDoor
open Go Go.Shelf Go.RowKit Go.Lib Go.Proofs
theorem wp_copy_runI{P:Program}(w:World){o:Oper}{a:Act}{K:Act→World→Prop}{Q:Exit→Act→World→Prop}(d s:Operand)(t t':TypeId)
    (ho:o.op=.call {callee:=.builtin .copy,args:=#[d,s],argTypes:=#[t,t']})(v u:Value)(hd:a.eval d=v)(hs:a.eval s=u){v':Value}{w':World}
    (hr:(Builtin.copy_ #[t,t'] o.type #[v,u]).run P w=.ok v' w')(h:K (a.put o.dst v') w'):o.wp P a w K Q:=by
  unfold Oper.wp execOp
  simp only[ho,resolve,invoke,builtin,Sem.run_bind,Sem.run_pure,Result.andThen_ok,List.map_toArray,List.map_cons,List.map_nil,hd,hs,hr]
  exact h
theorem wpList_copy_runI{P:Program}(w:World){ops:Array Oper}{rest:List Oper}{o:Oper}{a:Act}{Q:Exit→Act→World→Prop}(hgd:o.guard=none)(d s:Operand)(t t':TypeId)
    (ho:o.op=.call {callee:=.builtin .copy,args:=#[d,s],argTypes:=#[t,t']})(v u:Value)(hd:a.eval d=v)(hs:a.eval s=u){v':Value}{w':World}
    (hr:(Builtin.copy_ #[t,t'] o.type #[v,u]).run P w=.ok v' w')(h:wpList P ops Q rest (a.put o.dst v') w'):wpList P ops Q (o::rest) a w:=
  wpList_plain hgd λ_ hK=>wp_copy_runI w d s t t' ho v u hd hs hr (hK _ _ h)
theorem step_copy_runI{P:Program}{ops:Array Oper}{o:Oper}{a:Act}{w:World}{K:Act→World→Prop}{Q:Exit→Act→World→Prop}{E:Prop}
    (hg:o.guard=none)(d x:Operand)(dT sT:TypeId)(hop:o.op=Op.call {callee:=Callee.builtin Builtin.copy,args:=#[d,x],argTypes:=#[dT,sT]})
    (v u:Value)(hd:a.eval d=v)(hx:a.eval x=u){v':Value}{w':World}(hr:(Builtin.copy_ #[dT,sT] o.type #[v,u]).run P w=.ok v' w')(hK:K (a.put o.dst v') w'):
    if Region.wanted o (yielded ops a.tmps)=true then Oper.wp P o a w K Q else E:=by
  have hw:Region.wanted o (yielded ops a.tmps)=true:=by simp[Region.wanted,hg]
  rw[if_pos hw]
  unfold Oper.wp
  simp[execOp,hop,resolve,invoke,builtin,hd,hx,hr,Result.andThen]
  exact hK
set_option maxHeartbeats 4000000 in
set_option maxRecDepth 100000 in
theorem insB{P:Program}(hf:P.funcs[88]? =some Tryz.f88)(t35:P.underlying 46=some (.slice 100))(z90:∀w,(Go.sizeOf 100).run P w=.ok 12 w)
    (t3:P.underlying 3=some (.int .i64))(t4:P.underlying 4=some .bool)(mixed:P.follows .mixedOrders=true)(b off c vb voff vc:Nat)(w W1 W2:World)(hroom:2≤c)(hc63:c≤9223372036854775807)
    (hov:∀lb cb,(callFunc 126 #[.slice (some ⟨vb,voff,none⟩) 1 vc,.slice (some ⟨b,off+12,none⟩) lb cb]).run P w=.ok (.value (.bool false)) w)
    (hcp1:∀ty dc sc,(Builtin.copy_ #[46,46] ty #[.slice (some ⟨b,off+12,none⟩) 1 dc,.slice (some ⟨b,off,none⟩) 2 sc]).run P w.drew=.ok (goInt 1) W1)
    (hcp2:∀ty dc,(Builtin.copy_ #[46,46] ty #[.slice (some ⟨b,off,none⟩) 2 dc,.slice (some ⟨vb,voff,none⟩) 1 vc]).run P W1=.ok (goInt 1) W2):
    Calls P 88 #[.slice (some ⟨b,off,none⟩) 1 c,.int .i64 0,.slice (some ⟨vb,voff,none⟩) 1 vc] w λe w'=>
      e=.returned (.slice (some ⟨b,off,none⟩) 2 c)∧w'=W2:=by
  have u35:=run_underlying t35
  have u3:=run_underlying t3
  have u4:=run_underlying t4
  have hn:Tryz.f88.ntmps=95:=by kernel_rfl
  have hw1:IntKind.i64.wrap 1=1:=by decide
  have hb2:¬(c=1):=by omega
  have hb4:¬(c=0):=by omega
  go_enter hf,hn
  go_wp2_with (simp only[hov])
  go_region_law_o (refine step_copy_runI rfl _ _ 46 46 rfl _ _ (by simp[Act.eval,Act.put]) (by simp[Act.eval,Act.put]) (hcp1 _ _ _) ?_)
  go_wp2_with (at_builtin;refine wpList_copy_runI _ rfl _ _ 46 46 rfl _ _ rfl rfl (hcp2 _ _) ?_)
  go_ret
  exact⟨rfl,rfl⟩
set_option maxHeartbeats 4000000 in
set_option maxRecDepth 100000 in
theorem insA{P:Program}(hf:P.funcs[88]? =some Tryz.f88)(t35:P.underlying 46=some (.slice 100))(z90:∀w,(Go.sizeOf 100).run P w=.ok 12 w)
    (t3:P.underlying 3=some (.int .i64))(t4:P.underlying 4=some .bool)(mixed:P.follows .mixedOrders=true)(b off vb voff vc N G:Nat)(w WA WB WC:World)(hG:2≤G)
    (hrz:∀ty,(Builtin.append_ #[46,3] ty #[.slice (some ⟨b,off,none⟩) 0 1,.int .i64 2]).run P w=.ok (.slice (some ⟨N,0,none⟩) 2 G) WA)
    (hcpA:∀ty dc,(Builtin.copy_ #[46,46] ty #[.slice (some ⟨N,0,none⟩) 2 dc,.slice (some ⟨vb,voff,none⟩) 1 vc]).run P WA=.ok (goInt 1) WB)
    (hcpB:∀ty dc sc,(Builtin.copy_ #[46,46] ty #[.slice (some ⟨N,12,none⟩) 1 dc,.slice (some ⟨b,off,none⟩) 1 sc]).run P WB.drew=.ok (goInt 1) WC):
    Calls P 88 #[.slice (some ⟨b,off,none⟩) 1 1,.int .i64 0,.slice (some ⟨vb,voff,none⟩) 1 vc] w λe w'=>
      e=.returned (.slice (some ⟨N,0,none⟩) 2 G)∧w'=WC:=by
  have u35:=run_underlying t35
  have u3:=run_underlying t3
  have u4:=run_underlying t4
  have hn:Tryz.f88.ntmps=95:=by kernel_rfl
  have hw1:IntKind.i64.wrap 1=1:=by decide
  have hw2:IntKind.i64.wrap 2=2:=by decide
  have hG1:¬(G=1):=by omega
  have hG0:¬(G=0):=by omega
  go_enter hf,hn
  go_wp2_with (first
    |(at_builtin;refine Lib.wpList_append_run _ rfl _ _ _ _ rfl _ _ rfl rfl _ _ (hrz _) ?_)
    |(at_builtin;refine wpList_copy_runI _ rfl _ _ 46 46 rfl _ _ rfl rfl (hcpA _ _) ?_))
  go_region_law_o (refine step_copy_runI rfl _ _ 46 46 rfl _ _ (by simp[Act.eval,Act.put]) (by simp[Act.eval,Act.put]) (hcpB _ _ _) ?_)
  go_wp2
  go_ret
  exact⟨rfl,rfl⟩
set_option maxHeartbeats 4000000 in
set_option maxRecDepth 100000 in
theorem insC{P:Program}(hf:P.funcs[88]? =some Tryz.f88)(t35:P.underlying 46=some (.slice 100))(z90:∀w,(Go.sizeOf 100).run P w=.ok 12 w)
    (t3:P.underlying 3=some (.int .i64))(t4:P.underlying 4=some .bool)(mixed:P.follows .mixedOrders=true)(vb voff vc:Nat)(r:Value)(w WA:World)
    (hap:∀ty,(Builtin.append_ #[46,46] ty #[.slice none 0 0,.slice (some ⟨vb,voff,none⟩) 1 vc]).run P w=.ok r WA):
    Calls P 88 #[.slice none 0 0,.int .i64 0,.slice (some ⟨vb,voff,none⟩) 1 vc] w λe w'=>
      e=.returned r∧w'=WA:=by
  have u35:=run_underlying t35
  have u3:=run_underlying t3
  have u4:=run_underlying t4
  have hn:Tryz.f88.ntmps=95:=by kernel_rfl
  have hw1:IntKind.i64.wrap 1=1:=by decide
  go_enter hf,hn
  go_wp2_with (at_builtin;refine Lib.wpList_append_run _ rfl _ _ _ _ rfl _ _ rfl rfl _ _ (hap _) ?_)
  go_ret
  exact⟨rfl,rfl⟩
theorem fIns:Go.Ev.SFn Tryz.prog 88 (Go.Ev.nIns Tryz.prog 46 100 12):=by
  have t35:Tryz.prog.underlying 46=some (.slice 100):=by kernel_rfl
  have t3:Tryz.prog.underlying 3=some (.int .i64):=by kernel_rfl
  have t4:Tryz.prog.underlying 4=some .bool:=by kernel_rfl
  have s90:Go.Ev.szT Tryz.prog 100=some 12:=by kernel_rfl
  have z90:∀w,(Go.sizeOf 100).run Tryz.prog w=.ok 12 w:=λw=>Go.Ev.run_size s90 w
  have mixed:Tryz.prog.follows .mixedOrders=true:=by kernel_rfl
  obtain⟨i,hi,his⟩:=Go.Ev.szT_info s90
  obtain⟨i',zv,hi',hz,hzs⟩:=Go.Ev.zsT_some (show Go.Ev.zsT Tryz.prog 100=true by kernel_rfl)
  rw[hi]at hi';cases hi'
  obtain⟨i',hi',hby,_,_⟩:=Go.Ev.fitT_some (show Go.Ev.fitT Tryz.prog 100 1099512=true by kernel_rfl)
  rw[hi]at hi';cases hi'
  refine Go.Ev.nIns_ok (i:=i) (zv:=zv) (en Tryz.func88 rfl) t35 t3 s90 hi hz (hzs.trans his) his (by decide) (by omega) (by decide) ⟨?_,?_,?_⟩
  · intro b off vb voff vc N G w WA WB WC hG h1 h2 h3
    exact insA Tryz.func88 t35 z90 t3 t4 mixed b off vb voff vc N G w WA WB WC hG h1 h2 h3
  · intro b off c vb voff vc w W1 W2 h1 h2 h3 h4 h5
    refine insB Tryz.func88 t35 z90 t3 t4 mixed b off c vb voff vc w W1 W2 h1 h2 (λlb cb=> ?_) h4 h5
    rw[run_callFunc_extern Tryz.func126 (by kernel_rfl) (by kernel_rfl) (by kernel_rfl) (e:=Extern.SlicesOverlaps.overlaps #[46,46] #[4]) (by kernel_rfl),h3]
    rfl
  · intro vb voff vc r w WA h1
    exact insC Tryz.func88 t35 z90 t3 t4 mixed vb voff vc r w WA h1
end Go.Proofs.YtnahhdmkiffgnaaGreatDoor
