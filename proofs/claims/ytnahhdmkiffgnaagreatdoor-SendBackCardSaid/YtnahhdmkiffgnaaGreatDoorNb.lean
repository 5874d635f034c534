import Derived.Test.YtnahhdmkiffgnaaGreatDoorNi
/-
  What is defined here: which functions are computed at once; which temporaries outlive their region.
-/
set_option linter.unusedVariables false
namespace Go.Proofs.YtnahhdmkiffgnaaGreatDoor
open Go Go.Ow Go.RowKit Go.Proofs Go.Ev
noncomputable section
def gTab:Tr Nat:=(.n (.n (.n (.n (.n (.n (.n (.n (.n .e (some 33341) .e) (some 3) .e) (some 134217735) (.n .e (some 95) .e)) (some 5) (.n (.n (.n .e (some 1) .e) (some 3) .e) (some 525279) (.n .e (some 19023213622105999119) .e))) (some 21) (.n (.n (.n (.n .e (some 288231475663604767) .e) (some 4719646399794669089147956639) .e) (some 21) (.n .e (some 4503616807240829) .e)) (some 4399122352095) (.n (.n .e (some 3) .e) (some 131077) (.n .e (some 504373101) .e)))) (some 4951760157141525497643048959) (.n (.n (.n (.n (.n .e (some 35218731966223) .e) (some 95) .e) (some 15) (.n .e (some 5) .e)) (some 36834458566875814815597023) (.n (.n (.n .e (some 0) .e) (some 5) .e) (some 39614081257709756548495968199) (.n .e (some 5) .e))) (some 247) (.n (.n (.n (.n .e (some 1) .e) (some 111) .e) (some 589855) (.n .e (some 1073742391) .e)) (some 5) (.n (.n .e (some 1011) .e) (some 17389) (.n .e (some 1055) .e))))) (some 9077576622424055) (.n (.n (.n (.n (.n (.n .e (some 4026605511) .e) (some 5) .e) (some 16499) (.n .e (some 10384593871817177683247510831234831) .e)) (some 11774793464829117926674150845837588625170104575) (.n (.n (.n .e (some 1) .e) (some 138937039) .e) (some 19) (.n .e (some 9197) .e))) (some 19807040628567210298427197391) (.n (.n (.n (.n .e (some 4197407) .e) (some 33679837) .e) (some 70506183194351) (.n .e (some 17592204934943) .e)) (some 526591) (.n (.n .e (some 27) .e) (some 19) (.n .e (some 4503668346913551) .e)))) (some 1) (.n (.n (.n (.n (.n .e (some 1217485249602318769183) .e) (some 137506063859) .e) (some 179) (.n .e (some 101218289428364493977104185500852357152742950873023135088627) .e)) (some 2148536063) (.n (.n .e (some 3178557) .e) (some 15) (.n .e (some 131527) .e))) (some 604275) (.n (.n (.n (.n .e (some 1) .e) (some 509) .e) (some 101767647386078341139781983171059453828060631787438079) (.n .e (some 20829169751433159) .e)) (some 1) (.n (.n .e (some 571) .e) (some 131943408630511) (.n .e (some 7) .e)))))) (some 0) (.n (.n (.n (.n (.n (.n (.n .e (some 42535296023574879666274036850519702559) .e) (some 531069) .e) (some 154742504945012481521106525) (.n .e (some 1) .e)) (some 1) (.n (.n (.n .e (some 1) .e) (some 5) .e) (some 199) (.n .e (some 277) .e))) (some 120261184967) (.n (.n (.n (.n .e (some 4159) .e) (some 19) .e) (some 95) (.n .e (some 115) .e)) (some 66483) (.n (.n .e (some 3) .e) (some 2336462241915) (.n .e (some 562984581629171) .e)))) (some 1007) (.n (.n (.n (.n (.n .e (some 33551) .e) (some 66483) .e) (some 255) (.n .e (some 263229) .e)) (some 262199) (.n (.n (.n .e (some 0) .e) (some 33587827) .e) (some 15) (.n .e (some 15) .e))) (some 16778291) (.n (.n (.n (.n .e (some 1) .e) (some 95) .e) (some 1074299135) (.n .e (some 1074268103) .e)) (some 17825907) (.n (.n .e (some 70369817920463) .e) (some 504373101) (.n .e (some 3) .e))))) (some 4198415) (.n (.n (.n (.n (.n (.n .e (some 17179886351) .e) (some 1661) .e) (some 31) (.n .e (some 539895) .e)) (some 66483) (.n (.n (.n .e (some 1) .e) (some 1711) .e) (some 1) (.n .e (some 19) .e))) (some 147862184099976428607) (.n (.n (.n (.n .e (some 1) .e) (some 144152030574813151) .e) (some 2147618775) (.n .e (some 1207976051) .e)) (some 7) (.n (.n .e (some 19) .e) (some 2147618759) (.n .e (some 5) .e)))) (some 503316527) (.n (.n (.n (.n (.n .e (some 294650855) .e) (some 66483) .e) (some 21) (.n .e (some 13) .e)) (some 191) (.n (.n .e (some 5) .e) (some 285) (.n .e (some 71) .e))) (some 35184506322975) (.n (.n (.n (.n .e (some 1) .e) (some 5) .e) (some 68988502527) (.n .e (some 83087207854311395603287443752634311) .e)) (some 536870977) (.n (.n .e (some 463) .e) (some 8606843871) (.n .e (some 32967) .e))))))) (some 0) (.n (.n (.n (.n (.n (.n (.n (.n .e (some 65619) .e) (some 132211) .e) (some 8388647) (.n .e (some 1) .e)) (some 7) (.n (.n (.n .e (some 1) .e) (some 327799) .e) (some 34360033535) (.n .e (some 22458641409078797123448399039441150152463) .e))) (some 27) (.n (.n (.n (.n .e (some 271) .e) (some 1286844884597480637859815) .e) (some 21) (.n .e (some 525) .e)) (some 11) (.n (.n .e (some 562949953481213) .e) (some 68719480733) (.n .e (some 19) .e)))) (some 316912650057059672542733664511) (.n (.n (.n (.n (.n .e (some 1333065575601045263) .e) (some 71) .e) (some 50336627) (.n .e (some 2166395068751526547702529807) .e)) (some 21) (.n (.n (.n .e (some 0) .e) (some 32925) .e) (some 537399539) (.n .e (some 19342813113979202331215859) .e))) (some 73931091878051069951) (.n (.n (.n (.n .e (some 1) .e) (some 7516201471) .e) (some 295147905181504570311) (.n .e (some 1073746119) .e)) (some 5) (.n (.n .e (some 1) .e) (some 3693) (.n .e (some 10141207824146148996807101849597) .e))))) (some 255) (.n (.n (.n (.n (.n (.n .e (some 15) .e) (some 32513991) .e) (some 4398054899775) (.n .e (some 5) .e)) (some 8918983) (.n (.n (.n .e (some 1) .e) (some 5) .e) (some 5) (.n .e (some 85) .e))) (some 144255925702688767) (.n (.n (.n (.n .e (some 4194359) .e) (some 531) .e) (some 32895) (.n .e (some 68719476767) .e)) (some 21) (.n (.n .e (some 9023) .e) (some 19) (.n .e (some 5) .e)))) (some 2419033383772004353572927) (.n (.n (.n (.n (.n .e (some 22997644815212700899627017342834150232570911) .e) (some 9224502613981081587) .e) (some 7) (.n .e (some 5) .e)) (some 4215) (.n (.n .e (some 65619) .e) (some 33919) (.n .e (some 17180393951) .e))) (some 7) (.n (.n (.n (.n .e (some 1) .e) (some 7923) .e) (some 11) (.n .e (some 8391) .e)) (some 123145369681951) (.n (.n .e (some 66483) .e) (some 1073742391) (.n .e (some 51) .e)))))) (some 0) (.n (.n (.n (.n (.n (.n (.n .e (some 262927) .e) (some 131319) .e) (some 59) (.n .e (some 1073742391) .e)) (some 32799) (.n (.n (.n .e (some 1) .e) (some 7) .e) (some 36029217929969661) (.n .e (some 16661) .e))) (some 1053) (.n (.n (.n (.n .e (some 55) .e) (some 7) .e) (some 1049567) (.n .e (some 16371) .e)) (some 15) (.n (.n .e (some 5) .e) (some 11) (.n .e (some 31) .e)))) (some 2163695) (.n (.n (.n (.n (.n .e (some 21268317252094917911888073248812900111) .e) (some 31465325) .e) (some 5) (.n .e (some 3) .e)) (some 524397) (.n (.n (.n .e (some 0) .e) (some 31) .e) (some 30423614405486864115946825203643) (.n .e (some 4425026335) .e))) (some 31) (.n (.n (.n (.n .e (some 1) .e) (some 19) .e) (some 15) (.n .e (some 8804682991559) .e)) (some 262411) (.n (.n .e (some 274877916031) .e) (some 307) (.n .e (some 2214597117) .e))))) (some 79) (.n (.n (.n (.n (.n (.n .e (some 8592039695) .e) (some 131315) .e) (some 19) (.n .e (some 3) .e)) (some 5) (.n (.n (.n .e (some 0) .e) (some 71) .e) (some 1) (.n .e (some 3) .e))) (some 324518553658426727346106112542719) (.n (.n (.n (.n .e (some 1) .e) (some 703) .e) (some 31) (.n .e (some 531519) .e)) (some 276701724605369293815) (.n (.n .e (some 1073742391) .e) (some 23) (.n .e (some 71) .e)))) (some 32815) (.n (.n (.n (.n (.n .e (some 33031) .e) (some 15) .e) (some 21) (.n .e (some 247) .e)) (some 36028934457917951) (.n (.n .e (some 33620479) .e) (some 4503728484253871) (.n .e (some 7) .e))) (some 31559) (.n (.n (.n (.n .e (some 1) .e) (some 68047) .e) (some 27) (.n .e (some 19) .e)) (some 536870977) (.n (.n .e (some 8388799) .e) (some 3) (.n .e (some 132039) .e))))))))
def gOf (f:Nat):Nat:=match gTab.get f with|some g=>g|none=>0
def lk (l:List (Nat×Phi))(f:Nat):Option Phi:=List.rec none (λp _ ih=>Bool.rec ih (some p.2) (Nat.beq p.1 f)) l
def natT:List (Nat×Phi):=[(57,nPut 5),(17,nGet),(121,nCat 5),(120,nKey 5),(111,nSpC),(110,nCheck),(123,nTwin),(169,nCnt),(160,nLeft 161),(131,nSum),(229,nIdx),(101,nNew),(102,nSpN 5),(163,nWrite),(88,nIns Tryz.prog 46 100 12)]
def natM:Nat:=862718293348820474190786835836765486285658418136290774640282879262720
def nats:Nat1:=λf=>Bool.rec none (lk natT f) (Nat.beq (Nat.mod (Nat.shiftRight natM f) 2) 1)
end
theorem lk_mem{f:Nat}{g:Phi}:∀{l:List (Nat×Phi)},lk l f=some g→(f,g)∈l
  |[],e=>by cases e
  | (p,q)::l,e=>by
    have e:(Bool.rec (lk l f) (some q) (Nat.beq p f):Option Phi)=some g:=e
    cases hc:Nat.beq p f with
    | true=>
      rw[hc]at e
      cases e
      have:=Nat.eq_of_beq_eq_true hc
      subst this
      exact List.mem_cons_self
    |false=>rw[hc]at e;exact List.mem_cons_of_mem _ (lk_mem e)
theorem nats_ok (f:FuncId)(g:Phi)(e:nats f=some g):SFn Tryz.prog f g:=by
  unfold nats at e
  rcases bb_some e with⟨_,e⟩|⟨_,e⟩
  · have:=lk_mem e
    simp only[natT,List.mem_cons,List.not_mem_nil,or_false,Prod.mk.injEq]at this
    rcases this with⟨rfl,rfl⟩|⟨rfl,rfl⟩|⟨rfl,rfl⟩|⟨rfl,rfl⟩|⟨rfl,rfl⟩|⟨rfl,rfl⟩|⟨rfl,rfl⟩|⟨rfl,rfl⟩|⟨rfl,rfl⟩|⟨rfl,rfl⟩|⟨rfl,rfl⟩|⟨rfl,rfl⟩|⟨rfl,rfl⟩|⟨rfl,rfl⟩|⟨rfl,rfl⟩
    · exact fPut
    · exact fGet
    · exact fCat
    · exact fKey
    · exact fSpC
    · exact fCheck
    · exact fTwin
    · exact fCnt
    · exact fLeft
    · exact fSum
    · exact fIdx
    · exact fNew
    · exact fSpN
    · exact fWrite
    · exact fIns
  · cases e
theorem mixed:Tryz.prog.follows .mixedOrders=true:=by kernel_rfl
noncomputable def okB (r:Option (Value×Hp)):Bool:=match r with|some (.bool b,_)=>b|_=>false
theorem okB_some{r:Option (Value×Hp)}(h:okB r=true):∃h',r=some (.bool true,h'):=by
  unfold okB at h
  split at h
  · subst h;exact⟨_,rfl⟩
  · cases h
theorem true_run{N:Nat1}(hN:∀f g,N f=some g→SFn Tryz.prog f g){n d:Nat}{f:FuncId}(e:okB ((ev Tryz.prog N gOf n).f f [] ⟨full d,0⟩)=true)(w:World):
    CallsIn Fence.wide 0 Tryz.prog f #[] w (λe w'=>e=.returned (.bool true)∧Kept [] w w'):=by
  obtain⟨h',h1⟩:=okB_some e
  exact ev_run mixed enP hN h1 rfl w
end Go.Proofs.YtnahhdmkiffgnaaGreatDoor
