import Derived.Test.YtnahhdmkiffgnaaGreatDoorOwMg
import Derived.Test.YtnahhdmkiffgnaaGreatDoorOwMf
/-
  What is proved here: what is written is read as it was; what is read is written as just these bytes.
-/
set_option linter.unusedSimpArgs false
set_option linter.unusedVariables false
namespace Go.Ow
theorem back_write{x:Stream}(h:okStream x):writeS x=(textS x++x.Sign,0)∧send_Parse (textS x++x.Sign)=some (x,0):=by
 refine⟨by unfold writeS;rw[if_pos h],?_⟩
 have h1:=textS_len h
 have h2:=h.2.2.2.1
 rw[send_Parse_eq (by rw[List.length_append];omega),parse_yes (read_full h) h]
theorem back_none{x:Stream}(h:¬okStream x):writeS x=([],8):=by unfold writeS;rw[if_neg h]
theorem back_parse (b:List UInt8):(∃f:Int,send_Parse b=some (noSt,f)∧f≠0)∨∃y,send_Parse b=some (y,0)∧writeS y=(b,0)∧y.Parts.length≤1000000:=by
  by_cases c:b.length≤131072
  · rw [send_Parse_eq c]
    cases e:readS b with
    |none=>exact .inl ⟨8,by rw[parse_no (λx q=>by rw[e]at q;cases q)],by decide⟩
    | some x=>
      by_cases o:okStream x
      · refine .inr ⟨x,by rw[parse_yes e o],?_,?_⟩
        · rw[(back_write o).1,←read_sound e]
        · have:=parts_le o.2.2.2.2;omega
      · exact .inl ⟨8,by rw[parse_no (λy q=>by rw[e]at q;cases q;exact o)],by decide⟩
  · refine .inl ⟨3,?_,by decide⟩
    unfold send_Parse;rw[decide_eq_true (by omega)];rfl
end Go.Ow
namespace Go.Ow
theorem law_SendBack (x:Stream)(b:List UInt8):law29_SendBack x b=some true:=by
  unfold law29_SendBack law29_alive
  obtain⟨g,eg,hg⟩:=great_eq x
  rw[Option.bind_some,eg,Option.bind_some]
  cases g with
  |true=>rfl
  | false =>
    have hp:=hg rfl
    rw[cond_false]
    by_cases c:140000<b.length
    · rw[decide_eq_true (by omega)];rfl
    · have h2:∀o:Unit ⊕ Unit,o=.inl ()→(Sum.elim (λt_21a=>Option.bind (send_Parse b) λx_42=>cond (!decide (x_42.2=0)) (Option.bind (ref29_Same x_42.1 (Stream.mk (0:UInt32) (0:UInt32) ([]:List UInt8) ([]:List Part) ([]:List UInt8))) λx_53=>some x_53) (Option.bind (send_Write x_42.1) λx_58=>Option.bind (cond (decide (x_58.2=0)) (some (decide (x_58.1=b))) (some false)) (λt_61=>some t_61))) (λt_21b=>some false) o:Option Bool)=some true:=by
        rintro o rfl
        show Option.bind (send_Parse b) _=some true
        rcases back_parse b with⟨f,e1,e2⟩|⟨y,e1,e2,e3⟩
        · rw[e1,Option.bind_some,decide_eq_false e2]
          show Option.bind (ref29_Same noSt noSt) _=_
          rw[same_refl (Nat.zero_le _)];rfl
        · rw[e1,Option.bind_some,decide_eq_true rfl]
          show Option.bind (send_Write y) _=_
          rw[send_Write_eq e3,Option.bind_some,e2,decide_eq_true rfl,cond_true,decide_eq_true rfl];rfl
      rw[decide_eq_false (by omega),cond_false,Bool.not_true,cond_false,send_Write_eq (by omega),Option.bind_some]
      by_cases o:okStream x
      · rw[(back_write o).1,decide_eq_true rfl,cond_true,(back_write o).2,Option.bind_some,decide_eq_true rfl,Bool.not_true,cond_false,same_refl (by omega),Option.bind_some,Bool.not_true,cond_false,Option.bind_some]
        exact h2 _ rfl
      · rw[back_none o,decide_eq_false (by decide),cond_false,Option.bind_some]
        exact h2 _ rfl
end Go.Ow
