import Derived.Test.YtpjjbaclphoilaaGreatDoorAx0
import Derived.Test.YtpjjbaclphoilaaGreatDoorAx15
namespace Go.Proofs.YtpjjbaclphoilaaGreatDoor.A
open Go.RowKit Go.Proofs.YtpjjbaclphoilaaGreatDoorW.PrintWords Go.Proofs.YtpjjbaclphoilaaGreatDoorW.PrintLast Go.Proofs.YtpjjbaclphoilaaGreatDoorW.PrintMore
attribute [local go_sem] max2_int min2_int max_two min_two max_three min_three max_four min_four   -- for this text's walks alone
set_option linter.unusedVariables false
set_option linter.unusedSimpArgs false
set_option maxHeartbeats 8000000
set_option maxRecDepth 100000
def R03_Check.f (k:Nat) (a0_0:Int) (a0_1:Int) (a0_2:ByteArray):Option (Bool):=if a0_0=1 then (if a0_1≥(-9007199254740991) then (if a0_1≤9007199254740991 then (some (a0_2.toList == ([]:List UInt8))) else (some false)) else (some false)) else (if a0_0=2 then (if a0_1=0 then (if (a0_2.size:Int)≤200 then ((R02_Valid.f k a0_2).bind fun t593=>(some t593)) else (some false)) else (some false)) else (if a0_0=3 then (if a0_1=0 then (some (a0_2.toList == ([]:List UInt8))) else (if a0_1=1 then (some (a0_2.toList == ([]:List UInt8))) else (some false))) else (if a0_0=4 then (if a0_1=0 then (some (decide ((a0_2.size:Int)≤200))) else (some false)) else (some false))))
theorem R03_Check.calls (k:Nat) (a0_0:Int) (a0_1:Int) (a0_2:ByteArray) (r:Bool) (w:World) (h:R03_Check.f k a0_0 a0_1 a0_2=some r):
  Calls Tryz.prog 155 #[.agg #[.int .i64 a0_0,.int .i64 a0_1,.string a0_2]] w fun e w'=>e=.returned (.bool r)∧Below w.heap.size w w':=by
 have hu112:=Tryz.underlying112;have HB:=aM (Below.refl w.heap.size w);unfold R03_Check.f at h;have H:=h;clear h;revert H;refine itQ ?L3p ?L3n
 case' L3p=>
  rintro ⟨c2b0,c2b1⟩ H;revert H;refine itR ?L4p ?L4n
  case' L4p=>
   intro c3 H;have c3b0:=geT c3;clear c3;revert H;refine itR ?L5p ?L5n
   case' L5p=>
    intro c4 H;have c4b0:=dT c4;clear c4;obtain rfl:=sI H;have M1:=trivial
   case' L5n=>
    intro c4 H;have c4b0:=dF c4;clear c4;obtain rfl:=sI H;have M1:=trivial
  case' L4n=>
   intro c3 H;have c3b0:=geF c3;clear c3;obtain rfl:=sI H;have M1:=trivial
 case' L3n=>
  rintro ⟨c2b0,c2b1⟩ c2 H;revert H;refine itQ ?L6p ?L6n
  case' L6p=>
   rintro ⟨c3b0,c3b1⟩ H;revert H;refine itQ ?L7p ?L7n
   case' L7p=>
    rintro ⟨c4b0,c4b1⟩ H;revert H;refine itR ?L8p ?L8n
    case' L8p=>
     intro c5 H;have c5b0:=dT c5;have c5b1:decide (a0_2.size≤200)=true:=dT (by omega);clear c5;replace H:=bnA H;obtain ⟨t593,A6,H⟩:=H;obtain rfl:=sI H;have M2:=trivial
    case' L8n=>
     intro c5 H;have c5b0:=dF c5;have c5b1:decide (a0_2.size≤200)=false:=dF (by omega);clear c5;obtain rfl:=sI H;have M1:=trivial
   case' L7n=>
    rintro ⟨c4b0,c4b1⟩ c4 H;obtain rfl:=sI H;have M1:=trivial
  case' L6n=>
   rintro ⟨c3b0,c3b1⟩ c3 H;revert H;refine itQ ?L9p ?L9n
   case' L9p=>
    rintro ⟨c4b0,c4b1⟩ H;revert H;refine itQ ?L10p ?L10n
    case' L10p=>
     rintro ⟨c5b0,c5b1⟩ H;obtain rfl:=sI H;have M1:=trivial
    case' L10n=>
     rintro ⟨c5b0,c5b1⟩ c5 H;revert H;refine itQ ?L11p ?L11n
     case' L11p=>
      rintro ⟨c6b0,c6b1⟩ H;obtain rfl:=sI H;have M1:=trivial
     case' L11n=>
      rintro ⟨c6b0,c6b1⟩ c6 H;obtain rfl:=sI H;have M1:=trivial
   case' L9n=>
    rintro ⟨c4b0,c4b1⟩ c4 H;revert H;refine itQ ?L12p ?L12n
    case' L12p=>
     rintro ⟨c5b0,c5b1⟩ H;revert H;refine itQ ?L13p ?L13n
     case' L13p=>
      rintro ⟨c6b0,c6b1⟩ H;obtain rfl:=sI H;have M1:=trivial
     case' L13n=>
      rintro ⟨c6b0,c6b1⟩ c6 H;obtain rfl:=sI H;have M1:=trivial
    case' L12n=>
     rintro ⟨c5b0,c5b1⟩ c5 H;obtain rfl:=sI H;have M1:=trivial
 all_goals
  case _=>
   go_enter Tryz.func155,Tryz.ntmps155;go_wp2_with (first|((with_reducible refine gate_dst (N:=1) rfl ?_);(try (refine gate_guard (by rfl) ?_;dsimp only));refine boxB 1 #[.int .i64 a0_0,.int .i64 a0_1,.string a0_2] 112 HB ?_;clear HB;intro gb592 w101 BK592 GW592 GE592 HB;obtain ⟨hcz102_0,hcz102_1,hcz102_2⟩:=cel3 BK592.out;obtain ⟨hfz102_0,hfz102_1,hfz102_2⟩:=frz3 BK592.out;apply stopA;(case other=>exact trivial)))
   case _=>
    first
     | clear M1
       (try go_wp2_with (fail))
       go_ret;exact ⟨endA,bwA⟩
     | clear M2
       (try go_wp2_with (first|(go_at_call 89;(with_reducible refine (R02_Valid.calls _ _ _ _ A6.out).mono ?_);rintro e w103 ⟨rfl,hb⟩;replace BK592:=aM (bkB BK592 hb);replace HB:=aM (below_step (bwA) hb);(try clear hb))));go_ret;exact ⟨endA,bwA⟩
end Go.Proofs.YtpjjbaclphoilaaGreatDoor.A
