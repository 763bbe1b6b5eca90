import Derived.Test.YtpjjbaclphoilaaGreatDoorAx0
import Derived.Test.YtpjjbaclphoilaaGreatDoorAx3
namespace Go.Proofs.YtpjjbaclphoilaaGreatDoor.A
open Go.RowKit Go.Proofs.YtpjjbaclphoilaaGreatDoorW.PrintWords Go.Proofs.YtpjjbaclphoilaaGreatDoorW.PrintLast Go.Proofs.YtpjjbaclphoilaaGreatDoorW.PrintMore
attribute [local go_sem] max2_int min2_int max_two min_two max_three min_three max_four min_four   -- for this text's walks alone
set_option linter.unusedVariables false
set_option linter.unusedSimpArgs false
set_option maxHeartbeats 8000000
set_option maxRecDepth 100000
def name_Letter.j0:Nat→Int→Bool→Option (Bool)
 | 0,_,_=>none
 | k+1,x0,x3=>if x3=true then (some true) else ((name_between.f x0 192 591).bind fun t123=>(if t123=true then (if x0=215 then (some false) else (some (x0 != 247))) else ((name_between.f x0 913 937).bind fun t124=>(if t124=true then (some (x0 != 930)) else ((name_between.f x0 945 969).bind fun t125=>(if t125=true then (some true) else ((name_between.f x0 1040 1103).bind fun t126=>(if t126=true then (some true) else ((name_between.f x0 19968 40959).bind fun t127=>(some t127))))))))))
def name_Letter.f (k:Nat) (a0:Int):Option (Bool):=(name_between.f a0 65 90).bind fun t121=>(if t121=true then (name_Letter.j0 k a0 t121) else ((name_between.f a0 97 122).bind fun t122=>(name_Letter.j0 k a0 t122)))
theorem name_Letter.mono_l:∀ k,(∀ y0 y1,LeO (name_Letter.j0 k y0 y1) (name_Letter.j0 (k+1) y0 y1))
 | 0=>fun _ _ r h=>by simp [name_Letter.j0] at h
 | k+1=>by
  have ih0:=name_Letter.mono_l k
  ·intro y0 y1
   unfold name_Letter.j0
   repeat' (with_reducible first|exact ih0 _ _|exact LeO.refl _|exact LeO.none _|refine LeO.ite ?_ ?_|refine LeO.bind ?_ (fun _=>?_))
theorem name_Letter.mono:∀ a0 k,LeO (name_Letter.f k a0) (name_Letter.f (k+1) a0):=by
 intro a0 k;have ih0:=name_Letter.mono_l k;unfold name_Letter.f
 repeat' (with_reducible first|exact ih0 _ _|exact LeO.refl _|exact LeO.none _|refine LeO.ite ?_ ?_|refine LeO.bind ?_ (fun _=>?_))
theorem name_Letter.calls (k:Nat) (a0:Int) (r:Bool) (w:World) (h:name_Letter.f k a0=some r):
  Calls Tryz.prog 127 #[.int .i32 a0] w fun e w'=>e=.returned (.bool r)∧Drawn0 w w':=by
 unfold name_Letter.f at h;have H:=h;clear h;replace H:=bnA H;obtain ⟨t121,A2,H⟩:=H;have HC101:=aM H;clear H;go_enter Tryz.func127,Tryz.ntmps127
 go_upto_if 3 with (first|((with_reducible refine gate_callee (f:=161) rfl ?_);refine goesA (some 5) Tryz.func161 #[.int .i32 a0,.int .i32 65,.int .i32 90] ?_;(with_reducible refine (name_between.calls _ _ _ _ _ A2.out).mono ?_);rintro e w' ⟨rfl,⟨nd,rfl⟩⟩;refine ⟨_,rfl,?_⟩))
 (try simp only [Act.put,List.setIfInBounds_toArray,List.set_cons_zero,List.set_cons_succ])
 go_cut [3] (fun v3 wc=>∃ (kq:Nat) (x3_100:Bool),v3=.bool x3_100∧Aside0 (name_Letter.j0 kq a0 x3_100=some r)∧Aside0 (kq≤k)∧Drawn0 w wc)
 case first=>
  have H:=HC101.out;clear HC101;revert H;refine itR ?L1p ?L1n
  case' L1p=>
   intro c102 H;subst c102;have H':=aM H;clear H;go_wp2
   go_meet
   case rel=>exact ⟨_,(true),(endS),H',⟨by first|omega|exact Nat.le_refl _⟩,drA⟩
  case' L1n=>
   intro c102 H;replace c102:=Bool.eq_false_iff.mpr c102;subst c102;replace H:=bnA H;obtain ⟨t122,A103,H⟩:=H;have H':=aM H;clear H;try go_wp2_with (first|((with_reducible refine gate_callee (f:=161) rfl ?_);refine goesA (some 7) Tryz.func161 #[.int .i32 a0,.int .i32 97,.int .i32 122] ?_;(with_reducible refine (name_between.calls _ _ _ _ _ A103.out).mono ?_);rintro e w' ⟨rfl,⟨nd,rfl⟩⟩;refine ⟨_,rfl,?_⟩))
   go_meet
   case rel=>exact ⟨_,(t122),(endS),H',⟨by first|omega|exact Nat.le_refl _⟩,drA⟩
 case rest=>
  clear HC101;(try clear c1);(try clear p2);(try clear c10);(try clear c12);(try clear c16);obtain ⟨kq,x3_100,rfl,HA,HJ100,⟨mc100,rfl⟩⟩:=hcut
  cases kq with
  | zero=>exact absurd HA.out (by simp [name_Letter.j0])
  | succ kj100=>
   have H:=HA.out;clear HA;simp only [name_Letter.j0] at H;revert H;refine itR ?L10p ?L10n
   case' L10p=>
    intro c102 H;subst c102;obtain rfl:=sI H;go_wp2;go_ret;exact ⟨endS,drA⟩
   case' L10n=>
    intro c102 H;replace c102:=Bool.eq_false_iff.mpr c102;subst c102;replace H:=bnA H;obtain ⟨t123,A103,H⟩:=H;revert H;refine itR ?L11p ?L11n
    case' L11p=>
     intro c104 H;subst c104;revert H;refine itQ ?L12p ?L12n
     case' L12p=>
      rintro ⟨c105b0,c105b1⟩ H;obtain rfl:=sI H;have M2:=trivial
     case' L12n=>
      rintro ⟨c105b0,c105b1⟩ c105 H;obtain rfl:=sI H;have M2:=trivial
    case' L11n=>
     intro c104 H;replace c104:=Bool.eq_false_iff.mpr c104;subst c104;replace H:=bnA H;obtain ⟨t124,A105,H⟩:=H;revert H;refine itR ?L13p ?L13n
     case' L13p=>
      intro c106 H;subst c106;obtain rfl:=sI H;have M3:=trivial;have M4:=trivial
     case' L13n=>
      intro c106 H;replace c106:=Bool.eq_false_iff.mpr c106;subst c106;replace H:=bnA H;obtain ⟨t125,A107,H⟩:=H;revert H;refine itR ?L14p ?L14n
      case' L14p=>
       intro c108 H;subst c108;obtain rfl:=sI H;have M3:=trivial;have M5:=trivial;have M6:=trivial
      case' L14n=>
       intro c108 H;replace c108:=Bool.eq_false_iff.mpr c108;subst c108;replace H:=bnA H;obtain ⟨t126,A109,H⟩:=H;revert H;refine itR ?L15p ?L15n
       case' L15p=>
        intro c110 H;subst c110;obtain rfl:=sI H;have M3:=trivial;have M5:=trivial;have M7:=trivial;have M8:=trivial
       case' L15n=>
        intro c110 H;replace c110:=Bool.eq_false_iff.mpr c110;subst c110;replace H:=bnA H;obtain ⟨t127,A111,H⟩:=H;obtain rfl:=sI H;have M3:=trivial;have M5:=trivial;have M7:=trivial;have M9:=trivial
   all_goals
    case _=>
     go_wp2_with (first|((with_reducible refine gate_callee (f:=161) rfl ?_);refine goesA (some 10) Tryz.func161 #[.int .i32 a0,.int .i32 192,.int .i32 591] ?_;(with_reducible refine (name_between.calls _ _ _ _ _ A103.out).mono ?_);rintro e w' ⟨rfl,⟨nd,rfl⟩⟩;refine ⟨_,rfl,?_⟩;apply stopA;(case other=>exact trivial)))
     case _=>
      first
       | clear M2
         (try go_wp2_with (fail))
         go_ret;exact ⟨endS,drA⟩
       | clear M3
         go_wp2_with (first|((with_reducible refine gate_callee (f:=161) rfl ?_);refine goesA (some 19) Tryz.func161 #[.int .i32 a0,.int .i32 913,.int .i32 937] ?_;(with_reducible refine (name_between.calls _ _ _ _ _ A105.out).mono ?_);rintro e w' ⟨rfl,⟨nd,rfl⟩⟩;refine ⟨_,rfl,?_⟩;apply stopA;(case other=>exact trivial)))
         case _=>
          first
           | clear M4
             (try go_wp2_with (fail))
             go_ret;exact ⟨endS,drA⟩
           | clear M5
             go_wp2_with (first|((with_reducible refine gate_callee (f:=161) rfl ?_);refine goesA (some 23) Tryz.func161 #[.int .i32 a0,.int .i32 945,.int .i32 969] ?_;(with_reducible refine (name_between.calls _ _ _ _ _ A107.out).mono ?_);rintro e w' ⟨rfl,⟨nd,rfl⟩⟩;refine ⟨_,rfl,?_⟩;apply stopA;(case other=>exact trivial)))
             case _=>
              first
               | clear M6
                 (try go_wp2_with (fail))
                 go_ret;exact ⟨endS,drA⟩
               | clear M7
                 go_wp2_with (first|(go_at_call 161;(with_reducible refine (name_between.calls _ _ _ _ _ A109.out).mono ?_);rintro e w' ⟨rfl,⟨nd,rfl⟩⟩;apply stopA;(case other=>exact trivial)))
                 case _=>
                  first
                   | clear M8
                     (try go_wp2_with (fail))
                     go_ret;exact ⟨endS,drA⟩
                   | clear M9
                     (try go_wp2_with (first|(go_at_call 161;(with_reducible refine (name_between.calls _ _ _ _ _ A111.out).mono ?_);rintro e w' ⟨rfl,⟨nd,rfl⟩⟩)));go_ret;exact ⟨endS,drA⟩
def name_digit.f (a0:Int):Option (Bool):=(name_between.f a0 48 57).bind fun t128=>(some t128)
theorem name_digit.calls (a0:Int) (r:Bool) (w:World) (h:name_digit.f a0=some r):
  Calls Tryz.prog 128 #[.int .i32 a0] w fun e w'=>e=.returned (.bool r)∧Drawn0 w w':=by
 unfold name_digit.f at h;have H:=h;clear h;replace H:=Option.bind_eq_some_iff.mp H;obtain ⟨t128,A20,H⟩:=H;replace H:(some t128)=some r:=H;have A2:=aM A20;clear A20;obtain rfl:=sI H;go_enter Tryz.func128,Tryz.ntmps128;go_wp2_with (first|((with_reducible refine gate_callee (f:=161) rfl ?_);refine goesA (some 4) Tryz.func161 #[.int .i32 a0,.int .i32 48,.int .i32 57] ?_;(with_reducible refine (name_between.calls a0 48 57 t128 _ A2.out).mono ?_);rintro e w' ⟨rfl,⟨nd,rfl⟩⟩;refine ⟨_,rfl,?_⟩));go_ret;exact ⟨endS,drA⟩
def name_formed.st (k:Nat) (first:Bool) (c:Int):Option Int:=
 if c=46 then (if first=true then some 0 else some 2)
 else (name_Letter.f k c).bind fun t=>if t=true then some 1 else if c=95 then some 1 else if first=true then some 0 else (name_digit.f c).bind fun d=>if d=true then some 1 else if c=45 then some 1 else some 0
def name_formed.go (k:Nat) (s:ByteArray):Nat→Nat→Bool→Option Bool
 | 0,_,_=>none
 | f+1,pos,first=>if pos<s.size then (name_formed.st k first ((Utf8.decode s pos).1:Int)).bind fun t=>if t=0 then some false else name_formed.go k s f (pos+(Utf8.decode s pos).2) (decide (t=2)) else some (!first)
def name_formed.f (k:Nat) (a0:ByteArray):Option Bool:=if a0.size≤1099511627776 then (if a0.toList=[] then some false else (if Lib.validD a0.data.toList=true then name_formed.go k a0 (a0.size+1) 0 true else some false)) else none
theorem name_formed.mono_st (k:Nat) (first:Bool) (c:Int):LeO (name_formed.st k first c) (name_formed.st (k+1) first c):=by
 unfold name_formed.st
 repeat' first
  | (with_reducible exact LeO.refl _)
  | (with_reducible exact name_Letter.mono _ _)
  | (with_reducible refine LeO.ite ?_ ?_)
  | (with_reducible refine LeO.bind ?_ (fun _=>?_))
theorem name_formed.mono_go (k:Nat) (s:ByteArray):∀ f pos first,LeO (name_formed.go k s f pos first) (name_formed.go (k+1) s f pos first)
 | 0,_,_=>fun r h=>by simp [name_formed.go] at h
 | f+1,pos,first=>by
  unfold name_formed.go
  repeat' first
   | (with_reducible exact LeO.refl _)
   | (with_reducible exact name_formed.mono_st _ _ _)
   | exact name_formed.mono_go k s f _ _
   | (with_reducible refine LeO.ite ?_ ?_)
   | (with_reducible refine LeO.bind ?_ (fun _=>?_))
theorem name_formed.calls (k:Nat) (a0:ByteArray) (r:Bool) (w:World) (hT:Tabs w) (h:name_formed.f k a0=some r):
  Calls Tryz.prog 84 #[.string a0] w fun e w'=>e=.returned (.bool r)∧Below w.heap.size w w':=by
 unfold name_formed.f at h
 split at h
 ·rename_i hs
  have cV:=Tryz.utf8_ValidString a0 w (by omega) hT.u8;clear hT
  by_cases h0:a0.toList=[]
  ·rw [if_pos h0] at h
   obtain rfl:=sI h;have hb0:a0.toList.isEmpty=true:=by rw [h0];rfl
   have hb1:(a0.toList == ([]:List UInt8))=true:=by rw [h0];rfl
   go_enter Tryz.func84,Tryz.ntmps84;go_wp2_with fail;go_ret;exact ⟨rfl,Below.refl _ _⟩
  rw [if_neg h0] at h
  have hb0:a0.toList.isEmpty=false:=by cases hq:a0.toList with
   | nil=>exact absurd hq h0
   | cons _ _=>rfl
  have hb1:(a0.toList == ([]:List UInt8))=false:=by rw [beq_eq_false_iff_ne];exact h0
  by_cases hv:Lib.validD a0.data.toList=true
  ·rw [if_pos hv] at h
   have H:=Lib.hid h;rw [hv] at cV;clear h hv;go_enter Tryz.func84,Tryz.ntmps84;go_wp2_with (go_at_call 105;refine cV.mono ?_;rintro e w1 ⟨rfl,hb1⟩)
   go_loopw [3] (fun v3 wr=>∃ (pos fuel:Nat) (first:Bool),v3=.bool first∧wr.heap[w1.heap.size]? = some (.stringIter a0 pos)∧Below w.heap.size w wr∧Hid (name_formed.go k a0 fuel pos first=some r)) (fun _ wr=>a0.size-wr.iterPos w1.heap.size)
   case atStart=>exact ⟨0,_,true,rfl,World.iter_heap w1 a0 0,hb1.alloc hb1.size _,H⟩
   case round=>
    obtain ⟨pos,fuel,first,rfl,hit,hbw,HG⟩:=hrel;clear H;have hsz:w1.heap.size<wr.heap.size:=(Array.getElem?_eq_some_iff.1 hit).1;have hsw:w.heap.size≤w1.heap.size:=hb1.size
    cases fuel with
    | zero=>exact absurd HG.out (by simp [name_formed.go])
    | succ f=>
     have hgo:=HG.out;clear HG;unfold name_formed.go at hgo
     by_cases hp:pos<a0.size
     ·rw [if_pos hp] at hgo
      have hnx:∀ ty,(Instr.next (.pointer (some ⟨w1.heap.size,0,none⟩)) true ty).run Tryz.prog wr=_:=fun ty=>Lib.run_next_any_at wr w1.heap.size a0 pos ty hit hp
      have Hwd:=Lib.hid (Lib.width_pos a0 pos);have Hd1:=Lib.hid (decode_le a0 pos);have hit2:=Lib.iterAt_heap wr w1.heap.size a0 pos (pos+(Utf8.decode a0 pos).2) hit;have hbw2:=Lib.below_iterAt hbw (k:=w1.heap.size) hsw a0 (pos+(Utf8.decode a0 pos).2);obtain ⟨t,hst,hgo⟩:=Option.bind_eq_some_iff.1 hgo;unfold name_formed.st at hst;have hL:=fun t h W=>name_Letter.calls k ((Utf8.decode a0 pos).1:Int) t W h
      have hD:=fun t h W=>name_digit.calls ((Utf8.decode a0 pos).1:Int) t W h
      generalize hc:(((Utf8.decode a0 pos).1:Nat):Int)=c at hst hL hD hnx
      have Hc:=Lib.hid hc;clear hc;have e00:t=0→r=false:=fun e=>by rw [if_pos e] at hgo;exact (sI hgo).symm
      have e10:t≠0→name_formed.go k a0 f (pos+(Utf8.decode a0 pos).2) (decide (t=2))=some r:=fun e=>by rw [if_neg e] at hgo;exact hgo
      have E0:=Lib.hid e00;have E1:=Lib.hid e10;clear hgo e00 e10
      by_cases c46:c=46
      ·rw [if_pos c46] at hst
       have k46:(c == 46)=true:=by rw [c46];rfl
       clear c46
       cases first with
       | true=>
        rw [if_pos rfl] at hst;obtain rfl:=sI hst;obtain rfl:=E0.out rfl;clear hst hL hD E0 E1 Hc;go_wp2_with (first|fail);go_ret;exact ⟨rfl,(by repeat (first|exact hbw2|apply pw_below_drewN))⟩
       | false=>
        rw [if_neg (by decide)] at hst;obtain rfl:=sI hst;have HE:=Lib.hid (E1.out (by decide));clear hst hL hD E0 E1 Hc;go_wp2_with (first|fail)
        go_roundw
        case rel=>exact ⟨_,f,_,rfl,hit2,(by repeat (first|exact hbw2|apply pw_below_drewN)),HE⟩
        case measure=>
         have hwd:=Hwd.out;have hd1:=Hd1.out;have hm:∀ (X:World) n b,(X.drewN n).iterPos b=X.iterPos b:=fun _ _ _=>rfl
         (try simp only [hm]);simp only [World.iterPos,hit2,hit]
         omega
      rw [if_neg c46] at hst;have k46:(c == 46)=false:=beq_eq_false_iff_ne.2 c46;clear c46;obtain ⟨l,hl,hst⟩:=Option.bind_eq_some_iff.1 hst;have cL:=hL l hl;clear hl
      cases l with
      | true=>
       rw [if_pos rfl] at hst;obtain rfl:=sI hst;have HE:=Lib.hid (E1.out (by decide));clear hst hL hD E0 E1 Hc;go_wp2_with (first|(go_at_call 127;refine (cL _).mono ?_;rintro e w2 ⟨rfl,⟨n1,rfl⟩⟩))
       go_roundw
       case rel=>exact ⟨_,f,_,rfl,hit2,(by repeat (first|exact hbw2|apply pw_below_drewN)),HE⟩
       case measure=>
        have hwd:=Hwd.out;have hd1:=Hd1.out;have hm:∀ (X:World) n b,(X.drewN n).iterPos b=X.iterPos b:=fun _ _ _=>rfl
        (try simp only [hm]);simp only [World.iterPos,hit2,hit]
        omega
      | false=>
       rw [if_neg (by decide)] at hst
       by_cases c95:c=95
       ·rw [if_pos c95] at hst
        have k95:(c == 95)=true:=by rw [c95];rfl
        clear c95;obtain rfl:=sI hst;have HE:=Lib.hid (E1.out (by decide));clear hst hL hD E0 E1 Hc;go_wp2_with (first|(go_at_call 127;refine (cL _).mono ?_;rintro e w2 ⟨rfl,⟨n1,rfl⟩⟩))
        go_roundw
        case rel=>exact ⟨_,f,_,rfl,hit2,(by repeat (first|exact hbw2|apply pw_below_drewN)),HE⟩
        case measure=>
         have hwd:=Hwd.out;have hd1:=Hd1.out;have hm:∀ (X:World) n b,(X.drewN n).iterPos b=X.iterPos b:=fun _ _ _=>rfl
         (try simp only [hm]);simp only [World.iterPos,hit2,hit]
         omega
       rw [if_neg c95] at hst;have k95:(c == 95)=false:=beq_eq_false_iff_ne.2 c95;clear c95
       cases first with
       | true=>
        rw [if_pos rfl] at hst;obtain rfl:=sI hst;obtain rfl:=E0.out rfl;clear hst hL hD E0 E1 Hc;go_wp2_with (first|(go_at_call 127;refine (cL _).mono ?_;rintro e w2 ⟨rfl,⟨n1,rfl⟩⟩));go_ret;exact ⟨rfl,(by repeat (first|exact hbw2|apply pw_below_drewN))⟩
       | false=>
        rw [if_neg (by decide)] at hst;obtain ⟨d,hd,hst⟩:=Option.bind_eq_some_iff.1 hst;have cD:=hD d hd;clear hd
        cases d with
        | true=>
         rw [if_pos rfl] at hst;obtain rfl:=sI hst;have HE:=Lib.hid (E1.out (by decide));clear hst hL hD E0 E1 Hc;go_wp2_with (first|(go_at_call 127;refine (cL _).mono ?_;rintro e w2 ⟨rfl,⟨n1,rfl⟩⟩)|(go_at_call 128;refine (cD _).mono ?_;rintro e w2 ⟨rfl,⟨n2,rfl⟩⟩))
         go_roundw
         case rel=>exact ⟨_,f,_,rfl,hit2,(by repeat (first|exact hbw2|apply pw_below_drewN)),HE⟩
         case measure=>
          have hwd:=Hwd.out;have hd1:=Hd1.out;have hm:∀ (X:World) n b,(X.drewN n).iterPos b=X.iterPos b:=fun _ _ _=>rfl
          (try simp only [hm]);simp only [World.iterPos,hit2,hit]
          omega
        | false=>
         rw [if_neg (by decide)] at hst
         by_cases c45:c=45
         ·rw [if_pos c45] at hst
          have k45:(c == 45)=true:=by rw [c45];rfl
          clear c45;obtain rfl:=sI hst;have HE:=Lib.hid (E1.out (by decide));clear hst hL hD E0 E1 Hc;go_wp2_with (first|(go_at_call 127;refine (cL _).mono ?_;rintro e w2 ⟨rfl,⟨n1,rfl⟩⟩)|(go_at_call 128;refine (cD _).mono ?_;rintro e w2 ⟨rfl,⟨n2,rfl⟩⟩))
          go_roundw
          case rel=>exact ⟨_,f,_,rfl,hit2,(by repeat (first|exact hbw2|apply pw_below_drewN)),HE⟩
          case measure=>
           have hwd:=Hwd.out;have hd1:=Hd1.out;have hm:∀ (X:World) n b,(X.drewN n).iterPos b=X.iterPos b:=fun _ _ _=>rfl
           (try simp only [hm]);simp only [World.iterPos,hit2,hit]
           omega
         rw [if_neg c45] at hst;have k45:(c == 45)=false:=beq_eq_false_iff_ne.2 c45;clear c45;obtain rfl:=sI hst;obtain rfl:=E0.out rfl;clear hst hL hD E0 E1 Hc;go_wp2_with (first|(go_at_call 127;refine (cL _).mono ?_;rintro e w2 ⟨rfl,⟨n1,rfl⟩⟩)|(go_at_call 128;refine (cD _).mono ?_;rintro e w2 ⟨rfl,⟨n2,rfl⟩⟩));go_ret;exact ⟨rfl,(by repeat (first|exact hbw2|apply pw_below_drewN))⟩
     ·rw [if_neg hp] at hgo
      obtain rfl:=sI hgo;have hnx:∀ ty,(Instr.next (.pointer (some ⟨w1.heap.size,0,none⟩)) true ty).run Tryz.prog wr=_:=fun ty=>Lib.run_next_end_at wr w1.heap.size a0 pos ty hit hp
      go_wp2;go_ret;exact ⟨rfl,hbw⟩
  ·rw [if_neg hv] at h
   obtain rfl:=sI h;rw [Bool.eq_false_iff.2 hv] at cV;clear hv;go_enter Tryz.func84,Tryz.ntmps84;go_wp2_with (go_at_call 105;refine cV.mono ?_;rintro e w1 ⟨rfl,hb1⟩);go_ret;exact ⟨rfl,hb1⟩
 ·cases h
def utf8_RuneCountInString.f (a0:ByteArray):Option Int:=if a0.size<9223372036854775807 then some (Lib.runeCount a0:Int) else none
theorem utf8_RuneCountInString.calls (a0:ByteArray) (r:Int) (w:World) (h:utf8_RuneCountInString.f a0=some r):
  Calls Tryz.prog 85 #[.string a0] w fun e w'=>e=.returned (.int .i64 r)∧Below w.heap.size w w':=by
 unfold utf8_RuneCountInString.f at h
 split at h
 ·rename_i hs
  obtain rfl:=sI h;refine (Tryz.utf8_RuneCountInString a0 w hs).mono ?_;rintro e w' ⟨he,pos,rfl⟩;exact ⟨he,(Below.refl _ w).alloc (Nat.le_refl _) _⟩
 ·cases h
def strings_Count.f (a0:ByteArray) (a1:ByteArray):Option Int:=if a1.size=1 then some (Lib.countByte a0.data.toList (a1.data.toList.getD 0 0):Int) else none
theorem strings_Count.calls (a0:ByteArray) (a1:ByteArray) (r:Int) (w:World) (h:strings_Count.f a0 a1=some r):
  Calls Tryz.prog 86 #[.string a0,.string a1] w fun e w'=>e=.returned (.int .i64 r)∧Drawn0 w w':=by
 unfold strings_Count.f at h
 split at h
 ·rename_i hs
  obtain rfl:=sI h
  obtain ⟨c,rfl⟩:∃ c:UInt8,a1=⟨#[c]⟩:=by
   obtain ⟨⟨l⟩⟩:=a1
   match l,hs with
   | [c],_=>exact ⟨c,rfl⟩
  refine (Tryz.strings_Count_one a0 c w).mono ?_;rintro e w' ⟨he,rfl⟩;exact ⟨he,Drawn0.refl _⟩
 ·cases h
def name_Check.f (k:Nat) (a0:ByteArray):Option (Int):=(name_formed.f k a0).bind fun t129=>(if t129=true then ((utf8_RuneCountInString.f a0).bind fun t130=>(if t130>40 then (some 2) else ((strings_Count.f a0 (⟨#[46]⟩:ByteArray)).bind fun t131=>(if t131≥5 then (some 2) else (some 0))))) else (some 3))
theorem name_Check.calls (k:Nat) (a0:ByteArray) (r:Int) (w:World) (hT:Tabs w) (h:name_Check.f k a0=some r):
  Calls Tryz.prog 41 #[.string a0] w fun e w'=>e=.returned (.int .i64 r)∧Below w.heap.size w w':=by
 have HB:=aM (Below.refl w.heap.size w);unfold name_Check.f at h;have H:=h;clear h;have HT:=aM hT;clear hT;replace H:=bnA H;obtain ⟨t129,A2,H⟩:=H;revert H;refine itR ?L5p ?L5n
 case' L5p=>
  intro c3 H;subst c3;replace H:=bnA H;obtain ⟨t130,A4,H⟩:=H;revert H;refine itR ?L6p ?L6n
  case' L6p=>
   intro c5 H;have c5b0:=gtT c5;clear c5;obtain rfl:=sI H;have M1:=trivial;have M2:=trivial
  case' L6n=>
   intro c5 H;have c5b0:=gtF c5;clear c5;replace H:=bnA H;obtain ⟨t131,A6,H⟩:=H;revert H;refine itR ?L7p ?L7n
   case' L7p=>
    intro c7 H;have c7b0:=geT c7;clear c7;obtain rfl:=sI H;have M1:=trivial;have M3:=trivial
   case' L7n=>
    intro c7 H;have c7b0:=geF c7;clear c7;obtain rfl:=sI H;have M1:=trivial;have M3:=trivial
 case' L5n=>
  intro c3 H;replace c3:=Bool.eq_false_iff.mpr c3;subst c3;obtain rfl:=sI H;have M4:=trivial
 all_goals
  case _=>
   go_enter Tryz.func41,Tryz.ntmps41;go_wp2_with (first|((with_reducible refine gate_callee (f:=84) rfl ?_);refine goesA (some 5) Tryz.func84 #[.string a0] ?_;(with_reducible refine (name_formed.calls _ _ _ _ ?side1 A2.out).mono ?_);(case side1=>exact Tabs.below HT.out (bwA));rintro e w101 ⟨rfl,hb⟩;refine ⟨_,rfl,?_⟩;replace HB:=aM (below_step (bwA) hb);(try clear hb);apply stopA;(case other=>exact trivial)))
   case _=>
    first
     | clear M1
       go_wp2_with (first|((with_reducible refine gate_callee (f:=85) rfl ?_);refine goesA (some 9) Tryz.func85 #[.string a0] ?_;(with_reducible refine (utf8_RuneCountInString.calls _ _ _ A4.out).mono ?_);rintro e w102 ⟨rfl,hb⟩;refine ⟨_,rfl,?_⟩;replace HB:=aM (below_step (bwA) hb);(try clear hb);apply stopA;(case other=>exact trivial)))
       case _=>
        first
         | clear M2
           (try go_wp2_with (fail))
           go_ret;exact ⟨endA,bwA⟩
         | clear M3
           (try go_wp2_with (first|(go_at_call 86;(with_reducible refine (strings_Count.calls _ _ _ _ A6.out).mono ?_);rintro e w' ⟨rfl,⟨nd,rfl⟩⟩)));go_ret;exact ⟨endA,bwA⟩
     | clear M4
       (try go_wp2_with (fail))
       go_ret;exact ⟨endA,bwA⟩
def strings_Split.f (a0:ByteArray) (a1:ByteArray):Option (List ByteArray):=if a0.size<4294967281 then (if 1≤a1.size then some (Lib.splitB a1 0 (Lib.countB a0 a1) a0) else none) else none
theorem strings_Split.calls (a0:ByteArray) (a1:ByteArray) (r:List ByteArray) (w:World) (hT:Tabs w) (h:strings_Split.f a0 a1=some r):
  Calls Tryz.prog 174 #[.string a0,.string a1] w fun e w'=>∃ v0_:Value,e=.returned (v0_)∧Kd.R Kd.string 9 w' w.heap.size (fun _=>True) v0_ r∧Below w.heap.size w w':=by
 unfold strings_Split.f at h
 split at h
 ·rename_i hs
  split at h
  ·rename_i h1
   obtain rfl:=sI h;obtain ⟨m,hm⟩:=hT.ml;refine (Tryz.strings_Split a0 a1 m w hs hm h1).mono ?_;rintro e w' ⟨rfl,rfl⟩;have hlen:=Lib.splitB_all a1 h1 0 _ a0 rfl;have hle:=Lib.countB_le a1 h1 a0.size a0 (Nat.le_refl _);refine ⟨_,rfl,⟨fun _ _=>trivial,?_⟩,(Below.refl _ w).alloc (Nat.le_refl _) _⟩;have:=OwnRow.lit (R:=fun (x:ByteArray) (cs:List Value)=>cs=[Value.string x]) (e:=9) (size:=1) w w.heap.size (Kd.reps_scalar (enc:=Value.string) (Lib.splitB a1 0 (Lib.countB a0 a1) a0)) (Nat.le_refl _) (by rw [hlen];omega);rw [hlen] at this;exact this
  ·cases h
 ·cases h
def name_Parts.f (k:Nat) (a0:ByteArray):Option (List ByteArray):=(name_Check.f k a0).bind fun t132=>(if t132=0 then ((strings_Split.f a0 (⟨#[46]⟩:ByteArray)).bind fun t133=>(some t133)) else (some ([]:List ByteArray)))
theorem name_Parts.calls (k:Nat) (a0:ByteArray) (r:List ByteArray) (w:World) (hT:Tabs w) (h:name_Parts.f k a0=some r):
  Calls Tryz.prog 164 #[.string a0] w fun e w'=>∃ v0_:Value,e=.returned (v0_)∧Kd.R Kd.string 9 w' w.heap.size (fun _=>True) v0_ r∧Below w.heap.size w w':=by
 have HB:=aM (Below.refl w.heap.size w);unfold name_Parts.f at h;have H:=h;clear h;have HT:=aM hT;clear hT;replace H:=bnA H;obtain ⟨t132,A2,H⟩:=H;revert H;refine itQ ?L3p ?L3n
 case' L3p=>
  rintro ⟨c3b0,c3b1⟩ H;replace H:=bnA H;obtain ⟨t133,A4,H⟩:=H;obtain rfl:=sI H;have M1:=trivial
 case' L3n=>
  rintro ⟨c3b0,c3b1⟩ c3 H;obtain rfl:=sI H;have M2:=trivial
 all_goals
  case _=>
   go_enter Tryz.func164,Tryz.ntmps164;go_wp2_with (first|((with_reducible refine gate_callee (f:=41) rfl ?_);refine goesA (some 4) Tryz.func41 #[.string a0] ?_;(with_reducible refine (name_Check.calls _ _ _ _ ?side1 A2.out).mono ?_);(case side1=>exact Tabs.below HT.out (bwA));rintro e w101 ⟨rfl,hb⟩;refine ⟨_,rfl,?_⟩;replace HB:=aM (below_step (bwA) hb);(try clear hb);apply stopA;(case other=>exact trivial)))
   case _=>
    first
     | clear M1
       (try go_wp2_with (first|((with_reducible refine gate_callee (f:=174) rfl ?_);refine goesA (some 7) Tryz.func174 #[.string a0,.string (⟨#[46]⟩:ByteArray)] ?_;(with_reducible refine (strings_Split.calls _ _ _ _ ?side1 A4.out).mono ?_);(case side1=>exact Tabs.below HT.out (bwA));rintro e w102 ⟨v134,rfl,ho0,hb⟩;refine ⟨_,rfl,?_⟩;have HO135:=aM (Kd.R_lower ho0 (below_size (bwA)));replace HB:=aM (below_step (bwA) hb);(try clear hb);(try clear ho0))));go_ret;exact ⟨_,endA,raA HO135.out,bwA⟩
     | clear M2
       (try go_wp2_with (fail))
       go_ret;exact ⟨_,endA,by first|exact Kd.R_nil _ _ _ _ _|exact Kd.N_nil _ _ _ _ _|exact Kd.V_nil _ _ _ _ _|exact Kd.Q_nil _ _ _ _ _|exact Kd.S_nil _ _ _ _ _,bwA⟩
def schema_simple.f (k:Nat) (a0:ByteArray):Option (Bool):=(name_Check.f k a0).bind fun t136=>(if t136=0 then ((name_Parts.f k a0).bind fun t137=>(some ((t137.length:Int) == 1))) else (some false))
theorem schema_simple.calls (k:Nat) (a0:ByteArray) (r:Bool) (w:World) (hT:Tabs w) (h:schema_simple.f k a0=some r):
  Calls Tryz.prog 133 #[.string a0] w fun e w'=>e=.returned (.bool r)∧Below w.heap.size w w':=by
 have HB:=aM (Below.refl w.heap.size w);unfold schema_simple.f at h;have H:=h;clear h;have HT:=aM hT;clear hT;replace H:=bnA H;obtain ⟨t136,A2,H⟩:=H;revert H;refine itQ ?L3p ?L3n
 case' L3p=>
  rintro ⟨c3b0,c3b1⟩ H;replace H:=bnA H;obtain ⟨t137,A4,H⟩:=H;obtain rfl:=sI H;have M1:=trivial
 case' L3n=>
  rintro ⟨c3b0,c3b1⟩ c3 H;obtain rfl:=sI H;have M2:=trivial
 all_goals
  case _=>
   go_enter Tryz.func133,Tryz.ntmps133;go_wp2_with (first|((with_reducible refine gate_callee (f:=41) rfl ?_);refine goesA (some 4) Tryz.func41 #[.string a0] ?_;(with_reducible refine (name_Check.calls _ _ _ _ ?side1 A2.out).mono ?_);(case side1=>exact Tabs.below HT.out (bwA));rintro e w101 ⟨rfl,hb⟩;refine ⟨_,rfl,?_⟩;replace HB:=aM (below_step (bwA) hb);(try clear hb);apply stopA;(case other=>exact trivial)))
   case _=>
    first
     | clear M1
       (try go_wp2_with (first|(go_at_call 164;(with_reducible refine (name_Parts.calls _ _ _ _ ?side1 A4.out).mono ?_);(case side1=>exact Tabs.below HT.out (bwA));rintro e w102 ⟨v138,rfl,ho0,hb⟩;have HO139:=aM (Kd.R_lower ho0 (below_size (bwA)));replace HB:=aM (below_step (bwA) hb);(try clear hb);(try clear ho0);obtain ⟨Ao103,co103,eo103⟩:=Kd.R_slice HO139.out;subst eo103)));go_ret;exact ⟨endA,bwA⟩
     | clear M2
       (try go_wp2_with (fail))
       go_ret;exact ⟨endA,bwA⟩
def schema_word.f (a0:Int):Option ByteArray:=some (if a0=1 then ⟨#[105,110,116]⟩ else if a0=2 then ⟨#[116,101,120,116]⟩ else if a0=3 then ⟨#[98,111,111,108]⟩ else if a0=4 then ⟨#[98,121,116,101,115]⟩ else ⟨#[]⟩)
theorem schema_word.calls (a0:Int) (r:ByteArray) (w:World) (h:schema_word.f a0=some r):
  Calls Tryz.prog 134 #[.int .i64 a0] w fun e w'=>e=.returned (.string r)∧Below w.heap.size w w':=by
 unfold schema_word.f at h;obtain rfl:=sI h;clear h
 by_cases h1:a0≤0
 ·rw [if_neg (by omega),if_neg (by omega),if_neg (by omega),if_neg (by omega)]
  go_enter Tryz.func134,Tryz.ntmps134;go_wp2;go_ret;exact ⟨rfl,(Below.refl _ w).alloc (Nat.le_refl _) _⟩
 by_cases h2:a0≥5
 ·rw [if_neg (by omega),if_neg (by omega),if_neg (by omega),if_neg (by omega)]
  go_enter Tryz.func134,Tryz.ntmps134;go_wp2;go_ret;exact ⟨rfl,(Below.refl _ w).alloc (Nat.le_refl _) _⟩
 have h3:a0=1∨a0=2∨a0=3∨a0=4:=by omega
 clear h1 h2
 rcases h3 with rfl|rfl|rfl|rfl
 all_goals
  go_enter Tryz.func134,Tryz.ntmps134;go_wp2;go_ret;exact ⟨rfl,(Below.refl _ w).alloc (Nat.le_refl _) _⟩
def schema_field.f (k:Nat) (a0_0:ByteArray) (a0_1:Int) (a0_2:Bool):Option (Bool):=(schema_simple.f k a0_0).bind fun t141=>(if t141=true then ((schema_word.f a0_1).bind fun t142=>(some (t142.toList != ([]:List UInt8)))) else (some false))
theorem schema_field.calls (k:Nat) (a0_0:ByteArray) (a0_1:Int) (a0_2:Bool) (r:Bool) (w:World) (hT:Tabs w) (h:schema_field.f k a0_0 a0_1 a0_2=some r):
  Calls Tryz.prog 93 #[.agg #[.string a0_0,.int .i64 a0_1,.bool a0_2]] w fun e w'=>e=.returned (.bool r)∧Below w.heap.size w w':=by
 have hu86:=Tryz.underlying86;have HB:=aM (Below.refl w.heap.size w);unfold schema_field.f at h;have H:=h;clear h;have HT:=aM hT;clear hT;replace H:=bnA H;obtain ⟨t141,A2,H⟩:=H;revert H;refine itR ?L3p ?L3n
 case' L3p=>
  intro c3 H;subst c3;replace H:=bnA H;obtain ⟨t142,A4,H⟩:=H;obtain rfl:=sI H;have M1:=trivial
 case' L3n=>
  intro c3 H;replace c3:=Bool.eq_false_iff.mpr c3;subst c3;obtain rfl:=sI H;have M2:=trivial
 all_goals
  case _=>
   go_enter Tryz.func93,Tryz.ntmps93;go_wp2_with (first|((with_reducible refine gate_dst (N:=1) rfl ?_);refine boxB 1 #[.string a0_0,.int .i64 a0_1,.bool a0_2] 86 HB ?_;clear HB;intro gb140 w101 BK140 GW140 GE140 HB;obtain ⟨hcz102_0,hcz102_1,hcz102_2⟩:=cel3 BK140.out;obtain ⟨hfz102_0,hfz102_1,hfz102_2⟩:=frz3 BK140.out)|((with_reducible refine gate_callee (f:=133) rfl ?_);refine goesA (some 5) Tryz.func133 #[.string a0_0] ?_;(with_reducible refine (schema_simple.calls _ _ _ _ ?side1 A2.out).mono ?_);(case side1=>exact Tabs.below HT.out (bwA));rintro e w103 ⟨rfl,hb⟩;refine ⟨_,rfl,?_⟩;replace BK140:=aM (bkB BK140 hb);replace HB:=aM (below_step (bwA) hb);(try clear hb);apply stopA;(case other=>exact trivial)))
   case _=>
    first
     | clear M1
       obtain ⟨hcz104_0,hcz104_1,hcz104_2⟩:=cel3 BK140.out;obtain ⟨hfz104_0,hfz104_1,hfz104_2⟩:=frz3 BK140.out;(try go_wp2_with (first|(go_at_call 134;(with_reducible refine (schema_word.calls _ _ _ A4.out).mono ?_);rintro e w105 ⟨rfl,hb⟩;replace BK140:=aM (bkB BK140 hb);replace HB:=aM (below_step (bwA) hb);(try clear hb))));go_ret;exact ⟨endA,bwA⟩
     | clear M2
       (try go_wp2_with (fail))
       go_ret;exact ⟨endA,bwA⟩
end Go.Proofs.YtpjjbaclphoilaaGreatDoor.A
