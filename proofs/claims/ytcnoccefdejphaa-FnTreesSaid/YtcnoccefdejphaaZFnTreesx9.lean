/- Lean functions for the Go functions that the law FnTrees reaches, and that each Go function comes to just its Lean function's answer; by a program of this session. -/
import Derived.Test.YtcnoccefdejphaaZFnTreesx0
import Derived.Test.YtcnoccefdejphaaZFnTreesx5
import Derived.Test.YtcnoccefdejphaaZFnTreesx8
namespace Go.Proofs.Ytcnoccefdejphaa.QFnTrees
open Go.RowKit Go.Proofs.YtcnoccefdejphaaW.PrintWords Go.Proofs.YtcnoccefdejphaaW.PrintLast Go.Proofs.YtcnoccefdejphaaW.PrintMore
attribute [local go_sem] max2_int min2_int max_two min_two max_three min_three max_four min_four   -- for this text's walks alone
set_option linter.unusedVariables false
set_option linter.unusedSimpArgs false

/-! ### impl_reader_num: function 98 -/
def impl_reader_num.f (k : Nat) (s0_0 : ByteArray) (s0_1 : Int) (s0_2 : Bool) : Option (Int × ByteArray × Int × Bool):=(impl_ReadVar.f k s0_0 s0_1).bind fun bt409=>(if s0_2 = true then (some (0,s0_0,s0_1,true)) else (if bt409.2.2 = true then (some (bt409.1,s0_0,bt409.2.1,s0_2)) else (some (0,s0_0,s0_1,true))))
theorem impl_reader_num.mono : ∀ a0 a1 a2 k,LeO (impl_reader_num.f k a0 a1 a2) (impl_reader_num.f (k + 1) a0 a1 a2):=by
 intro a0 a1 a2 k
 unfold impl_reader_num.f
 repeat' first|(with_reducible first|exact impl_ReadVar.mono _ _ _|exact LeO.refl _|exact LeO.none _|refine LeO.ite ?_ ?_|refine LeO.bind ?_ (fun _=>?_))|exact impl_ReadVar.mono _ _ _|exact LeO.none _|refine LeO.ite ?_ ?_|refine LeO.bind ?_ (fun _=>?_)
set_option maxHeartbeats 8000000 in
set_option maxRecDepth 100000 in
theorem impl_reader_num.calls (k : Nat) (g : Nat) (s0_0 : ByteArray) (s0_1 : Int) (s0_2 : Bool) (r1 : Int) (r2 : ByteArray) (r3 : Int) (r4 : Bool) (w0 w : World) (hI : IsS132 w0 w g s0_0 s0_1 s0_2) (hB : Below w0.heap.size w0 w) (h : impl_reader_num.f k s0_0 s0_1 s0_2 = some (r1,r2,r3,r4)) :
  Calls Try.prog 98 #[.pointer (some ⟨g,0,none⟩)] w fun e w'=>e = .returned (.int .i64 r1) ∧ IsS132 w0 w' g r2 r3 r4 ∧ Below w0.heap.size w0 w' ∧ KeepBut w w' g none:=by
 have HI0:=qo.mk hI
 have HK:=qo.mk (KeepBut.refl w g none)
 have HL:=qo.mk hB.size
 clear hI
 have HW0:=qo.mk hB.size
 have HB:=qo.mk hB
 clear hB
 have H : ((impl_ReadVar.f k s0_0 s0_1).bind fun bt409=>(if s0_2 = true then (some (0,s0_0,s0_1,true)) else (if bt409.2.2 = true then (some (bt409.1,s0_0,bt409.2.1,s0_2)) else (some (0,s0_0,s0_1,true))))) = some (r1,r2,r3,r4):=h
 clear h
 replace H:=Option.bind_eq_some_iff.mp H
 obtain ⟨⟨t409,t410,t411⟩,A20,H⟩:=H
 replace H : (if s0_2 = true then (some (0,s0_0,s0_1,true)) else (if t411 = true then (some (t409,s0_0,t410,s0_2)) else (some (0,s0_0,s0_1,true)))) = some (r1,r2,r3,r4):=H
 have A2:=qo.mk A20
 clear A20
 by_cases c3 : s0_2 = true
 ·subst c3
  have H1 : (some (0,s0_0,s0_1,true)) = some (r1,r2,r3,r4):=by rw [if_pos rfl] at H;exact H
  clear H
  have H:=H1
  clear H1
  simp only [Option.some.injEq,Prod.mk.injEq] at H
  obtain ⟨rfl,rfl,rfl,rfl⟩:=H
  obtain ⟨HGz4,hgz4⟩:=HI0.out
  have hcz4_0:=cellS132_0 HGz4
  have hcz4_1:=cellS132_1 HGz4
  have hcz4_2:=cellS132_2 HGz4
  have hfz4_0:=qj HGz4 0
  have hfz4_1:=qj HGz4 1
  have hfz4_2:=qj HGz4 2
  clear HGz4 hgz4
  go_enter Try.func98,Try.ntmps98
  go_wp2_with (first|(go_at_call 104;(with_reducible refine (impl_ReadVar.calls k s0_0 s0_1 t409 t410 t411 _ A2.out).mono ?_);rintro e w' ⟨rfl,⟨nd,rfl⟩⟩;(try first|exact ⟨rfl,_,World.drewN_drewN _ _ _⟩|exact ⟨rfl,_,Eq.trans (World.drewN_drewN _ _ _) (congrArg (World.drewN _) (Nat.add_assoc _ _ _))⟩)))
  repeat (go_quiet (first|(go_at_call 104;(with_reducible refine (impl_ReadVar.calls k s0_0 s0_1 t409 t410 t411 _ A2.out).mono ?_);rintro e w' ⟨rfl,⟨nd,rfl⟩⟩;(try first|exact ⟨rfl,_,World.drewN_drewN _ _ _⟩|exact ⟨rfl,_,Eq.trans (World.drewN_drewN _ _ _) (congrArg (World.drewN _) (Nat.add_assoc _ _ _))⟩)));try go_wp2_with (first|(go_at_call 104;(with_reducible refine (impl_ReadVar.calls k s0_0 s0_1 t409 t410 t411 _ A2.out).mono ?_);rintro e w' ⟨rfl,⟨nd,rfl⟩⟩;(try first|exact ⟨rfl,_,World.drewN_drewN _ _ _⟩|exact ⟨rfl,_,Eq.trans (World.drewN_drewN _ _ _) (congrArg (World.drewN _) (Nat.add_assoc _ _ _))⟩))))
  go_ret
  exact ⟨rt_,by repeat (first|(with_reducible first|exact HI0.out|apply IsS132.alloc|apply IsS132.drewN|apply IsS132.drew|apply IsS132.set_0|apply IsS132.set_1|apply IsS132.set_2)|exact HI0.out),by repeat (first|(with_reducible first|exact HB.out|apply qf|apply qa|apply qd|refine qg ?_ (IsS132.ge HI0.out))|exact HB.out),by repeat (first|(with_reducible first|exact HK.out|apply KeepBut.set_|apply keep_drewN|apply keep_drew|apply keep_alloc)|exact HK.out)⟩
 replace c3:=Bool.eq_false_iff.mpr c3
 subst c3
 have H1 : (if t411 = true then (some (t409,s0_0,t410,false)) else (some (0,s0_0,s0_1,true))) = some (r1,r2,r3,r4):=by rw [if_neg (show ¬ (false = true) by decide)] at H;exact H
 clear H
 have H:=H1
 clear H1
 by_cases c5 : t411 = true
 ·subst c5
  have H1 : (some (t409,s0_0,t410,false)) = some (r1,r2,r3,r4):=by rw [if_pos rfl] at H;exact H
  clear H
  have H:=H1
  clear H1
  simp only [Option.some.injEq,Prod.mk.injEq] at H
  obtain ⟨rfl,rfl,rfl,rfl⟩:=H
  obtain ⟨HGz6,hgz6⟩:=HI0.out
  have hcz6_0:=cellS132_0 HGz6
  have hcz6_1:=cellS132_1 HGz6
  have hcz6_2:=cellS132_2 HGz6
  have hfz6_0:=qj HGz6 0
  have hfz6_1:=qj HGz6 1
  have hfz6_2:=qj HGz6 2
  clear HGz6 hgz6
  go_enter Try.func98,Try.ntmps98
  go_wp2_with (first|(go_at_call 104;(with_reducible refine (impl_ReadVar.calls k s0_0 s0_1 t409 t410 true _ A2.out).mono ?_);rintro e w' ⟨rfl,⟨nd,rfl⟩⟩;(try first|exact ⟨rfl,_,World.drewN_drewN _ _ _⟩|exact ⟨rfl,_,Eq.trans (World.drewN_drewN _ _ _) (congrArg (World.drewN _) (Nat.add_assoc _ _ _))⟩)))
  repeat (go_quiet (first|(go_at_call 104;(with_reducible refine (impl_ReadVar.calls k s0_0 s0_1 t409 t410 true _ A2.out).mono ?_);rintro e w' ⟨rfl,⟨nd,rfl⟩⟩;(try first|exact ⟨rfl,_,World.drewN_drewN _ _ _⟩|exact ⟨rfl,_,Eq.trans (World.drewN_drewN _ _ _) (congrArg (World.drewN _) (Nat.add_assoc _ _ _))⟩)));try go_wp2_with (first|(go_at_call 104;(with_reducible refine (impl_ReadVar.calls k s0_0 s0_1 t409 t410 true _ A2.out).mono ?_);rintro e w' ⟨rfl,⟨nd,rfl⟩⟩;(try first|exact ⟨rfl,_,World.drewN_drewN _ _ _⟩|exact ⟨rfl,_,Eq.trans (World.drewN_drewN _ _ _) (congrArg (World.drewN _) (Nat.add_assoc _ _ _))⟩))))
  go_ret
  exact ⟨rt_,by repeat (first|(with_reducible first|exact HI0.out|apply IsS132.alloc|apply IsS132.drewN|apply IsS132.drew|apply IsS132.set_0|apply IsS132.set_1|apply IsS132.set_2)|exact HI0.out),by repeat (first|(with_reducible first|exact HB.out|apply qf|apply qa|apply qd|refine qg ?_ (IsS132.ge HI0.out))|exact HB.out),by repeat (first|(with_reducible first|exact HK.out|apply KeepBut.set_|apply keep_drewN|apply keep_drew|apply keep_alloc)|exact HK.out)⟩
 replace c5:=Bool.eq_false_iff.mpr c5
 subst c5
 have H1 : (some (0,s0_0,s0_1,true)) = some (r1,r2,r3,r4):=by rw [if_neg (show ¬ (false = true) by decide)] at H;exact H
 clear H
 have H:=H1
 clear H1
 simp only [Option.some.injEq,Prod.mk.injEq] at H
 obtain ⟨rfl,rfl,rfl,rfl⟩:=H
 obtain ⟨HGz7,hgz7⟩:=HI0.out
 have hcz7_0:=cellS132_0 HGz7
 have hcz7_1:=cellS132_1 HGz7
 have hcz7_2:=cellS132_2 HGz7
 have hfz7_0:=qj HGz7 0
 have hfz7_1:=qj HGz7 1
 have hfz7_2:=qj HGz7 2
 clear HGz7 hgz7
 go_enter Try.func98,Try.ntmps98
 go_wp2_with (first|(go_at_call 104;(with_reducible refine (impl_ReadVar.calls k s0_0 s0_1 t409 t410 false _ A2.out).mono ?_);rintro e w' ⟨rfl,⟨nd,rfl⟩⟩;(try first|exact ⟨rfl,_,World.drewN_drewN _ _ _⟩|exact ⟨rfl,_,Eq.trans (World.drewN_drewN _ _ _) (congrArg (World.drewN _) (Nat.add_assoc _ _ _))⟩)))
 repeat (go_quiet (first|(go_at_call 104;(with_reducible refine (impl_ReadVar.calls k s0_0 s0_1 t409 t410 false _ A2.out).mono ?_);rintro e w' ⟨rfl,⟨nd,rfl⟩⟩;(try first|exact ⟨rfl,_,World.drewN_drewN _ _ _⟩|exact ⟨rfl,_,Eq.trans (World.drewN_drewN _ _ _) (congrArg (World.drewN _) (Nat.add_assoc _ _ _))⟩)));try go_wp2_with (first|(go_at_call 104;(with_reducible refine (impl_ReadVar.calls k s0_0 s0_1 t409 t410 false _ A2.out).mono ?_);rintro e w' ⟨rfl,⟨nd,rfl⟩⟩;(try first|exact ⟨rfl,_,World.drewN_drewN _ _ _⟩|exact ⟨rfl,_,Eq.trans (World.drewN_drewN _ _ _) (congrArg (World.drewN _) (Nat.add_assoc _ _ _))⟩))))
 go_ret
 exact ⟨rt_,by repeat (first|(with_reducible first|exact HI0.out|apply IsS132.alloc|apply IsS132.drewN|apply IsS132.drew|apply IsS132.set_0|apply IsS132.set_1|apply IsS132.set_2)|exact HI0.out),by repeat (first|(with_reducible first|exact HB.out|apply qf|apply qa|apply qd|refine qg ?_ (IsS132.ge HI0.out))|exact HB.out),by repeat (first|(with_reducible first|exact HK.out|apply KeepBut.set_|apply keep_drewN|apply keep_drew|apply keep_alloc)|exact HK.out)⟩

/-! ### impl_ReadShort: function 105 -/
def impl_ReadShort.f (k : Nat) (a0 : ByteArray) (a1 : Int) : Option (ByteArray × Int × Bool):=(impl_ReadVar.f k a0 a1).bind fun bt412=>(if bt412.2.2 = true then (if bt412.1 > 8000 then (some ((⟨#[]⟩ : ByteArray),0,false)) else (if bt412.1 > (wrap64 ((a0.size : Int) - bt412.2.1)) then (some ((⟨#[]⟩ : ByteArray),0,false)) else (if 0 ≤ bt412.2.1 then (if bt412.2.1 ≤ (wrap64 (bt412.2.1 + bt412.1)) then (if (wrap64 (bt412.2.1 + bt412.1)) ≤ (a0.size : Int) then (some (a0.extract (bt412.2.1 : Int).toNat ((wrap64 (bt412.2.1 + bt412.1)) : Int).toNat,wrap64 (bt412.2.1 + bt412.1),true)) else (none)) else (none)) else (none)))) else (some ((⟨#[]⟩ : ByteArray),0,false)))
theorem impl_ReadShort.mono : ∀ a0 a1 k,LeO (impl_ReadShort.f k a0 a1) (impl_ReadShort.f (k + 1) a0 a1):=by
 intro a0 a1 k
 unfold impl_ReadShort.f
 repeat' first|(with_reducible first|exact impl_ReadVar.mono _ _ _|exact LeO.refl _|exact LeO.none _|refine LeO.ite ?_ ?_|refine LeO.bind ?_ (fun _=>?_))|exact impl_ReadVar.mono _ _ _|exact LeO.none _|refine LeO.ite ?_ ?_|refine LeO.bind ?_ (fun _=>?_)
set_option maxHeartbeats 8000000 in
set_option maxRecDepth 100000 in
theorem impl_ReadShort.calls (k : Nat) (a0 : ByteArray) (a1 : Int) (r1 : ByteArray) (r2 : Int) (r3 : Bool) (w : World) (h : impl_ReadShort.f k a0 a1 = some (r1,r2,r3)) :
  Calls Try.prog 105 #[.string a0,.int .i64 a1] w fun e w'=>e = .returned (.tuple #[.string r1,.int .i64 r2,.bool r3]) ∧ Drawn0 w w':=by
 have H : ((impl_ReadVar.f k a0 a1).bind fun bt412=>(if bt412.2.2 = true then (if bt412.1 > 8000 then (some ((⟨#[]⟩ : ByteArray),0,false)) else (if bt412.1 > (wrap64 ((a0.size : Int) - bt412.2.1)) then (some ((⟨#[]⟩ : ByteArray),0,false)) else (if 0 ≤ bt412.2.1 then (if bt412.2.1 ≤ (wrap64 (bt412.2.1 + bt412.1)) then (if (wrap64 (bt412.2.1 + bt412.1)) ≤ (a0.size : Int) then (some (a0.extract (bt412.2.1 : Int).toNat ((wrap64 (bt412.2.1 + bt412.1)) : Int).toNat,wrap64 (bt412.2.1 + bt412.1),true)) else (none)) else (none)) else (none)))) else (some ((⟨#[]⟩ : ByteArray),0,false)))) = some (r1,r2,r3):=h
 clear h
 replace H:=Option.bind_eq_some_iff.mp H
 obtain ⟨⟨t412,t413,t414⟩,A30,H⟩:=H
 replace H : (if t414 = true then (if t412 > 8000 then (some ((⟨#[]⟩ : ByteArray),0,false)) else (if t412 > (wrap64 ((a0.size : Int) - t413)) then (some ((⟨#[]⟩ : ByteArray),0,false)) else (if 0 ≤ t413 then (if t413 ≤ (wrap64 (t413 + t412)) then (if (wrap64 (t413 + t412)) ≤ (a0.size : Int) then (some (a0.extract (t413 : Int).toNat ((wrap64 (t413 + t412)) : Int).toNat,wrap64 (t413 + t412),true)) else (none)) else (none)) else (none)))) else (some ((⟨#[]⟩ : ByteArray),0,false))) = some (r1,r2,r3):=H
 have A3:=qo.mk A30
 clear A30
 by_cases c4 : t414 = true
 ·subst c4
  have H1 : (if t412 > 8000 then (some ((⟨#[]⟩ : ByteArray),0,false)) else (if t412 > (wrap64 ((a0.size : Int) - t413)) then (some ((⟨#[]⟩ : ByteArray),0,false)) else (if 0 ≤ t413 then (if t413 ≤ (wrap64 (t413 + t412)) then (if (wrap64 (t413 + t412)) ≤ (a0.size : Int) then (some (a0.extract (t413 : Int).toNat ((wrap64 (t413 + t412)) : Int).toNat,wrap64 (t413 + t412),true)) else (none)) else (none)) else (none)))) = some (r1,r2,r3):=by rw [if_pos rfl] at H;exact H
  clear H
  have H:=H1
  clear H1
  by_cases c5 : t412 > 8000
  ·rw [if_pos c5] at H
   have c5b0 : decide (8000 < t412) = true:=decide_eq_true c5
   clear c5
   simp only [Option.some.injEq,Prod.mk.injEq] at H
   obtain ⟨rfl,rfl,rfl⟩:=H
   go_enter Try.func105,Try.ntmps105
   go_wp2_with (first|((with_reducible refine gate_callee (f:=104) rfl ?_);refine goesL_ (some 13) rfl rfl Try.func104 (by kernel_rfl) rfl #[.string a0,.int .i64 a1] rfl sm_ ?_;(with_reducible refine (impl_ReadVar.calls k a0 a1 t412 t413 true _ A3.out).mono ?_);rintro e w' ⟨rfl,⟨nd,rfl⟩⟩;refine ⟨_,rfl,?_⟩))
   go_ret3
   exact ⟨by first|rfl|(simp;done)|(simp [*];done),by repeat (first|exact Drawn0.refl _|apply Drawn0.step)⟩
  rw [if_neg c5] at H
  have c5b0 : decide (8000 < t412) = false:=decide_eq_false c5
  clear c5
  by_cases c6 : t412 > (wrap64 ((a0.size : Int) - t413))
  ·rw [if_pos c6] at H
   have c6b0 : decide ((wrap64 ((a0.size : Int) - t413)) < t412) = true:=decide_eq_true c6
   clear c6
   simp only [Option.some.injEq,Prod.mk.injEq] at H
   obtain ⟨rfl,rfl,rfl⟩:=H
   go_enter Try.func105,Try.ntmps105
   go_wp2_with (first|((with_reducible refine gate_callee (f:=104) rfl ?_);refine goesL_ (some 13) rfl rfl Try.func104 (by kernel_rfl) rfl #[.string a0,.int .i64 a1] rfl sm_ ?_;(with_reducible refine (impl_ReadVar.calls k a0 a1 t412 t413 true _ A3.out).mono ?_);rintro e w' ⟨rfl,⟨nd,rfl⟩⟩;refine ⟨_,rfl,?_⟩))
   go_ret3
   exact ⟨by first|rfl|(simp;done)|(simp [*];done),by repeat (first|exact Drawn0.refl _|apply Drawn0.step)⟩
  rw [if_neg c6] at H
  have c6b0 : decide ((wrap64 ((a0.size : Int) - t413)) < t412) = false:=decide_eq_false c6
  clear c6
  by_cases c7 : 0 ≤ t413
  ·rw [if_pos c7] at H
   have c7b0:=eq_true c7
   have c7b1 : decide (0 ≤ t413) = true:=decide_eq_true c7
   clear c7
   by_cases c8 : t413 ≤ (wrap64 (t413 + t412))
   ·rw [if_pos c8] at H
    have c8b0:=eq_true c8
    have c8b1 : decide (t413 ≤ (wrap64 (t413 + t412))) = true:=decide_eq_true c8
    by_cases c9 : (wrap64 (t413 + t412)) ≤ (a0.size : Int)
    ·rw [if_pos c9] at H
     have c9b0:=eq_true c9
     have c9b1 : decide ((wrap64 (t413 + t412)) ≤ (a0.size : Int)) = true:=decide_eq_true c9
     simp only [Option.some.injEq,Prod.mk.injEq] at H
     obtain ⟨rfl,rfl,rfl⟩:=H
     go_enter Try.func105,Try.ntmps105
     go_wp2_with (first|((with_reducible refine gate_callee (f:=104) rfl ?_);refine goesL_ (some 13) rfl rfl Try.func104 (by kernel_rfl) rfl #[.string a0,.int .i64 a1] rfl sm_ ?_;(with_reducible refine (impl_ReadVar.calls k a0 a1 t412 t413 true _ A3.out).mono ?_);rintro e w' ⟨rfl,⟨nd,rfl⟩⟩;refine ⟨_,rfl,?_⟩))
     go_ret3
     exact ⟨by first|rfl|(simp;done)|(simp [*];done),by repeat (first|exact Drawn0.refl _|apply Drawn0.step)⟩
    rw [if_neg c9] at H
    exact absurd H (by simp)
   rw [if_neg c8] at H
   exact absurd H (by simp)
  rw [if_neg c7] at H
  exact absurd H (by simp)
 replace c4:=Bool.eq_false_iff.mpr c4
 subst c4
 have H1 : (some ((⟨#[]⟩ : ByteArray),0,false)) = some (r1,r2,r3):=by rw [if_neg (show ¬ (false = true) by decide)] at H;exact H
 clear H
 have H:=H1
 clear H1
 simp only [Option.some.injEq,Prod.mk.injEq] at H
 obtain ⟨rfl,rfl,rfl⟩:=H
 go_enter Try.func105,Try.ntmps105
 go_wp2_with (first|((with_reducible refine gate_callee (f:=104) rfl ?_);refine goesL_ (some 13) rfl rfl Try.func104 (by kernel_rfl) rfl #[.string a0,.int .i64 a1] rfl sm_ ?_;(with_reducible refine (impl_ReadVar.calls k a0 a1 t412 t413 false _ A3.out).mono ?_);rintro e w' ⟨rfl,⟨nd,rfl⟩⟩;refine ⟨_,rfl,?_⟩))
 go_ret3
 exact ⟨by first|rfl|(simp;done)|(simp [*];done),by repeat (first|exact Drawn0.refl _|apply Drawn0.step)⟩

/-! ### impl_reader_short: function 99 -/
def impl_reader_short.f (k : Nat) (s0_0 : ByteArray) (s0_1 : Int) (s0_2 : Bool) : Option (ByteArray × ByteArray × Int × Bool):=(impl_ReadShort.f k s0_0 s0_1).bind fun bt415=>(if s0_2 = true then (some ((⟨#[]⟩ : ByteArray),s0_0,s0_1,true)) else (if bt415.2.2 = true then (some (bt415.1,s0_0,bt415.2.1,s0_2)) else (some ((⟨#[]⟩ : ByteArray),s0_0,s0_1,true))))
theorem impl_reader_short.mono : ∀ a0 a1 a2 k,LeO (impl_reader_short.f k a0 a1 a2) (impl_reader_short.f (k + 1) a0 a1 a2):=by
 intro a0 a1 a2 k
 unfold impl_reader_short.f
 repeat' first|(with_reducible first|exact impl_ReadShort.mono _ _ _|exact LeO.refl _|exact LeO.none _|refine LeO.ite ?_ ?_|refine LeO.bind ?_ (fun _=>?_))|exact impl_ReadShort.mono _ _ _|exact LeO.none _|refine LeO.ite ?_ ?_|refine LeO.bind ?_ (fun _=>?_)
set_option maxHeartbeats 8000000 in
set_option maxRecDepth 100000 in
theorem impl_reader_short.calls (k : Nat) (g : Nat) (s0_0 : ByteArray) (s0_1 : Int) (s0_2 : Bool) (r1 : ByteArray) (r2 : ByteArray) (r3 : Int) (r4 : Bool) (w0 w : World) (hI : IsS132 w0 w g s0_0 s0_1 s0_2) (hB : Below w0.heap.size w0 w) (h : impl_reader_short.f k s0_0 s0_1 s0_2 = some (r1,r2,r3,r4)) :
  Calls Try.prog 99 #[.pointer (some ⟨g,0,none⟩)] w fun e w'=>e = .returned (.string r1) ∧ IsS132 w0 w' g r2 r3 r4 ∧ Below w0.heap.size w0 w' ∧ KeepBut w w' g none:=by
 have HI0:=qo.mk hI
 have HK:=qo.mk (KeepBut.refl w g none)
 have HL:=qo.mk hB.size
 clear hI
 have HW0:=qo.mk hB.size
 have HB:=qo.mk hB
 clear hB
 have H : ((impl_ReadShort.f k s0_0 s0_1).bind fun bt415=>(if s0_2 = true then (some ((⟨#[]⟩ : ByteArray),s0_0,s0_1,true)) else (if bt415.2.2 = true then (some (bt415.1,s0_0,bt415.2.1,s0_2)) else (some ((⟨#[]⟩ : ByteArray),s0_0,s0_1,true))))) = some (r1,r2,r3,r4):=h
 clear h
 replace H:=Option.bind_eq_some_iff.mp H
 obtain ⟨⟨t415,t416,t417⟩,A20,H⟩:=H
 replace H : (if s0_2 = true then (some ((⟨#[]⟩ : ByteArray),s0_0,s0_1,true)) else (if t417 = true then (some (t415,s0_0,t416,s0_2)) else (some ((⟨#[]⟩ : ByteArray),s0_0,s0_1,true)))) = some (r1,r2,r3,r4):=H
 have A2:=qo.mk A20
 clear A20
 by_cases c3 : s0_2 = true
 ·subst c3
  have H1 : (some ((⟨#[]⟩ : ByteArray),s0_0,s0_1,true)) = some (r1,r2,r3,r4):=by rw [if_pos rfl] at H;exact H
  clear H
  have H:=H1
  clear H1
  simp only [Option.some.injEq,Prod.mk.injEq] at H
  obtain ⟨rfl,rfl,rfl,rfl⟩:=H
  obtain ⟨HGz4,hgz4⟩:=HI0.out
  have hcz4_0:=cellS132_0 HGz4
  have hcz4_1:=cellS132_1 HGz4
  have hcz4_2:=cellS132_2 HGz4
  have hfz4_0:=qj HGz4 0
  have hfz4_1:=qj HGz4 1
  have hfz4_2:=qj HGz4 2
  clear HGz4 hgz4
  go_enter Try.func99,Try.ntmps99
  go_wp2_with (first|(go_at_call 105;(with_reducible refine (impl_ReadShort.calls k s0_0 s0_1 t415 t416 t417 _ A2.out).mono ?_);rintro e w' ⟨rfl,⟨nd,rfl⟩⟩;(try first|exact ⟨rfl,_,World.drewN_drewN _ _ _⟩|exact ⟨rfl,_,Eq.trans (World.drewN_drewN _ _ _) (congrArg (World.drewN _) (Nat.add_assoc _ _ _))⟩)))
  repeat (go_quiet (first|(go_at_call 105;(with_reducible refine (impl_ReadShort.calls k s0_0 s0_1 t415 t416 t417 _ A2.out).mono ?_);rintro e w' ⟨rfl,⟨nd,rfl⟩⟩;(try first|exact ⟨rfl,_,World.drewN_drewN _ _ _⟩|exact ⟨rfl,_,Eq.trans (World.drewN_drewN _ _ _) (congrArg (World.drewN _) (Nat.add_assoc _ _ _))⟩)));try go_wp2_with (first|(go_at_call 105;(with_reducible refine (impl_ReadShort.calls k s0_0 s0_1 t415 t416 t417 _ A2.out).mono ?_);rintro e w' ⟨rfl,⟨nd,rfl⟩⟩;(try first|exact ⟨rfl,_,World.drewN_drewN _ _ _⟩|exact ⟨rfl,_,Eq.trans (World.drewN_drewN _ _ _) (congrArg (World.drewN _) (Nat.add_assoc _ _ _))⟩))))
  go_ret
  exact ⟨rt_,by repeat (first|(with_reducible first|exact HI0.out|apply IsS132.alloc|apply IsS132.drewN|apply IsS132.drew|apply IsS132.set_0|apply IsS132.set_1|apply IsS132.set_2)|exact HI0.out),by repeat (first|(with_reducible first|exact HB.out|apply qf|apply qa|apply qd|refine qg ?_ (IsS132.ge HI0.out))|exact HB.out),by repeat (first|(with_reducible first|exact HK.out|apply KeepBut.set_|apply keep_drewN|apply keep_drew|apply keep_alloc)|exact HK.out)⟩
 replace c3:=Bool.eq_false_iff.mpr c3
 subst c3
 have H1 : (if t417 = true then (some (t415,s0_0,t416,false)) else (some ((⟨#[]⟩ : ByteArray),s0_0,s0_1,true))) = some (r1,r2,r3,r4):=by rw [if_neg (show ¬ (false = true) by decide)] at H;exact H
 clear H
 have H:=H1
 clear H1
 by_cases c5 : t417 = true
 ·subst c5
  have H1 : (some (t415,s0_0,t416,false)) = some (r1,r2,r3,r4):=by rw [if_pos rfl] at H;exact H
  clear H
  have H:=H1
  clear H1
  simp only [Option.some.injEq,Prod.mk.injEq] at H
  obtain ⟨rfl,rfl,rfl,rfl⟩:=H
  obtain ⟨HGz6,hgz6⟩:=HI0.out
  have hcz6_0:=cellS132_0 HGz6
  have hcz6_1:=cellS132_1 HGz6
  have hcz6_2:=cellS132_2 HGz6
  have hfz6_0:=qj HGz6 0
  have hfz6_1:=qj HGz6 1
  have hfz6_2:=qj HGz6 2
  clear HGz6 hgz6
  go_enter Try.func99,Try.ntmps99
  go_wp2_with (first|(go_at_call 105;(with_reducible refine (impl_ReadShort.calls k s0_0 s0_1 t415 t416 true _ A2.out).mono ?_);rintro e w' ⟨rfl,⟨nd,rfl⟩⟩;(try first|exact ⟨rfl,_,World.drewN_drewN _ _ _⟩|exact ⟨rfl,_,Eq.trans (World.drewN_drewN _ _ _) (congrArg (World.drewN _) (Nat.add_assoc _ _ _))⟩)))
  repeat (go_quiet (first|(go_at_call 105;(with_reducible refine (impl_ReadShort.calls k s0_0 s0_1 t415 t416 true _ A2.out).mono ?_);rintro e w' ⟨rfl,⟨nd,rfl⟩⟩;(try first|exact ⟨rfl,_,World.drewN_drewN _ _ _⟩|exact ⟨rfl,_,Eq.trans (World.drewN_drewN _ _ _) (congrArg (World.drewN _) (Nat.add_assoc _ _ _))⟩)));try go_wp2_with (first|(go_at_call 105;(with_reducible refine (impl_ReadShort.calls k s0_0 s0_1 t415 t416 true _ A2.out).mono ?_);rintro e w' ⟨rfl,⟨nd,rfl⟩⟩;(try first|exact ⟨rfl,_,World.drewN_drewN _ _ _⟩|exact ⟨rfl,_,Eq.trans (World.drewN_drewN _ _ _) (congrArg (World.drewN _) (Nat.add_assoc _ _ _))⟩))))
  go_ret
  exact ⟨rt_,by repeat (first|(with_reducible first|exact HI0.out|apply IsS132.alloc|apply IsS132.drewN|apply IsS132.drew|apply IsS132.set_0|apply IsS132.set_1|apply IsS132.set_2)|exact HI0.out),by repeat (first|(with_reducible first|exact HB.out|apply qf|apply qa|apply qd|refine qg ?_ (IsS132.ge HI0.out))|exact HB.out),by repeat (first|(with_reducible first|exact HK.out|apply KeepBut.set_|apply keep_drewN|apply keep_drew|apply keep_alloc)|exact HK.out)⟩
 replace c5:=Bool.eq_false_iff.mpr c5
 subst c5
 have H1 : (some ((⟨#[]⟩ : ByteArray),s0_0,s0_1,true)) = some (r1,r2,r3,r4):=by rw [if_neg (show ¬ (false = true) by decide)] at H;exact H
 clear H
 have H:=H1
 clear H1
 simp only [Option.some.injEq,Prod.mk.injEq] at H
 obtain ⟨rfl,rfl,rfl,rfl⟩:=H
 obtain ⟨HGz7,hgz7⟩:=HI0.out
 have hcz7_0:=cellS132_0 HGz7
 have hcz7_1:=cellS132_1 HGz7
 have hcz7_2:=cellS132_2 HGz7
 have hfz7_0:=qj HGz7 0
 have hfz7_1:=qj HGz7 1
 have hfz7_2:=qj HGz7 2
 clear HGz7 hgz7
 go_enter Try.func99,Try.ntmps99
 go_wp2_with (first|(go_at_call 105;(with_reducible refine (impl_ReadShort.calls k s0_0 s0_1 t415 t416 false _ A2.out).mono ?_);rintro e w' ⟨rfl,⟨nd,rfl⟩⟩;(try first|exact ⟨rfl,_,World.drewN_drewN _ _ _⟩|exact ⟨rfl,_,Eq.trans (World.drewN_drewN _ _ _) (congrArg (World.drewN _) (Nat.add_assoc _ _ _))⟩)))
 repeat (go_quiet (first|(go_at_call 105;(with_reducible refine (impl_ReadShort.calls k s0_0 s0_1 t415 t416 false _ A2.out).mono ?_);rintro e w' ⟨rfl,⟨nd,rfl⟩⟩;(try first|exact ⟨rfl,_,World.drewN_drewN _ _ _⟩|exact ⟨rfl,_,Eq.trans (World.drewN_drewN _ _ _) (congrArg (World.drewN _) (Nat.add_assoc _ _ _))⟩)));try go_wp2_with (first|(go_at_call 105;(with_reducible refine (impl_ReadShort.calls k s0_0 s0_1 t415 t416 false _ A2.out).mono ?_);rintro e w' ⟨rfl,⟨nd,rfl⟩⟩;(try first|exact ⟨rfl,_,World.drewN_drewN _ _ _⟩|exact ⟨rfl,_,Eq.trans (World.drewN_drewN _ _ _) (congrArg (World.drewN _) (Nat.add_assoc _ _ _))⟩))))
 go_ret
 exact ⟨rt_,by repeat (first|(with_reducible first|exact HI0.out|apply IsS132.alloc|apply IsS132.drewN|apply IsS132.drew|apply IsS132.set_0|apply IsS132.set_1|apply IsS132.set_2)|exact HI0.out),by repeat (first|(with_reducible first|exact HB.out|apply qf|apply qa|apply qd|refine qg ?_ (IsS132.ge HI0.out))|exact HB.out),by repeat (first|(with_reducible first|exact HK.out|apply KeepBut.set_|apply keep_drewN|apply keep_drew|apply keep_alloc)|exact HK.out)⟩

/-! ### impl_reader_ends: function 100 -/
def impl_reader_ends.f (s0_0 : ByteArray) (s0_1 : Int) (s0_2 : Bool) : Option (Bool × ByteArray × Int × Bool):=if s0_2 = true then (some (false,s0_0,s0_1,s0_2)) else (some ((s0_1 == (s0_0.size : Int)),s0_0,s0_1,s0_2))
set_option maxHeartbeats 8000000 in
set_option maxRecDepth 100000 in
theorem impl_reader_ends.calls (g : Nat) (s0_0 : ByteArray) (s0_1 : Int) (s0_2 : Bool) (r1 : Bool) (r2 : ByteArray) (r3 : Int) (r4 : Bool) (w0 w : World) (hI : IsS132 w0 w g s0_0 s0_1 s0_2) (hB : Below w0.heap.size w0 w) (h : impl_reader_ends.f s0_0 s0_1 s0_2 = some (r1,r2,r3,r4)) :
  Calls Try.prog 100 #[.pointer (some ⟨g,0,none⟩)] w fun e w'=>e = .returned (.bool r1) ∧ IsS132 w0 w' g r2 r3 r4 ∧ Below w0.heap.size w0 w' ∧ KeepBut w w' g none:=by
 have HI0:=qo.mk hI
 have HK:=qo.mk (KeepBut.refl w g none)
 have HL:=qo.mk hB.size
 clear hI
 have HW0:=qo.mk hB.size
 have HB:=qo.mk hB
 clear hB
 have H : (if s0_2 = true then (some (false,s0_0,s0_1,s0_2)) else (some ((s0_1 == (s0_0.size : Int)),s0_0,s0_1,s0_2))) = some (r1,r2,r3,r4):=h
 clear h
 by_cases c2 : s0_2 = true
 ·subst c2
  have H1 : (some (false,s0_0,s0_1,true)) = some (r1,r2,r3,r4):=by rw [if_pos rfl] at H;exact H
  clear H
  have H:=H1
  clear H1
  simp only [Option.some.injEq,Prod.mk.injEq] at H
  obtain ⟨rfl,rfl,rfl,rfl⟩:=H
  obtain ⟨HGz3,hgz3⟩:=HI0.out
  have hcz3_0:=cellS132_0 HGz3
  have hcz3_1:=cellS132_1 HGz3
  have hcz3_2:=cellS132_2 HGz3
  have hfz3_0:=qj HGz3 0
  have hfz3_1:=qj HGz3 1
  have hfz3_2:=qj HGz3 2
  clear HGz3 hgz3
  go_enter Try.func100,Try.ntmps100
  go_wp2
  repeat (go_quiet (fail);try go_wp2)
  go_ret
  exact ⟨rt_,by repeat (first|(with_reducible first|exact HI0.out|apply IsS132.alloc|apply IsS132.drewN|apply IsS132.drew|apply IsS132.set_0|apply IsS132.set_1|apply IsS132.set_2)|exact HI0.out),by repeat (first|(with_reducible first|exact HB.out|apply qf|apply qa|apply qd|refine qg ?_ (IsS132.ge HI0.out))|exact HB.out),by repeat (first|(with_reducible first|exact HK.out|apply KeepBut.set_|apply keep_drewN|apply keep_drew|apply keep_alloc)|exact HK.out)⟩
 replace c2:=Bool.eq_false_iff.mpr c2
 subst c2
 have H1 : (some ((s0_1 == (s0_0.size : Int)),s0_0,s0_1,false)) = some (r1,r2,r3,r4):=by rw [if_neg (show ¬ (false = true) by decide)] at H;exact H
 clear H
 have H:=H1
 clear H1
 simp only [Option.some.injEq,Prod.mk.injEq] at H
 obtain ⟨rfl,rfl,rfl,rfl⟩:=H
 obtain ⟨HGz4,hgz4⟩:=HI0.out
 have hcz4_0:=cellS132_0 HGz4
 have hcz4_1:=cellS132_1 HGz4
 have hcz4_2:=cellS132_2 HGz4
 have hfz4_0:=qj HGz4 0
 have hfz4_1:=qj HGz4 1
 have hfz4_2:=qj HGz4 2
 clear HGz4 hgz4
 go_enter Try.func100,Try.ntmps100
 go_wp2
 repeat (go_quiet (fail);try go_wp2)
 go_ret
 exact ⟨rt_,by repeat (first|(with_reducible first|exact HI0.out|apply IsS132.alloc|apply IsS132.drewN|apply IsS132.drew|apply IsS132.set_0|apply IsS132.set_1|apply IsS132.set_2)|exact HI0.out),by repeat (first|(with_reducible first|exact HB.out|apply qf|apply qa|apply qd|refine qg ?_ (IsS132.ge HI0.out))|exact HB.out),by repeat (first|(with_reducible first|exact HK.out|apply KeepBut.set_|apply keep_drewN|apply keep_drew|apply keep_alloc)|exact HK.out)⟩

/-! ### impl_newReader: function 122 -/
def impl_newReader.f (a0 : ByteArray) : Option (ByteArray × Int × Bool):=some (a0,0,false)
/-! ### impl_ReadPage: function 81 -/
mutual
def impl_ReadPage.l0 : Nat → ByteArray → Int → ByteArray → Int → Bool → Int → List (S71) → Option (Int × (List (S71)) × Bool)
 | 0,_,_,_,_,_,_,_=>none
 | k + 1,x0,x8,x426000,x426001,x426002,x427000,x427001=>if x8 > 0 then (impl_ReadPage.j1 k x0 x8 (!x426002) x426000 x426001 x426002 x427000 x427001) else (impl_ReadPage.j1 k x0 x8 false x426000 x426001 x426002 x427000 x427001)
def impl_ReadPage.j1 : Nat → ByteArray → Int → Bool → ByteArray → Int → Bool → Int → List (S71) → Option (Int × (List (S71)) × Bool)
 | 0,_,_,_,_,_,_,_,_=>none
 | k + 1,x0,x8,x36,x426000,x426001,x426002,x427000,x427001=>if x36 = true then ((impl_reader_short.f k x426000 x426001 x426002).bind fun bt435=>(if x427000 = 2 then ((impl_reader_num.f k bt435.2.1 bt435.2.2.1 bt435.2.2.2).bind fun bt440=>(if x427001.length < 3518437208883 then (impl_ReadPage.l0 k x0 (wrap64 (x8 - 1)) bt440.2.1 bt440.2.2.1 bt440.2.2.2 x427000 (x427001 ++ [(⟨bt435.1,(⟨#[]⟩ : ByteArray),bt440.1⟩ : S71)])) else (none))) else ((impl_reader_short.f k bt435.2.1 bt435.2.2.1 bt435.2.2.2).bind fun bt447=>(if x427001.length < 3518437208883 then (impl_ReadPage.l0 k x0 (wrap64 (x8 - 1)) bt447.2.1 bt447.2.2.1 bt447.2.2.2 x427000 (x427001 ++ [(⟨bt435.1,bt447.1,0⟩ : S71)])) else (none))))) else ((impl_PageText.f k x427000 x427001).bind fun bt454=>((impl_reader_ends.f x426000 x426001 x426002).bind fun bt456=>(if bt456.1 = true then (if bt454.2 = true then (if bt454.1.toList = x0.toList then (some (x427000,x427001,true)) else (some (0,([] : List (S71)),false))) else (some (0,([] : List (S71)),false))) else (some (0,([] : List (S71)),false)))))
end
def impl_ReadPage.f (k : Nat) (a0 : ByteArray) : Option (Int × (List (S71)) × Bool):=(impl_Unsealed.f k a0).bind fun bt420=>(if bt420.2 = true then ((impl_newReader.f bt420.1).bind fun bt422=>((impl_reader_one.f bt422.1 bt422.2.1 bt422.2.2).bind fun bt427=>((impl_reader_num.f k bt427.2.1 bt427.2.2.1 bt427.2.2.2).bind fun bt431=>(impl_ReadPage.l0 k a0 bt431.1 bt431.2.1 bt431.2.2.1 bt431.2.2.2 bt427.1 ([] : List (S71)))))) else (some (0,([] : List (S71)),false)))
theorem impl_ReadPage.mono_l : ∀ k,(∀ y0 y1 y2 y3 y4 y5 y6,LeO (impl_ReadPage.l0 k y0 y1 y2 y3 y4 y5 y6) (impl_ReadPage.l0 (k + 1) y0 y1 y2 y3 y4 y5 y6)) ∧ (∀ y0 y1 y2 y3 y4 y5 y6 y7,LeO (impl_ReadPage.j1 k y0 y1 y2 y3 y4 y5 y6 y7) (impl_ReadPage.j1 (k + 1) y0 y1 y2 y3 y4 y5 y6 y7))
 | 0=>⟨fun _ _ _ _ _ _ _ r h=>by simp [impl_ReadPage.l0] at h,fun _ _ _ _ _ _ _ _ r h=>by simp [impl_ReadPage.j1] at h⟩
 | k + 1=>by
  obtain ⟨ih0,ih1⟩:=impl_ReadPage.mono_l k
  refine ⟨?_,?_⟩ <;> intros <;> first|unfold impl_ReadPage.l0|unfold impl_ReadPage.j1
  all_goals repeat' first|(with_reducible first|exact ih0 _ _ _ _ _ _ _|exact ih1 _ _ _ _ _ _ _ _|exact impl_PageText.mono _ _ _|exact impl_Unsealed.mono _ _|exact impl_reader_num.mono _ _ _ _|exact impl_reader_short.mono _ _ _ _|exact LeO.refl _|exact LeO.none _|refine LeO.ite ?_ ?_|refine LeO.bind ?_ (fun _=>?_))|exact ih0 _ _ _ _ _ _ _|exact ih1 _ _ _ _ _ _ _ _|exact impl_PageText.mono _ _ _|exact impl_Unsealed.mono _ _|exact impl_reader_num.mono _ _ _ _|exact impl_reader_short.mono _ _ _ _|exact LeO.none _|refine LeO.ite ?_ ?_|refine LeO.bind ?_ (fun _=>?_)
theorem impl_ReadPage.mono : ∀ a0 k,LeO (impl_ReadPage.f k a0) (impl_ReadPage.f (k + 1) a0):=by
 intro a0 k
 obtain ⟨ih0,ih1⟩:=impl_ReadPage.mono_l k
 unfold impl_ReadPage.f
 repeat' first|(with_reducible first|exact ih0 _ _ _ _ _ _ _|exact ih1 _ _ _ _ _ _ _ _|exact impl_PageText.mono _ _ _|exact impl_Unsealed.mono _ _|exact impl_reader_num.mono _ _ _ _|exact impl_reader_short.mono _ _ _ _|exact LeO.refl _|exact LeO.none _|refine LeO.ite ?_ ?_|refine LeO.bind ?_ (fun _=>?_))|exact ih0 _ _ _ _ _ _ _|exact ih1 _ _ _ _ _ _ _ _|exact impl_PageText.mono _ _ _|exact impl_Unsealed.mono _ _|exact impl_reader_num.mono _ _ _ _|exact impl_reader_short.mono _ _ _ _|exact LeO.none _|refine LeO.ite ?_ ?_|refine LeO.bind ?_ (fun _=>?_)
set_option maxHeartbeats 8000000 in
set_option maxRecDepth 100000 in
theorem impl_ReadPage.calls (k : Nat) (a0 : ByteArray) (r1 : Int) (r2 : List (S71)) (r3 : Bool) (w : World) (h : impl_ReadPage.f k a0 = some (r1,r2,r3)) :
  Calls Try.prog 81 #[.string a0] w fun e w'=>∃ v1_ : Value,e = .returned (.tuple #[.agg #[.int .i64 r1,v1_],.bool r3]) ∧ Kd.R k71 71 w' w.heap.size (fun _=>True) v1_ r2 ∧ Below w.heap.size w w':=by
 have hu76:=Try.underlying76
 have hu71:=Try.underlying71
 have HB:=qo.mk (Below.refl w.heap.size w)
 have H : ((impl_Unsealed.f k a0).bind fun bt420=>(if bt420.2 = true then ((impl_newReader.f bt420.1).bind fun bt422=>((impl_reader_one.f bt422.1 bt422.2.1 bt422.2.2).bind fun bt427=>((impl_reader_num.f k bt427.2.1 bt427.2.2.1 bt427.2.2.2).bind fun bt431=>(impl_ReadPage.l0 k a0 bt431.1 bt431.2.1 bt431.2.2.1 bt431.2.2.2 bt427.1 ([] : List (S71)))))) else (some (0,([] : List (S71)),false)))) = some (r1,r2,r3):=h
 clear h
 replace H:=Option.bind_eq_some_iff.mp H
 obtain ⟨⟨t420,t421⟩,A20,H⟩:=H
 replace H : (if t421 = true then ((impl_newReader.f t420).bind fun bt422=>((impl_reader_one.f bt422.1 bt422.2.1 bt422.2.2).bind fun bt427=>((impl_reader_num.f k bt427.2.1 bt427.2.2.1 bt427.2.2.2).bind fun bt431=>(impl_ReadPage.l0 k a0 bt431.1 bt431.2.1 bt431.2.2.1 bt431.2.2.2 bt427.1 ([] : List (S71)))))) else (some (0,([] : List (S71)),false))) = some (r1,r2,r3):=H
 have A2:=qo.mk A20
 clear A20
 by_cases c3 : t421 = true
 ·subst c3
  have H1 : ((impl_newReader.f t420).bind fun bt422=>((impl_reader_one.f bt422.1 bt422.2.1 bt422.2.2).bind fun bt427=>((impl_reader_num.f k bt427.2.1 bt427.2.2.1 bt427.2.2.2).bind fun bt431=>(impl_ReadPage.l0 k a0 bt431.1 bt431.2.1 bt431.2.2.1 bt431.2.2.2 bt427.1 ([] : List (S71)))))) = some (r1,r2,r3):=by rw [if_pos rfl] at H;exact H
  clear H
  have H:=H1
  clear H1
  replace H:=Option.bind_eq_some_iff.mp H
  obtain ⟨⟨t422,t423,t424⟩,A40,H⟩:=H
  replace H : ((impl_reader_one.f t422 t423 t424).bind fun bt427=>((impl_reader_num.f k bt427.2.1 bt427.2.2.1 bt427.2.2.2).bind fun bt431=>(impl_ReadPage.l0 k a0 bt431.1 bt431.2.1 bt431.2.2.1 bt431.2.2.2 bt427.1 ([] : List (S71))))) = some (r1,r2,r3):=H
  have A4:=qo.mk A40
  clear A40
  replace H:=Option.bind_eq_some_iff.mp H
  obtain ⟨⟨t427,t428,t429,t430⟩,A50,H⟩:=H
  replace H : ((impl_reader_num.f k t428 t429 t430).bind fun bt431=>(impl_ReadPage.l0 k a0 bt431.1 bt431.2.1 bt431.2.2.1 bt431.2.2.2 t427 ([] : List (S71)))) = some (r1,r2,r3):=H
  have A5:=qo.mk A50
  clear A50
  replace H:=Option.bind_eq_some_iff.mp H
  obtain ⟨⟨t431,t432,t433,t434⟩,A60,H⟩:=H
  replace H : (impl_ReadPage.l0 k a0 t431 t432 t433 t434 t427 ([] : List (S71))) = some (r1,r2,r3):=H
  have A6:=qo.mk A60
  clear A60
  have H':=qo.mk H
  clear H
  go_enter Try.func81,Try.ntmps81
  go_wp2_with (first|((with_reducible refine gate_dst (N:=2) rfl ?_);refine box_event ?hg (N:=2) ?hd (cs:=#[.int .i64 0,.slice none 0 0]) (t:=76) ?hr ?_;(case hd=>rfl);(case hg=>rfl);(case hr=>first|(go_simp;done)|(go_simp;rfl));intro gb419 hg w7 hbox hb;have BK419:=qo.mk (hbox);have GW419:=hl_ (w:=w) hg;have GE419:=hl_ (w:=w) hg;replace HB:=hs_ HB hb;clear hb hbox hg)|((with_reducible refine gate_callee (f:=96) rfl ?_);refine goesL_ (some 14) rfl rfl Try.func96 (by kernel_rfl) rfl #[.string a0] rfl sm_ ?_;(with_reducible refine (impl_Unsealed.calls k a0 t420 true _ A2.out).mono ?_);rintro e w8 ⟨rfl,hb⟩;refine ⟨_,rfl,?_⟩;replace BK419:=bb_ BK419 hb;replace HB:=hs_ HB hb;(try clear hb);(try clear hb2);(try clear hk);(try clear hi))|((with_reducible refine gate_dst (N:=22) rfl ?_);refine box_event ?hg (N:=22) ?hd (cs:=#[.string t420,.int .i64 0,.bool false]) (t:=132) ?hr ?_;(case hd=>rfl);(case hg=>rfl);(case hr=>first|(go_simp;done)|(go_simp;rfl));intro g425 hg w9 hbox hb2;have hge : w.heap.size ≤ g425:=(by rw [hg];exact (qk hx_));have hi : IsS132 w w9 g425 t422 t423 t424:=(by have h_:=A4.out;simp only [impl_newReader.f,Option.some.injEq,Prod.mk.injEq] at h_;obtain ⟨rfl,rfl,rfl⟩:=h_;exact ⟨hbox,hge⟩);have hb : Below w.heap.size w w9:=qn hx_ hb2;clear hbox hg hge;have HI425:=qo.mk (hi);have NB425_419:=qo.mk (IsS132.ne_blk hi (qm (g:=gb419) (o:=.cells #[.int .i64 0,.slice none 0 0] 76 (0,0)) (bx_ BK419).out hb2) (by decide));have NB419_425:=qo.mk (Ne.symm (IsS132.ne_blk hi (qm (g:=gb419) (o:=.cells #[.int .i64 0,.slice none 0 0] 76 (0,0)) (bx_ BK419).out hb2) (by decide)));replace BK419:=qo.mk (qm (g:=gb419) (o:=.cells #[.int .i64 0,.slice none 0 0] 76 (0,0)) (bx_ BK419).out hb2);replace HB:=qo.mk (hb);(try clear hb);(try clear hb2);(try clear hk);(try clear hi))|((with_reducible refine gate_dst (N:=7) rfl ?_);refine box_event ?hg (N:=7) ?hd (cs:=#[.int .i64 0,.slice none 0 0]) (t:=76) ?hr ?_;(case hd=>rfl);(case hg=>rfl);(case hr=>first|(go_simp;done)|(go_simp;rfl));intro gb426 hg w10 hbox hb;have n0_:=bb_ BK419 hb;have n1_:=qo.mk (IsS132.below (by repeat (first|(with_reducible first|exact HI425.out|apply IsS132.alloc|apply IsS132.drewN|apply IsS132.drew|apply IsS132.set_0|apply IsS132.set_1|apply IsS132.set_2|refine IsS132.far ?_ NB425_419.out _)|exact HI425.out)) hb);have n2_:=qo.mk (qn (by repeat (first|(with_reducible first|exact HB.out|apply qf|apply qa|apply qd|refine qg ?_ (IsS132.ge HI425.out)|refine qg ?_ GE419.out)|exact HB.out)) hb);have n3_:=qo.mk (hbox);have n4_:=qo.mk ((by rw [hg];exact (qk (by repeat (first|(with_reducible first|exact HB.out|apply qf|apply qa|apply qd|refine qg ?_ (IsS132.ge HI425.out)|refine qg ?_ GE419.out)|exact HB.out))) : w.heap.size ≤ gb426));have n5_:=qo.mk ((by rw [hg];exact (qk (by repeat (first|(with_reducible first|exact HB.out|apply qf|apply qa|apply qd|refine qg ?_ (IsS132.ge HI425.out)|refine qg ?_ GE419.out)|exact HB.out))) : w.heap.size ≤ gb426));have n6_:=qo.mk ((by rw [hg];exact nl_ BK419 : gb419 ≠ gb426));have n7_:=qo.mk ((by rw [hg];exact ng_ BK419 : gb426 ≠ gb419));have n8_:=qo.mk ((by rw [hg];exact Nat.ne_of_lt (IsS132.lt (show IsS132 w _ g425 t422 t423 t424 from by repeat (first|(with_reducible first|exact HI425.out|apply IsS132.alloc|apply IsS132.drewN|apply IsS132.drew|apply IsS132.set_0|apply IsS132.set_1|apply IsS132.set_2|refine IsS132.far ?_ NB425_419.out _)|exact HI425.out))) : g425 ≠ gb426));have n9_:=qo.mk ((by rw [hg];exact Nat.ne_of_gt (IsS132.lt (show IsS132 w _ g425 t422 t423 t424 from by repeat (first|(with_reducible first|exact HI425.out|apply IsS132.alloc|apply IsS132.drewN|apply IsS132.drew|apply IsS132.set_0|apply IsS132.set_1|apply IsS132.set_2|refine IsS132.far ?_ NB425_419.out _)|exact HI425.out))) : gb426 ≠ g425));clear BK419;clear HI425;clear HB;have BK419:=n0_;have HI425:=n1_;have HB:=n2_;have BK426:=n3_;have GW426:=n4_;have GE426:=n5_;have NB419_426:=n6_;have NB426_419:=n7_;have NB425_426:=n8_;have NB426_425:=n9_;clear n0_ n1_ n2_ n3_ n4_ n5_ n6_ n7_ n8_ n9_;clear hb hbox hg)|((with_reducible refine gate_callee (f:=97) rfl ?_);refine goesL_ (some 24) rfl rfl Try.func97 (by kernel_rfl) rfl #[.pointer (some ⟨g425,0,none⟩)] rfl sm_ ?_;(with_reducible refine (impl_reader_one.calls g425 t422 t423 t424 t427 t428 t429 t430 w _ ?side1 ?side2 A5.out).mono ?_);(case side1=>repeat (first|(with_reducible first|exact HI425.out|apply IsS132.alloc|apply IsS132.drewN|apply IsS132.drew|apply IsS132.set_0|apply IsS132.set_1|apply IsS132.set_2|refine IsS132.far ?_ NB425_419.out _|refine IsS132.far ?_ NB425_426.out _)|exact HI425.out));(case side2=>repeat (first|(with_reducible first|exact HB.out|apply qf|apply qa|apply qd|refine qg ?_ (IsS132.ge HI425.out)|refine qg ?_ GE419.out|refine qg ?_ GE426.out)|exact HB.out));rintro e w11 ⟨rfl,hi,hb,hk⟩;refine ⟨_,rfl,?_⟩;replace BK419:=qo.mk (KeepBut.blk hk (g':=gb419) (o:=.cells #[.int .i64 0,.slice none 0 0] 76 (0,0)) (bx_ BK419).out NB419_425.out (by simp));replace BK426:=qo.mk (KeepBut.blk hk (g':=gb426) (o:=.cells #[.int .i64 0,.slice none 0 0] 76 (0,0)) (bx_ BK426).out NB426_425.out (by simp));replace HB:=qo.mk (hb);replace HI425:=qo.mk (hi);(try clear hb);(try clear hb2);(try clear hk);(try clear hi);have hnb12:=NB426_419.out;have hnc12:=NB419_426.out;have hnb13:=NB426_425.out;have hnc13:=NB425_426.out;obtain ⟨hcz14_0,hcz14_1,hfz14_0,hfz14_1⟩:=c2f_ BK426.out)|((with_reducible refine gate_callee (f:=98) rfl ?_);refine goesL_ (some 27) rfl rfl Try.func98 (by kernel_rfl) rfl #[.pointer (some ⟨g425,0,none⟩)] rfl sm_ ?_;(with_reducible refine (impl_reader_num.calls k g425 t428 t429 t430 t431 t432 t433 t434 w _ ?side1 ?side2 A6.out).mono ?_);(case side1=>repeat (first|(with_reducible first|exact HI425.out|apply IsS132.alloc|apply IsS132.drewN|apply IsS132.drew|apply IsS132.set_0|apply IsS132.set_1|apply IsS132.set_2|refine IsS132.far ?_ NB425_419.out _|refine IsS132.far ?_ NB425_426.out _)|exact HI425.out));(case side2=>repeat (first|(with_reducible first|exact HB.out|apply qf|apply qa|apply qd|refine qg ?_ (IsS132.ge HI425.out)|refine qg ?_ GE419.out|refine qg ?_ GE426.out)|exact HB.out));rintro e w15 ⟨rfl,hi,hb,hk⟩;refine ⟨_,rfl,?_⟩;replace BK419:=qo.mk (KeepBut.blk hk (g':=gb419) (o:=.cells #[.int .i64 0,.slice none 0 0] 76 (0,0)) (by (with_reducible repeat (first|refine qb ?_ _|refine qe ?_|refine qc ?_ _));refine blk_far ?_ NB419_426.out _;(with_reducible repeat (first|refine qb ?_ _|refine qe ?_|refine qc ?_ _));exact BK419.out) NB419_425.out (by simp));replace BK426:=qo.mk (KeepBut.blk hk (g':=gb426) (o:=.cells #[.int .i64 t427,.slice none 0 0] 76 (0,0)) (by (with_reducible repeat (first|refine qb ?_ _|refine qe ?_|refine qc ?_ _));refine blk_put (cs:=#[.int .i64 0,.slice none 0 0]) ?_ 0 _ rfl;(with_reducible repeat (first|refine qb ?_ _|refine qe ?_|refine qc ?_ _));exact BK426.out) NB426_425.out (by simp));replace HB:=qo.mk (hb);replace HI425:=qo.mk (hi);(try clear hb);(try clear hb2);(try clear hk);(try clear hi)))
  go_loopg [8] k (fun kq v8 w'=>∃ (x8_1 : Int) (x426000_1 : ByteArray) (x426001_1 : Int) (x426002_1 : Bool) (x427001_1 : List (S71)) (u427001 : Value),v8 = .int .i64 x8_1 ∧ qo (impl_ReadPage.l0 kq a0 x8_1 x426000_1 x426001_1 x426002_1 t427 x427001_1 = some (r1,r2,r3)) ∧ qo (kq ≤ k) ∧ qo (Kd.R k71 71 w' w.heap.size (fun _=>True) u427001 x427001_1) ∧ qo (w'.heap[gb419]? = some (.cells #[.int .i64 0,(.slice none 0 0)] 76 (0,0))) ∧ qo (w'.heap[gb426]? = some (.cells #[.int .i64 t427,u427001] 76 (0,0))) ∧ qo (IsS132 w w' g425 x426000_1 x426001_1 x426002_1) ∧ qo (Below w.heap.size w w'))
  case atStart=>exact ⟨(t431),(t432),(t433),(t434),(([] : List (S71))),(.slice none 0 0),rs_,H',⟨Nat.le_refl _⟩,⟨by first|exact Kd.R_nil _ _ _ _ _|exact Kd.N_nil _ _ _ _ _|exact Kd.V_nil _ _ _ _ _|exact Kd.Q_nil _ _ _ _ _|exact Kd.S_nil _ _ _ _ _⟩,(bx_ BK419),(bx_ BK426),⟨by repeat (first|(with_reducible first|exact HI425.out|apply IsS132.alloc|apply IsS132.drewN|apply IsS132.drew|apply IsS132.set_0|apply IsS132.set_1|apply IsS132.set_2|refine IsS132.far ?_ NB425_419.out _|refine IsS132.far ?_ NB425_426.out _)|exact HI425.out)⟩,⟨by repeat (first|(with_reducible first|exact HB.out|apply qf|apply qa|apply qd|refine qg ?_ (IsS132.ge HI425.out)|refine qg ?_ GE419.out|refine qg ?_ GE426.out)|exact HB.out)⟩⟩
  clear H'
  try clear c1
  try clear p2
  try clear c3
  try clear c8
  try clear c9
  try clear c12
  try clear c13
  try clear hcz14_0
  try clear hcz14_1
  try clear hfz14_0
  try clear hfz14_1
  obtain ⟨x8_1,x426000_1,x426001_1,x426002_1,x427001_1,u427001,rfl,HA,HK1,HO_427001,BK419,BK426,HI425,HB⟩:=hrel
  obtain _|k1:=gk
  ·exact absurd HA.out (by simp [impl_ReadPage.l0])
  have H:=HA.out
  clear HA
  simp only [impl_ReadPage.l0] at H
  have HC16:=qo.mk H
  clear H
  go_upto_region 8 with (fail)
  go_cut [36] (fun v36 wc=>∃ (kq : Nat) (x36_15 : Bool),v36 = .bool x36_15 ∧ qo (impl_ReadPage.j1 kq a0 x8_1 x36_15 x426000_1 x426001_1 x426002_1 t427 x427001_1 = some (r1,r2,r3)) ∧ qo (kq ≤ k1) ∧ qo (Kd.R k71 71 wc w.heap.size (fun _=>True) u427001 x427001_1) ∧ qo (wc.heap[gb419]? = some (.cells #[.int .i64 0,(.slice none 0 0)] 76 (0,0))) ∧ qo (wc.heap[gb426]? = some (.cells #[.int .i64 t427,u427001] 76 (0,0))) ∧ qo (IsS132 w wc g425 x426000_1 x426001_1 x426002_1) ∧ qo (Below w.heap.size w wc))
  case first =>
   have H:=HC16.out
   clear HC16
   by_cases c17 : x8_1 > 0
   ·rw [if_pos c17] at H
    have c17b0 : decide (0 < x8_1) = true:=decide_eq_true c17
    clear c17
    (first|rw [c17b0]|(simp only [i64_w,i32_w];rw [c17b0])|skip)
    have H':=qo.mk H
    clear H
    obtain ⟨HGz18,hgz18⟩:=HI425.out
    have hcz18_0:=cellS132_0 HGz18
    have hcz18_1:=cellS132_1 HGz18
    have hcz18_2:=cellS132_2 HGz18
    have hfz18_0:=qj HGz18 0
    have hfz18_1:=qj HGz18 1
    have hfz18_2:=qj HGz18 2
    clear HGz18 hgz18
    go_wp2
    go_meet
    case rel=>exact ⟨_,(!x426002_1),rs_,H',⟨by have:=HK1.out;first|omega|exact Nat.le_refl _⟩,⟨by (with_reducible repeat (first|apply Kd.R_alloc|apply Kd.R_drewN|apply Kd.R_drew));exact HO_427001.out⟩,(bx_ BK419),(bx_ BK426),⟨by repeat (first|(with_reducible first|exact HI425.out|apply IsS132.alloc|apply IsS132.drewN|apply IsS132.drew|apply IsS132.set_0|apply IsS132.set_1|apply IsS132.set_2|refine IsS132.far ?_ NB425_419.out _|refine IsS132.far ?_ NB425_426.out _)|exact HI425.out)⟩,⟨by repeat (first|(with_reducible first|exact HB.out|apply qf|apply qa|apply qd|refine qg ?_ (IsS132.ge HI425.out)|refine qg ?_ GE419.out|refine qg ?_ GE426.out)|exact HB.out)⟩⟩
   rw [if_neg c17] at H
   have c17b0 : decide (0 < x8_1) = false:=decide_eq_false c17
   clear c17
   (first|rw [c17b0]|(simp only [i64_w,i32_w];rw [c17b0])|skip)
   have H':=qo.mk H
   clear H
   go_wp2
   go_meet
   case rel=>exact ⟨_,(false),rs_,H',⟨by have:=HK1.out;first|omega|exact Nat.le_refl _⟩,⟨by (with_reducible repeat (first|apply Kd.R_alloc|apply Kd.R_drewN|apply Kd.R_drew));exact HO_427001.out⟩,(bx_ BK419),(bx_ BK426),⟨by repeat (first|(with_reducible first|exact HI425.out|apply IsS132.alloc|apply IsS132.drewN|apply IsS132.drew|apply IsS132.set_0|apply IsS132.set_1|apply IsS132.set_2|refine IsS132.far ?_ NB425_419.out _|refine IsS132.far ?_ NB425_426.out _)|exact HI425.out)⟩,⟨by repeat (first|(with_reducible first|exact HB.out|apply qf|apply qa|apply qd|refine qg ?_ (IsS132.ge HI425.out)|refine qg ?_ GE419.out|refine qg ?_ GE426.out)|exact HB.out)⟩⟩
  clear HC16
  try clear c1
  try clear p2
  try clear c3
  try clear c8
  try clear c9
  try clear c12
  try clear c13
  try clear c17
  try clear c17b0
  try clear hcz14_0
  try clear hcz14_1
  try clear hcz18_0
  try clear hcz18_1
  try clear hcz18_2
  try clear hfz14_0
  try clear hfz14_1
  try clear hfz18_0
  try clear hfz18_1
  try clear hfz18_2
  try clear p2
  obtain ⟨kq,x36_15,rfl,HA,HJ15,HO_427001,BK419,BK426,HI425,HB⟩:=hcut
  obtain _|kj15:=kq
  ·exact absurd HA.out (by simp [impl_ReadPage.j1])
  have H:=HA.out
  clear HA
  simp only [impl_ReadPage.j1] at H
  by_cases c19 : x36_15 = true
  ·subst c19
   have H1 : ((impl_reader_short.f kj15 x426000_1 x426001_1 x426002_1).bind fun bt435=>(if t427 = 2 then ((impl_reader_num.f kj15 bt435.2.1 bt435.2.2.1 bt435.2.2.2).bind fun bt440=>(if x427001_1.length < 3518437208883 then (impl_ReadPage.l0 kj15 a0 (wrap64 (x8_1 - 1)) bt440.2.1 bt440.2.2.1 bt440.2.2.2 t427 (x427001_1 ++ [(⟨bt435.1,(⟨#[]⟩ : ByteArray),bt440.1⟩ : S71)])) else (none))) else ((impl_reader_short.f kj15 bt435.2.1 bt435.2.2.1 bt435.2.2.2).bind fun bt447=>(if x427001_1.length < 3518437208883 then (impl_ReadPage.l0 kj15 a0 (wrap64 (x8_1 - 1)) bt447.2.1 bt447.2.2.1 bt447.2.2.2 t427 (x427001_1 ++ [(⟨bt435.1,bt447.1,0⟩ : S71)])) else (none))))) = some (r1,r2,r3):=by rw [if_pos rfl] at H;exact H
   clear H
   have H:=H1
   clear H1
   replace H:=Option.bind_eq_some_iff.mp H
   obtain ⟨⟨t435,t436,t437,t438⟩,A200,H⟩:=H
   replace H : (if t427 = 2 then ((impl_reader_num.f kj15 t436 t437 t438).bind fun bt440=>(if x427001_1.length < 3518437208883 then (impl_ReadPage.l0 kj15 a0 (wrap64 (x8_1 - 1)) bt440.2.1 bt440.2.2.1 bt440.2.2.2 t427 (x427001_1 ++ [(⟨t435,(⟨#[]⟩ : ByteArray),bt440.1⟩ : S71)])) else (none))) else ((impl_reader_short.f kj15 t436 t437 t438).bind fun bt447=>(if x427001_1.length < 3518437208883 then (impl_ReadPage.l0 kj15 a0 (wrap64 (x8_1 - 1)) bt447.2.1 bt447.2.2.1 bt447.2.2.2 t427 (x427001_1 ++ [(⟨t435,bt447.1,0⟩ : S71)])) else (none)))) = some (r1,r2,r3):=H
   have A20:=qo.mk A200
   clear A200
   by_cases c21 : t427 = 2
   ·rw [if_pos c21] at H
    have c21b0 : (t427 == 2) = true:=beq_iff_eq.mpr c21
    have c21b1 : (t427 != 2) = false:=bne_eq_false_iff_eq.mpr c21
    clear c21
    replace H:=Option.bind_eq_some_iff.mp H
    obtain ⟨⟨t440,t441,t442,t443⟩,A220,H⟩:=H
    replace H : (if x427001_1.length < 3518437208883 then (impl_ReadPage.l0 kj15 a0 (wrap64 (x8_1 - 1)) t441 t442 t443 t427 (x427001_1 ++ [(⟨t435,(⟨#[]⟩ : ByteArray),t440⟩ : S71)])) else (none)) = some (r1,r2,r3):=H
    have A22:=qo.mk A220
    clear A220
    by_cases c23 : x427001_1.length < 3518437208883
    ·rw [if_pos c23] at H
     have LMc23:=qo.mk c23
     clear c23
     obtain ⟨y444,hy444⟩ : ∃ y_ : List (S71),y_ = (x427001_1 ++ [(⟨t435,(⟨#[]⟩ : ByteArray),t440⟩ : S71)]):=⟨_,rfl⟩
     replace H : (impl_ReadPage.l0 kj15 a0 (wrap64 (x8_1 - 1)) t441 t442 t443 t427 y444) = some (r1,r2,r3):=by first|(rw [hy444];with_reducible exact H)|(have H2_:=(Option.bind_some _ _).symm.trans H;rw [hy444];with_reducible exact H2_)|(have H2_:=(Option.bind_some _ _).symm.trans H;with_reducible exact H2_)|with_reducible exact H|(rw [hy444];exact H)|exact H
     have Ny444:=qo.mk hy444
     clear hy444
     have H':=qo.mk H
     clear H
     go_wp2_with (first|((with_reducible refine gate_callee (f:=99) rfl ?_);refine goesL_ (some 40) rfl rfl Try.func99 (by kernel_rfl) rfl #[.pointer (some ⟨g425,0,none⟩)] rfl sm_ ?_;(with_reducible refine (impl_reader_short.calls kj15 g425 x426000_1 x426001_1 x426002_1 t435 t436 t437 t438 w _ ?side1 ?side2 A20.out).mono ?_);(case side1=>repeat (first|(with_reducible first|exact HI425.out|apply IsS132.alloc|apply IsS132.drewN|apply IsS132.drew|apply IsS132.set_0|apply IsS132.set_1|apply IsS132.set_2|refine IsS132.far ?_ NB425_419.out _|refine IsS132.far ?_ NB425_426.out _)|exact HI425.out));(case side2=>repeat (first|(with_reducible first|exact HB.out|apply qf|apply qa|apply qd|refine qg ?_ (IsS132.ge HI425.out)|refine qg ?_ GE419.out|refine qg ?_ GE426.out)|exact HB.out));rintro e w24 ⟨rfl,hi,hb,hk⟩;refine ⟨_,rfl,?_⟩;replace HO_427001:=qo.mk (Kd.R_mono (Kd.R_keep (IsS132.apart (show IsS132 w _ g425 x426000_1 x426001_1 x426002_1 from by repeat (first|(with_reducible first|exact HI425.out|apply IsS132.alloc|apply IsS132.drewN|apply IsS132.drew|apply IsS132.set_0|apply IsS132.set_1|apply IsS132.set_2|refine IsS132.far ?_ NB425_419.out _|refine IsS132.far ?_ NB425_426.out _)|exact HI425.out)) (by (with_reducible repeat (first|apply Kd.R_alloc|apply Kd.R_drewN|apply Kd.R_drew));exact HO_427001.out) (by decide)) hk (fun _ h=>h.2)) (fun _ h=>h.1));replace BK419:=qo.mk (KeepBut.blk hk (g':=gb419) (o:=.cells #[.int .i64 0,.slice none 0 0] 76 (0,0)) (bx_ BK419).out NB419_425.out (by simp));replace BK426:=qo.mk (KeepBut.blk hk (g':=gb426) (o:=.cells #[.int .i64 t427,u427001] 76 (0,0)) (bx_ BK426).out NB426_425.out (by simp));replace HB:=qo.mk (hb);replace HI425:=qo.mk (hi);(try clear hb);(try clear hb2);(try clear hk);(try clear hi))|((with_reducible refine gate_dst (N:=9) rfl ?_);refine box_event ?hg (N:=9) ?hd (cs:=#[.string (⟨#[]⟩ : ByteArray),.string (⟨#[]⟩ : ByteArray),.int .i64 0]) (t:=71) ?hr ?_;(case hd=>rfl);(case hg=>rfl);(case hr=>first|(go_simp;done)|(go_simp;rfl));intro gb439 hg w25 hbox hb;have n0_:=qo.mk (Kd.R_below (Kd.R_elderB (by (with_reducible repeat (first|apply Kd.R_alloc|apply Kd.R_drewN|apply Kd.R_drew));exact HO_427001.out) gb439 (Nat.le_of_eq hg.symm)) hb);have n1_:=bb_ BK419 hb;have n2_:=bb_ BK426 hb;have n3_:=qo.mk (IsS132.below (by repeat (first|(with_reducible first|exact HI425.out|apply IsS132.alloc|apply IsS132.drewN|apply IsS132.drew|apply IsS132.set_0|apply IsS132.set_1|apply IsS132.set_2|refine IsS132.far ?_ NB425_419.out _|refine IsS132.far ?_ NB425_426.out _)|exact HI425.out)) hb);have n4_:=qo.mk (qn (by repeat (first|(with_reducible first|exact HB.out|apply qf|apply qa|apply qd|refine qg ?_ (IsS132.ge HI425.out)|refine qg ?_ GE419.out|refine qg ?_ GE426.out)|exact HB.out)) hb);have n5_:=qo.mk (hbox);have n6_:=qo.mk ((by rw [hg];exact (qk (by repeat (first|(with_reducible first|exact HB.out|apply qf|apply qa|apply qd|refine qg ?_ (IsS132.ge HI425.out)|refine qg ?_ GE419.out|refine qg ?_ GE426.out)|exact HB.out))) : w.heap.size ≤ gb439));have n7_:=qo.mk ((by rw [hg];exact (qk (by repeat (first|(with_reducible first|exact HB.out|apply qf|apply qa|apply qd|refine qg ?_ (IsS132.ge HI425.out)|refine qg ?_ GE419.out|refine qg ?_ GE426.out)|exact HB.out))) : w.heap.size ≤ gb439));have n8_:=qo.mk ((by rw [hg];exact nl_ BK419 : gb419 ≠ gb439));have n9_:=qo.mk ((by rw [hg];exact ng_ BK419 : gb439 ≠ gb419));have n10_:=qo.mk ((by rw [hg];exact nl_ BK426 : gb426 ≠ gb439));have n11_:=qo.mk ((by rw [hg];exact ng_ BK426 : gb439 ≠ gb426));have n12_:=qo.mk ((by rw [hg];exact Nat.ne_of_lt (IsS132.lt (show IsS132 w _ g425 t436 t437 t438 from by repeat (first|(with_reducible first|exact HI425.out|apply IsS132.alloc|apply IsS132.drewN|apply IsS132.drew|apply IsS132.set_0|apply IsS132.set_1|apply IsS132.set_2|refine IsS132.far ?_ NB425_419.out _|refine IsS132.far ?_ NB425_426.out _)|exact HI425.out))) : g425 ≠ gb439));have n13_:=qo.mk ((by rw [hg];exact Nat.ne_of_gt (IsS132.lt (show IsS132 w _ g425 t436 t437 t438 from by repeat (first|(with_reducible first|exact HI425.out|apply IsS132.alloc|apply IsS132.drewN|apply IsS132.drew|apply IsS132.set_0|apply IsS132.set_1|apply IsS132.set_2|refine IsS132.far ?_ NB425_419.out _|refine IsS132.far ?_ NB425_426.out _)|exact HI425.out))) : gb439 ≠ g425));clear HO_427001;clear BK419;clear BK426;clear HI425;clear HB;have HO_427001:=n0_;have BK419:=n1_;have BK426:=n2_;have HI425:=n3_;have HB:=n4_;have BK439:=n5_;have GW439:=n6_;have GE439:=n7_;have NB419_439:=n8_;have NB439_419:=n9_;have NB426_439:=n10_;have NB439_426:=n11_;have NB425_439:=n12_;have NB439_425:=n13_;clear n0_ n1_ n2_ n3_ n4_ n5_ n6_ n7_ n8_ n9_ n10_ n11_ n12_ n13_;clear hb hbox hg;have hnb26:=NB439_419.out;have hnc26:=NB419_439.out;have hnb27:=NB439_426.out;have hnc27:=NB426_439.out;have hnb28:=NB439_425.out;have hnc28:=NB425_439.out;obtain ⟨hcz29_0,hcz29_1,hcz29_2,hfz29_0,hfz29_1,hfz29_2⟩:=c3f_ BK439.out;have hnb30:=NB426_419.out;have hnc30:=NB419_426.out;have hnb31:=NB426_425.out;have hnc31:=NB425_426.out;obtain ⟨hcz32_0,hcz32_1,hfz32_0,hfz32_1⟩:=c2f_ BK426.out)|((with_reducible refine gate_callee (f:=98) rfl ?_);refine goesL_ (some 46) rfl rfl Try.func98 (by kernel_rfl) rfl #[.pointer (some ⟨g425,0,none⟩)] rfl sm_ ?_;(with_reducible refine (impl_reader_num.calls kj15 g425 t436 t437 t438 t440 t441 t442 t443 w _ ?side1 ?side2 A22.out).mono ?_);(case side1=>repeat (first|(with_reducible first|exact HI425.out|apply IsS132.alloc|apply IsS132.drewN|apply IsS132.drew|apply IsS132.set_0|apply IsS132.set_1|apply IsS132.set_2|refine IsS132.far ?_ NB425_419.out _|refine IsS132.far ?_ NB425_426.out _|refine IsS132.far ?_ NB425_439.out _)|exact HI425.out));(case side2=>repeat (first|(with_reducible first|exact HB.out|apply qf|apply qa|apply qd|refine qg ?_ (IsS132.ge HI425.out)|refine qg ?_ GE419.out|refine qg ?_ GE426.out|refine qg ?_ GE439.out)|exact HB.out));rintro e w33 ⟨rfl,hi,hb,hk⟩;refine ⟨_,rfl,?_⟩;replace HO_427001:=qo.mk (Kd.R_mono (Kd.R_keep (IsS132.apart (show IsS132 w _ g425 t436 t437 t438 from by repeat (first|(with_reducible first|exact HI425.out|apply IsS132.alloc|apply IsS132.drewN|apply IsS132.drew|apply IsS132.set_0|apply IsS132.set_1|apply IsS132.set_2|refine IsS132.far ?_ NB425_419.out _|refine IsS132.far ?_ NB425_426.out _|refine IsS132.far ?_ NB425_439.out _)|exact HI425.out)) (by (with_reducible repeat (first|apply Kd.R_alloc|apply Kd.R_drewN|apply Kd.R_drew));exact (Kd.R_mono (Kd.R_far (p:=⟨gb439,2,none⟩) (Kd.R_far (p:=⟨gb439,1,none⟩) (Kd.R_far (p:=⟨gb439,0,none⟩) (Kd.R_mono HO_427001.out (fun k_ hk=>(⟨hk,hk.2⟩ : _ ∧ k_ ≠ gb439))) (fun _ hk=>hk.2) (.string t435)) (fun _ hk=>hk.2) (.string (⟨#[]⟩ : ByteArray))) (fun _ hk=>hk.2) (.int .i64 0)) (fun _ h_=>h_.1))) (by decide)) hk (fun _ h=>h.2)) (fun _ h=>h.1));replace BK419:=qo.mk (KeepBut.blk hk (g':=gb419) (o:=.cells #[.int .i64 0,.slice none 0 0] 76 (0,0)) (by (with_reducible repeat (first|refine qb ?_ _|refine qe ?_|refine qc ?_ _));refine blk_far ?_ NB419_439.out _;(with_reducible repeat (first|refine qb ?_ _|refine qe ?_|refine qc ?_ _));refine blk_far ?_ NB419_439.out _;(with_reducible repeat (first|refine qb ?_ _|refine qe ?_|refine qc ?_ _));refine blk_far ?_ NB419_439.out _;(with_reducible repeat (first|refine qb ?_ _|refine qe ?_|refine qc ?_ _));exact BK419.out) NB419_425.out (by simp));replace BK426:=qo.mk (KeepBut.blk hk (g':=gb426) (o:=.cells #[.int .i64 t427,u427001] 76 (0,0)) (by (with_reducible repeat (first|refine qb ?_ _|refine qe ?_|refine qc ?_ _));refine blk_far ?_ NB426_439.out _;(with_reducible repeat (first|refine qb ?_ _|refine qe ?_|refine qc ?_ _));refine blk_far ?_ NB426_439.out _;(with_reducible repeat (first|refine qb ?_ _|refine qe ?_|refine qc ?_ _));refine blk_far ?_ NB426_439.out _;(with_reducible repeat (first|refine qb ?_ _|refine qe ?_|refine qc ?_ _));exact BK426.out) NB426_425.out (by simp));replace BK439:=qo.mk (KeepBut.blk hk (g':=gb439) (o:=.cells #[.string t435,.string (⟨#[]⟩ : ByteArray),.int .i64 0] 71 (0,0)) (by (with_reducible repeat (first|refine qb ?_ _|refine qe ?_|refine qc ?_ _));refine blk_put (cs:=#[.string t435,.string (⟨#[]⟩ : ByteArray),.int .i64 0]) ?_ 2 _ rfl;(with_reducible repeat (first|refine qb ?_ _|refine qe ?_|refine qc ?_ _));refine blk_put (cs:=#[.string t435,.string (⟨#[]⟩ : ByteArray),.int .i64 0]) ?_ 1 _ rfl;(with_reducible repeat (first|refine qb ?_ _|refine qe ?_|refine qc ?_ _));refine blk_put (cs:=#[.string (⟨#[]⟩ : ByteArray),.string (⟨#[]⟩ : ByteArray),.int .i64 0]) ?_ 0 _ rfl;(with_reducible repeat (first|refine qb ?_ _|refine qe ?_|refine qc ?_ _));exact BK439.out) NB439_425.out (by simp));replace HB:=qo.mk (hb);replace HI425:=qo.mk (hi);(try clear hb);(try clear hb2);(try clear hk);(try clear hi);obtain ⟨hcz34_0,hcz34_1,hcz34_2,hfz34_0,hfz34_1,hfz34_2⟩:=c3f_ BK439.out;obtain ⟨hcz35_0,hcz35_1,hfz35_0,hfz35_1⟩:=c2f_ BK426.out)|((with_reducible refine gate_builtin (b:=.append) (xs:=#[.tmp 52,.tmp 54]) rfl ?_);at_builtin;refine Kd.R_append k71 (w0:=w) w.heap.size rfl (.tmp 52) (.tmp 54) 68 71 (.agg #[(.string ⟨#[]⟩),(.string ⟨#[]⟩),(.int .i64 0)]) 40 rfl Try.underlying68 info71 rfl (by decide) (by omega) u427001 x427001_1 (⟨t435,(⟨#[]⟩ : ByteArray),t440⟩ : S71) [.string t435,.string (⟨#[]⟩ : ByteArray),.int .i64 t440] (fun k_=>k_ ≠ gb439) (fun _=>False) rfl (by first|(go_simp;done)|(go_simp;rfl)) ?aP (fun _ hk=>hk.elim) ?aF ?aO ?aB ?aS ?aL ?_;(case aP=>exact k71_mkM _ _ _ (⟨t435,(⟨#[]⟩ : ByteArray),t440⟩ : S71));(case aB=>exact (by repeat (first|(with_reducible first|exact HB.out|apply qf|apply qa|apply qd|refine qg ?_ (IsS132.ge HI425.out)|refine qg ?_ GE419.out|refine qg ?_ GE426.out|refine qg ?_ GE439.out)|exact HB.out)));(case aF=>exact (fun k_ hk=>Kd.freshB (g:=gb439) (o:=.cells #[.string t435,.string (⟨#[]⟩ : ByteArray),.int .i64 t440] 71 (0,0)) (by (with_reducible repeat (first|refine qb ?_ _|refine qe ?_|refine qc ?_ _));refine blk_put (cs:=#[.string t435,.string (⟨#[]⟩ : ByteArray),.int .i64 0]) ?_ 2 _ rfl;(with_reducible repeat (first|refine qb ?_ _|refine qe ?_|refine qc ?_ _));exact BK439.out) k_ hk));(case aO=>exact (by (with_reducible repeat (first|apply Kd.R_alloc|apply Kd.R_drewN|apply Kd.R_drew));exact Kd.R_mono (Kd.R_far (p:=⟨gb439,2,none⟩) (Kd.R_mono HO_427001.out (fun k_ hk=>(⟨hk,hk.2⟩ : _ ∧ k_ ≠ gb439))) (fun _ hk=>hk.2) (.int .i64 t440)) (fun _ hk=>hk.1.2)));(case aS=>exact (qk (by repeat (first|(with_reducible first|exact HB.out|apply qf|apply qa|apply qd|refine qg ?_ (IsS132.ge HI425.out)|refine qg ?_ GE419.out|refine qg ?_ GE426.out|refine qg ?_ GE439.out)|exact HB.out))));(case aL=>have:=LMc23.out;omega);intro v445 w36 ho hb hg hat;rw [← Ny444.out] at ho;replace BK419:=qo.mk (blk_grown (g:=gb419) (o:=.cells #[.int .i64 0,.slice none 0 0] 76 (0,0)) (by (with_reducible repeat (first|refine qb ?_ _|refine qe ?_|refine qc ?_ _));refine blk_far ?_ NB419_439.out _;(with_reducible repeat (first|refine qb ?_ _|refine qe ?_|refine qc ?_ _));exact BK419.out) hg (Kd.R_ne HO_427001.out BK419.out (by decide)));replace BK426:=qo.mk (blk_grown (g:=gb426) (o:=.cells #[.int .i64 t427,u427001] 76 (0,0)) (by (with_reducible repeat (first|refine qb ?_ _|refine qe ?_|refine qc ?_ _));refine blk_far ?_ NB426_439.out _;(with_reducible repeat (first|refine qb ?_ _|refine qe ?_|refine qc ?_ _));exact BK426.out) hg (Kd.R_ne HO_427001.out BK426.out (by decide)));replace HI425:=qo.mk (IsS132.grown (IsS132.far (p:=⟨gb439,2,none⟩) HI425.out NB425_439.out (.int .i64 t440)) hg (IsS132.own_ne HI425.out HO_427001.out (by decide)));replace BK439:=qo.mk (blk_grown (g:=gb439) (o:=.cells #[.string t435,.string (⟨#[]⟩ : ByteArray),.int .i64 t440] 71 (0,0)) (by (with_reducible repeat (first|refine qb ?_ _|refine qe ?_|refine qc ?_ _));refine blk_put (cs:=#[.string t435,.string (⟨#[]⟩ : ByteArray),.int .i64 0]) ?_ 2 _ rfl;(with_reducible repeat (first|refine qb ?_ _|refine qe ?_|refine qc ?_ _));exact BK439.out) hg (Kd.R_away HO_427001.out (fun _ hk=>hk.2)));replace HB:=qo.mk (hb);have HO446:=qo.mk (ho);clear HO_427001;clear ho hb hg hat;obtain ⟨Ao37,co37,eo37⟩:=Kd.R_slice HO446.out;subst eo37;obtain ⟨hcz38_0,hcz38_1,hfz38_0,hfz38_1⟩:=c2f_ BK426.out))
     go_roundg kj15
     case measure=>have:=HK1.out;have:=HJ15.out;omega
     case rel=>exact ⟨(wrap64 (x8_1 - 1)),(t441),(t442),(t443),(y444),(.slice Ao37 y444.length co37),rs_,H',⟨by have:=HK1.out;have:=HJ15.out;omega⟩,⟨by (with_reducible repeat (first|apply Kd.R_alloc|apply Kd.R_drewN|apply Kd.R_drew));exact Kd.R_mono (Kd.R_far (p:=⟨gb426,1,none⟩) (Kd.R_types HO446.out BK426.out (by decide)) (fun _ hk=>hk.2) (.slice Ao37 y444.length co37)) (fun _ hk=>trivial)⟩,⟨by (with_reducible repeat (first|refine qb ?_ _|refine qe ?_|refine qc ?_ _));refine blk_far ?_ NB419_426.out _;(with_reducible repeat (first|refine qb ?_ _|refine qe ?_|refine qc ?_ _));exact BK419.out⟩,⟨by (with_reducible repeat (first|refine qb ?_ _|refine qe ?_|refine qc ?_ _));refine blk_put (cs:=#[.int .i64 t427,u427001]) ?_ 1 _ rfl;(with_reducible repeat (first|refine qb ?_ _|refine qe ?_|refine qc ?_ _));exact BK426.out⟩,⟨by repeat (first|(with_reducible first|exact HI425.out|apply IsS132.alloc|apply IsS132.drewN|apply IsS132.drew|apply IsS132.set_0|apply IsS132.set_1|apply IsS132.set_2|refine IsS132.far ?_ NB425_419.out _|refine IsS132.far ?_ NB425_426.out _|refine IsS132.far ?_ NB425_439.out _)|exact HI425.out)⟩,⟨by repeat (first|(with_reducible first|exact HB.out|apply qf|apply qa|apply qd|refine qg ?_ (IsS132.ge HI425.out)|refine qg ?_ GE419.out|refine qg ?_ GE426.out|refine qg ?_ GE439.out)|exact HB.out)⟩⟩
    rw [if_neg c23] at H
    exact absurd H (by simp)
   rw [if_neg c21] at H
   have c21b0 : (t427 == 2) = false:=beq_eq_false_iff_ne.mpr c21
   have c21b1 : (t427 != 2) = true:=bne_iff_ne.mpr c21
   replace H:=Option.bind_eq_some_iff.mp H
   obtain ⟨⟨t447,t448,t449,t450⟩,A390,H⟩:=H
   replace H : (if x427001_1.length < 3518437208883 then (impl_ReadPage.l0 kj15 a0 (wrap64 (x8_1 - 1)) t448 t449 t450 t427 (x427001_1 ++ [(⟨t435,t447,0⟩ : S71)])) else (none)) = some (r1,r2,r3):=H
   have A39:=qo.mk A390
   clear A390
   by_cases c40 : x427001_1.length < 3518437208883
   ·rw [if_pos c40] at H
    have LMc40:=qo.mk c40
    clear c40
    obtain ⟨y451,hy451⟩ : ∃ y_ : List (S71),y_ = (x427001_1 ++ [(⟨t435,t447,0⟩ : S71)]):=⟨_,rfl⟩
    replace H : (impl_ReadPage.l0 kj15 a0 (wrap64 (x8_1 - 1)) t448 t449 t450 t427 y451) = some (r1,r2,r3):=by first|(rw [hy451];with_reducible exact H)|(have H2_:=(Option.bind_some _ _).symm.trans H;rw [hy451];with_reducible exact H2_)|(have H2_:=(Option.bind_some _ _).symm.trans H;with_reducible exact H2_)|with_reducible exact H|(rw [hy451];exact H)|exact H
    have Ny451:=qo.mk hy451
    clear hy451
    have H':=qo.mk H
    clear H
    go_wp2_with (first|((with_reducible refine gate_callee (f:=99) rfl ?_);refine goesL_ (some 40) rfl rfl Try.func99 (by kernel_rfl) rfl #[.pointer (some ⟨g425,0,none⟩)] rfl sm_ ?_;(with_reducible refine (impl_reader_short.calls kj15 g425 x426000_1 x426001_1 x426002_1 t435 t436 t437 t438 w _ ?side1 ?side2 A20.out).mono ?_);(case side1=>repeat (first|(with_reducible first|exact HI425.out|apply IsS132.alloc|apply IsS132.drewN|apply IsS132.drew|apply IsS132.set_0|apply IsS132.set_1|apply IsS132.set_2|refine IsS132.far ?_ NB425_419.out _|refine IsS132.far ?_ NB425_426.out _)|exact HI425.out));(case side2=>repeat (first|(with_reducible first|exact HB.out|apply qf|apply qa|apply qd|refine qg ?_ (IsS132.ge HI425.out)|refine qg ?_ GE419.out|refine qg ?_ GE426.out)|exact HB.out));rintro e w41 ⟨rfl,hi,hb,hk⟩;refine ⟨_,rfl,?_⟩;replace HO_427001:=qo.mk (Kd.R_mono (Kd.R_keep (IsS132.apart (show IsS132 w _ g425 x426000_1 x426001_1 x426002_1 from by repeat (first|(with_reducible first|exact HI425.out|apply IsS132.alloc|apply IsS132.drewN|apply IsS132.drew|apply IsS132.set_0|apply IsS132.set_1|apply IsS132.set_2|refine IsS132.far ?_ NB425_419.out _|refine IsS132.far ?_ NB425_426.out _)|exact HI425.out)) (by (with_reducible repeat (first|apply Kd.R_alloc|apply Kd.R_drewN|apply Kd.R_drew));exact HO_427001.out) (by decide)) hk (fun _ h=>h.2)) (fun _ h=>h.1));replace BK419:=qo.mk (KeepBut.blk hk (g':=gb419) (o:=.cells #[.int .i64 0,.slice none 0 0] 76 (0,0)) (bx_ BK419).out NB419_425.out (by simp));replace BK426:=qo.mk (KeepBut.blk hk (g':=gb426) (o:=.cells #[.int .i64 t427,u427001] 76 (0,0)) (bx_ BK426).out NB426_425.out (by simp));replace HB:=qo.mk (hb);replace HI425:=qo.mk (hi);(try clear hb);(try clear hb2);(try clear hk);(try clear hi))|((with_reducible refine gate_dst (N:=9) rfl ?_);refine box_event ?hg (N:=9) ?hd (cs:=#[.string (⟨#[]⟩ : ByteArray),.string (⟨#[]⟩ : ByteArray),.int .i64 0]) (t:=71) ?hr ?_;(case hd=>rfl);(case hg=>rfl);(case hr=>first|(go_simp;done)|(go_simp;rfl));intro gb439 hg w42 hbox hb;have n0_:=qo.mk (Kd.R_below (Kd.R_elderB (by (with_reducible repeat (first|apply Kd.R_alloc|apply Kd.R_drewN|apply Kd.R_drew));exact HO_427001.out) gb439 (Nat.le_of_eq hg.symm)) hb);have n1_:=bb_ BK419 hb;have n2_:=bb_ BK426 hb;have n3_:=qo.mk (IsS132.below (by repeat (first|(with_reducible first|exact HI425.out|apply IsS132.alloc|apply IsS132.drewN|apply IsS132.drew|apply IsS132.set_0|apply IsS132.set_1|apply IsS132.set_2|refine IsS132.far ?_ NB425_419.out _|refine IsS132.far ?_ NB425_426.out _)|exact HI425.out)) hb);have n4_:=qo.mk (qn (by repeat (first|(with_reducible first|exact HB.out|apply qf|apply qa|apply qd|refine qg ?_ (IsS132.ge HI425.out)|refine qg ?_ GE419.out|refine qg ?_ GE426.out)|exact HB.out)) hb);have n5_:=qo.mk (hbox);have n6_:=qo.mk ((by rw [hg];exact (qk (by repeat (first|(with_reducible first|exact HB.out|apply qf|apply qa|apply qd|refine qg ?_ (IsS132.ge HI425.out)|refine qg ?_ GE419.out|refine qg ?_ GE426.out)|exact HB.out))) : w.heap.size ≤ gb439));have n7_:=qo.mk ((by rw [hg];exact (qk (by repeat (first|(with_reducible first|exact HB.out|apply qf|apply qa|apply qd|refine qg ?_ (IsS132.ge HI425.out)|refine qg ?_ GE419.out|refine qg ?_ GE426.out)|exact HB.out))) : w.heap.size ≤ gb439));have n8_:=qo.mk ((by rw [hg];exact nl_ BK419 : gb419 ≠ gb439));have n9_:=qo.mk ((by rw [hg];exact ng_ BK419 : gb439 ≠ gb419));have n10_:=qo.mk ((by rw [hg];exact nl_ BK426 : gb426 ≠ gb439));have n11_:=qo.mk ((by rw [hg];exact ng_ BK426 : gb439 ≠ gb426));have n12_:=qo.mk ((by rw [hg];exact Nat.ne_of_lt (IsS132.lt (show IsS132 w _ g425 t436 t437 t438 from by repeat (first|(with_reducible first|exact HI425.out|apply IsS132.alloc|apply IsS132.drewN|apply IsS132.drew|apply IsS132.set_0|apply IsS132.set_1|apply IsS132.set_2|refine IsS132.far ?_ NB425_419.out _|refine IsS132.far ?_ NB425_426.out _)|exact HI425.out))) : g425 ≠ gb439));have n13_:=qo.mk ((by rw [hg];exact Nat.ne_of_gt (IsS132.lt (show IsS132 w _ g425 t436 t437 t438 from by repeat (first|(with_reducible first|exact HI425.out|apply IsS132.alloc|apply IsS132.drewN|apply IsS132.drew|apply IsS132.set_0|apply IsS132.set_1|apply IsS132.set_2|refine IsS132.far ?_ NB425_419.out _|refine IsS132.far ?_ NB425_426.out _)|exact HI425.out))) : gb439 ≠ g425));clear HO_427001;clear BK419;clear BK426;clear HI425;clear HB;have HO_427001:=n0_;have BK419:=n1_;have BK426:=n2_;have HI425:=n3_;have HB:=n4_;have BK439:=n5_;have GW439:=n6_;have GE439:=n7_;have NB419_439:=n8_;have NB439_419:=n9_;have NB426_439:=n10_;have NB439_426:=n11_;have NB425_439:=n12_;have NB439_425:=n13_;clear n0_ n1_ n2_ n3_ n4_ n5_ n6_ n7_ n8_ n9_ n10_ n11_ n12_ n13_;clear hb hbox hg;have hnb43:=NB439_419.out;have hnc43:=NB419_439.out;have hnb44:=NB439_426.out;have hnc44:=NB426_439.out;have hnb45:=NB439_425.out;have hnc45:=NB425_439.out;obtain ⟨hcz46_0,hcz46_1,hcz46_2,hfz46_0,hfz46_1,hfz46_2⟩:=c3f_ BK439.out;have hnb47:=NB426_419.out;have hnc47:=NB419_426.out;have hnb48:=NB426_425.out;have hnc48:=NB425_426.out;obtain ⟨hcz49_0,hcz49_1,hfz49_0,hfz49_1⟩:=c2f_ BK426.out)|((with_reducible refine gate_callee (f:=99) rfl ?_);refine goesL_ (some 49) rfl rfl Try.func99 (by kernel_rfl) rfl #[.pointer (some ⟨g425,0,none⟩)] rfl sm_ ?_;(with_reducible refine (impl_reader_short.calls kj15 g425 t436 t437 t438 t447 t448 t449 t450 w _ ?side1 ?side2 A39.out).mono ?_);(case side1=>repeat (first|(with_reducible first|exact HI425.out|apply IsS132.alloc|apply IsS132.drewN|apply IsS132.drew|apply IsS132.set_0|apply IsS132.set_1|apply IsS132.set_2|refine IsS132.far ?_ NB425_419.out _|refine IsS132.far ?_ NB425_426.out _|refine IsS132.far ?_ NB425_439.out _)|exact HI425.out));(case side2=>repeat (first|(with_reducible first|exact HB.out|apply qf|apply qa|apply qd|refine qg ?_ (IsS132.ge HI425.out)|refine qg ?_ GE419.out|refine qg ?_ GE426.out|refine qg ?_ GE439.out)|exact HB.out));rintro e w50 ⟨rfl,hi,hb,hk⟩;refine ⟨_,rfl,?_⟩;replace HO_427001:=qo.mk (Kd.R_mono (Kd.R_keep (IsS132.apart (show IsS132 w _ g425 t436 t437 t438 from by repeat (first|(with_reducible first|exact HI425.out|apply IsS132.alloc|apply IsS132.drewN|apply IsS132.drew|apply IsS132.set_0|apply IsS132.set_1|apply IsS132.set_2|refine IsS132.far ?_ NB425_419.out _|refine IsS132.far ?_ NB425_426.out _|refine IsS132.far ?_ NB425_439.out _)|exact HI425.out)) (by (with_reducible repeat (first|apply Kd.R_alloc|apply Kd.R_drewN|apply Kd.R_drew));exact (Kd.R_mono (Kd.R_far (p:=⟨gb439,2,none⟩) (Kd.R_far (p:=⟨gb439,1,none⟩) (Kd.R_far (p:=⟨gb439,0,none⟩) (Kd.R_mono HO_427001.out (fun k_ hk=>(⟨hk,hk.2⟩ : _ ∧ k_ ≠ gb439))) (fun _ hk=>hk.2) (.string t435)) (fun _ hk=>hk.2) (.string (⟨#[]⟩ : ByteArray))) (fun _ hk=>hk.2) (.int .i64 0)) (fun _ h_=>h_.1))) (by decide)) hk (fun _ h=>h.2)) (fun _ h=>h.1));replace BK419:=qo.mk (KeepBut.blk hk (g':=gb419) (o:=.cells #[.int .i64 0,.slice none 0 0] 76 (0,0)) (by (with_reducible repeat (first|refine qb ?_ _|refine qe ?_|refine qc ?_ _));refine blk_far ?_ NB419_439.out _;(with_reducible repeat (first|refine qb ?_ _|refine qe ?_|refine qc ?_ _));refine blk_far ?_ NB419_439.out _;(with_reducible repeat (first|refine qb ?_ _|refine qe ?_|refine qc ?_ _));refine blk_far ?_ NB419_439.out _;(with_reducible repeat (first|refine qb ?_ _|refine qe ?_|refine qc ?_ _));exact BK419.out) NB419_425.out (by simp));replace BK426:=qo.mk (KeepBut.blk hk (g':=gb426) (o:=.cells #[.int .i64 t427,u427001] 76 (0,0)) (by (with_reducible repeat (first|refine qb ?_ _|refine qe ?_|refine qc ?_ _));refine blk_far ?_ NB426_439.out _;(with_reducible repeat (first|refine qb ?_ _|refine qe ?_|refine qc ?_ _));refine blk_far ?_ NB426_439.out _;(with_reducible repeat (first|refine qb ?_ _|refine qe ?_|refine qc ?_ _));refine blk_far ?_ NB426_439.out _;(with_reducible repeat (first|refine qb ?_ _|refine qe ?_|refine qc ?_ _));exact BK426.out) NB426_425.out (by simp));replace BK439:=qo.mk (KeepBut.blk hk (g':=gb439) (o:=.cells #[.string t435,.string (⟨#[]⟩ : ByteArray),.int .i64 0] 71 (0,0)) (by (with_reducible repeat (first|refine qb ?_ _|refine qe ?_|refine qc ?_ _));refine blk_put (cs:=#[.string t435,.string (⟨#[]⟩ : ByteArray),.int .i64 0]) ?_ 2 _ rfl;(with_reducible repeat (first|refine qb ?_ _|refine qe ?_|refine qc ?_ _));refine blk_put (cs:=#[.string t435,.string (⟨#[]⟩ : ByteArray),.int .i64 0]) ?_ 1 _ rfl;(with_reducible repeat (first|refine qb ?_ _|refine qe ?_|refine qc ?_ _));refine blk_put (cs:=#[.string (⟨#[]⟩ : ByteArray),.string (⟨#[]⟩ : ByteArray),.int .i64 0]) ?_ 0 _ rfl;(with_reducible repeat (first|refine qb ?_ _|refine qe ?_|refine qc ?_ _));exact BK439.out) NB439_425.out (by simp));replace HB:=qo.mk (hb);replace HI425:=qo.mk (hi);(try clear hb);(try clear hb2);(try clear hk);(try clear hi);obtain ⟨hcz51_0,hcz51_1,hcz51_2,hfz51_0,hfz51_1,hfz51_2⟩:=c3f_ BK439.out;obtain ⟨hcz52_0,hcz52_1,hfz52_0,hfz52_1⟩:=c2f_ BK426.out)|((with_reducible refine gate_builtin (b:=.append) (xs:=#[.tmp 52,.tmp 54]) rfl ?_);at_builtin;refine Kd.R_append k71 (w0:=w) w.heap.size rfl (.tmp 52) (.tmp 54) 68 71 (.agg #[(.string ⟨#[]⟩),(.string ⟨#[]⟩),(.int .i64 0)]) 40 rfl Try.underlying68 info71 rfl (by decide) (by omega) u427001 x427001_1 (⟨t435,t447,0⟩ : S71) [.string t435,.string t447,.int .i64 0] (fun k_=>k_ ≠ gb439) (fun _=>False) rfl (by first|(go_simp;done)|(go_simp;rfl)) ?aP (fun _ hk=>hk.elim) ?aF ?aO ?aB ?aS ?aL ?_;(case aP=>exact k71_mkM _ _ _ (⟨t435,t447,0⟩ : S71));(case aB=>exact (by repeat (first|(with_reducible first|exact HB.out|apply qf|apply qa|apply qd|refine qg ?_ (IsS132.ge HI425.out)|refine qg ?_ GE419.out|refine qg ?_ GE426.out|refine qg ?_ GE439.out)|exact HB.out)));(case aF=>exact (fun k_ hk=>Kd.freshB (g:=gb439) (o:=.cells #[.string t435,.string t447,.int .i64 0] 71 (0,0)) (by (with_reducible repeat (first|refine qb ?_ _|refine qe ?_|refine qc ?_ _));refine blk_put (cs:=#[.string t435,.string (⟨#[]⟩ : ByteArray),.int .i64 0]) ?_ 1 _ rfl;(with_reducible repeat (first|refine qb ?_ _|refine qe ?_|refine qc ?_ _));exact BK439.out) k_ hk));(case aO=>exact (by (with_reducible repeat (first|apply Kd.R_alloc|apply Kd.R_drewN|apply Kd.R_drew));exact Kd.R_mono (Kd.R_far (p:=⟨gb439,1,none⟩) (Kd.R_mono HO_427001.out (fun k_ hk=>(⟨hk,hk.2⟩ : _ ∧ k_ ≠ gb439))) (fun _ hk=>hk.2) (.string t447)) (fun _ hk=>hk.1.2)));(case aS=>exact (qk (by repeat (first|(with_reducible first|exact HB.out|apply qf|apply qa|apply qd|refine qg ?_ (IsS132.ge HI425.out)|refine qg ?_ GE419.out|refine qg ?_ GE426.out|refine qg ?_ GE439.out)|exact HB.out))));(case aL=>have:=LMc40.out;omega);intro v452 w53 ho hb hg hat;rw [← Ny451.out] at ho;replace BK419:=qo.mk (blk_grown (g:=gb419) (o:=.cells #[.int .i64 0,.slice none 0 0] 76 (0,0)) (by (with_reducible repeat (first|refine qb ?_ _|refine qe ?_|refine qc ?_ _));refine blk_far ?_ NB419_439.out _;(with_reducible repeat (first|refine qb ?_ _|refine qe ?_|refine qc ?_ _));exact BK419.out) hg (Kd.R_ne HO_427001.out BK419.out (by decide)));replace BK426:=qo.mk (blk_grown (g:=gb426) (o:=.cells #[.int .i64 t427,u427001] 76 (0,0)) (by (with_reducible repeat (first|refine qb ?_ _|refine qe ?_|refine qc ?_ _));refine blk_far ?_ NB426_439.out _;(with_reducible repeat (first|refine qb ?_ _|refine qe ?_|refine qc ?_ _));exact BK426.out) hg (Kd.R_ne HO_427001.out BK426.out (by decide)));replace HI425:=qo.mk (IsS132.grown (IsS132.far (p:=⟨gb439,1,none⟩) HI425.out NB425_439.out (.string t447)) hg (IsS132.own_ne HI425.out HO_427001.out (by decide)));replace BK439:=qo.mk (blk_grown (g:=gb439) (o:=.cells #[.string t435,.string t447,.int .i64 0] 71 (0,0)) (by (with_reducible repeat (first|refine qb ?_ _|refine qe ?_|refine qc ?_ _));refine blk_put (cs:=#[.string t435,.string (⟨#[]⟩ : ByteArray),.int .i64 0]) ?_ 1 _ rfl;(with_reducible repeat (first|refine qb ?_ _|refine qe ?_|refine qc ?_ _));exact BK439.out) hg (Kd.R_away HO_427001.out (fun _ hk=>hk.2)));replace HB:=qo.mk (hb);have HO453:=qo.mk (ho);clear HO_427001;clear ho hb hg hat;obtain ⟨Ao54,co54,eo54⟩:=Kd.R_slice HO453.out;subst eo54;obtain ⟨hcz55_0,hcz55_1,hfz55_0,hfz55_1⟩:=c2f_ BK426.out))
    go_roundg kj15
    case measure=>have:=HK1.out;have:=HJ15.out;omega
    case rel=>exact ⟨(wrap64 (x8_1 - 1)),(t448),(t449),(t450),(y451),(.slice Ao54 y451.length co54),rs_,H',⟨by have:=HK1.out;have:=HJ15.out;omega⟩,⟨by (with_reducible repeat (first|apply Kd.R_alloc|apply Kd.R_drewN|apply Kd.R_drew));exact Kd.R_mono (Kd.R_far (p:=⟨gb426,1,none⟩) (Kd.R_types HO453.out BK426.out (by decide)) (fun _ hk=>hk.2) (.slice Ao54 y451.length co54)) (fun _ hk=>trivial)⟩,⟨by (with_reducible repeat (first|refine qb ?_ _|refine qe ?_|refine qc ?_ _));refine blk_far ?_ NB419_426.out _;(with_reducible repeat (first|refine qb ?_ _|refine qe ?_|refine qc ?_ _));exact BK419.out⟩,⟨by (with_reducible repeat (first|refine qb ?_ _|refine qe ?_|refine qc ?_ _));refine blk_put (cs:=#[.int .i64 t427,u427001]) ?_ 1 _ rfl;(with_reducible repeat (first|refine qb ?_ _|refine qe ?_|refine qc ?_ _));exact BK426.out⟩,⟨by repeat (first|(with_reducible first|exact HI425.out|apply IsS132.alloc|apply IsS132.drewN|apply IsS132.drew|apply IsS132.set_0|apply IsS132.set_1|apply IsS132.set_2|refine IsS132.far ?_ NB425_419.out _|refine IsS132.far ?_ NB425_426.out _|refine IsS132.far ?_ NB425_439.out _)|exact HI425.out)⟩,⟨by repeat (first|(with_reducible first|exact HB.out|apply qf|apply qa|apply qd|refine qg ?_ (IsS132.ge HI425.out)|refine qg ?_ GE419.out|refine qg ?_ GE426.out|refine qg ?_ GE439.out)|exact HB.out)⟩⟩
   rw [if_neg c40] at H
   exact absurd H (by simp)
  replace c19:=Bool.eq_false_iff.mpr c19
  subst c19
  have H1 : ((impl_PageText.f kj15 t427 x427001_1).bind fun bt454=>((impl_reader_ends.f x426000_1 x426001_1 x426002_1).bind fun bt456=>(if bt456.1 = true then (if bt454.2 = true then (if bt454.1.toList = a0.toList then (some (t427,x427001_1,true)) else (some (0,([] : List (S71)),false))) else (some (0,([] : List (S71)),false))) else (some (0,([] : List (S71)),false))))) = some (r1,r2,r3):=by rw [if_neg (show ¬ (false = true) by decide)] at H;exact H
  clear H
  have H:=H1
  clear H1
  replace H:=Option.bind_eq_some_iff.mp H
  obtain ⟨⟨t454,t455⟩,A560,H⟩:=H
  replace H : ((impl_reader_ends.f x426000_1 x426001_1 x426002_1).bind fun bt456=>(if bt456.1 = true then (if t455 = true then (if t454.toList = a0.toList then (some (t427,x427001_1,true)) else (some (0,([] : List (S71)),false))) else (some (0,([] : List (S71)),false))) else (some (0,([] : List (S71)),false)))) = some (r1,r2,r3):=H
  have A56:=qo.mk A560
  clear A560
  replace H:=Option.bind_eq_some_iff.mp H
  obtain ⟨⟨t456,t457,t458,t459⟩,A570,H⟩:=H
  replace H : (if t456 = true then (if t455 = true then (if t454.toList = a0.toList then (some (t427,x427001_1,true)) else (some (0,([] : List (S71)),false))) else (some (0,([] : List (S71)),false))) else (some (0,([] : List (S71)),false))) = some (r1,r2,r3):=H
  have A57:=qo.mk A570
  clear A570
  by_cases c58 : t456 = true
  ·subst c58
   have H1 : (if t455 = true then (if t454.toList = a0.toList then (some (t427,x427001_1,true)) else (some (0,([] : List (S71)),false))) else (some (0,([] : List (S71)),false))) = some (r1,r2,r3):=by rw [if_pos rfl] at H;exact H
   clear H
   have H:=H1
   clear H1
   by_cases c59 : t455 = true
   ·subst c59
    have H1 : (if t454.toList = a0.toList then (some (t427,x427001_1,true)) else (some (0,([] : List (S71)),false))) = some (r1,r2,r3):=by rw [if_pos rfl] at H;exact H
    clear H
    have H:=H1
    clear H1
    by_cases c60 : t454.toList = a0.toList
    ·rw [if_pos c60] at H
     have c60b0 : (t454.toList == a0.toList) = true:=beq_iff_eq.mpr c60
     have c60b1 : (t454.toList != a0.toList) = false:=bne_eq_false_iff_eq.mpr c60
     clear c60
     simp only [Option.some.injEq,Prod.mk.injEq] at H
     obtain ⟨rfl,rfl,rfl⟩:=H
     have hnb61:=NB426_419.out
     have hnc61:=NB419_426.out
     have hnb62:=NB426_425.out
     have hnc62:=NB425_426.out
     obtain ⟨hcz63_0,hcz63_1,hfz63_0,hfz63_1⟩:=c2f_ BK426.out
     obtain ⟨Ao64,co64,eo64⟩:=Kd.R_slice HO_427001.out
     subst eo64
     go_wp2_with (first|((with_reducible refine gate_callee (f:=71) rfl ?_);refine goesL_ (some 59) rfl rfl Try.func71 (by kernel_rfl) rfl #[.agg #[.int .i64 t427,.slice Ao64 x427001_1.length co64]] rfl sm_ ?_;(with_reducible refine (impl_PageText.calls kj15 t427 _ _ x427001_1 t454 true _ ?side1 ?side2 A56.out).mono ?_);(case side1=>repeat (first|exact (Kd.R_reads' HO_427001.out).2.2|(with_reducible refine Kd.C_alloc ?_ _)|(with_reducible refine Kd.C_drewN ?_ _)|(with_reducible refine Kd.C_drew ?_)));(case side2=>exact (Kd.R_reads' HO_427001.out).2.1);rintro e w65 ⟨rfl,hb⟩;refine ⟨_,rfl,?_⟩;have n0_:=rb_ HO_427001 hb;have n1_:=bb_ BK419 hb;have n2_:=bb_ BK426 hb;have n3_:=qo.mk (IsS132.below (by repeat (first|(with_reducible first|exact HI425.out|apply IsS132.alloc|apply IsS132.drewN|apply IsS132.drew|apply IsS132.set_0|apply IsS132.set_1|apply IsS132.set_2|refine IsS132.far ?_ NB425_419.out _|refine IsS132.far ?_ NB425_426.out _)|exact HI425.out)) hb);have n4_:=qo.mk (qn (by repeat (first|(with_reducible first|exact HB.out|apply qf|apply qa|apply qd|refine qg ?_ (IsS132.ge HI425.out)|refine qg ?_ GE419.out|refine qg ?_ GE426.out)|exact HB.out)) hb);clear HO_427001;clear BK419;clear BK426;clear HI425;clear HB;have HO_427001:=n0_;have BK419:=n1_;have BK426:=n2_;have HI425:=n3_;have HB:=n4_;clear n0_ n1_ n2_ n3_ n4_;(try clear hb);(try clear hb2);(try clear hk);(try clear hi))|((with_reducible refine gate_callee (f:=100) rfl ?_);refine goesL_ (some 63) rfl rfl Try.func100 (by kernel_rfl) rfl #[.pointer (some ⟨g425,0,none⟩)] rfl sm_ ?_;(with_reducible refine (impl_reader_ends.calls g425 x426000_1 x426001_1 x426002_1 true t457 t458 t459 w _ ?side1 ?side2 A57.out).mono ?_);(case side1=>repeat (first|(with_reducible first|exact HI425.out|apply IsS132.alloc|apply IsS132.drewN|apply IsS132.drew|apply IsS132.set_0|apply IsS132.set_1|apply IsS132.set_2|refine IsS132.far ?_ NB425_419.out _|refine IsS132.far ?_ NB425_426.out _)|exact HI425.out));(case side2=>repeat (first|(with_reducible first|exact HB.out|apply qf|apply qa|apply qd|refine qg ?_ (IsS132.ge HI425.out)|refine qg ?_ GE419.out|refine qg ?_ GE426.out)|exact HB.out));rintro e w66 ⟨rfl,hi,hb,hk⟩;refine ⟨_,rfl,?_⟩;replace HO_427001:=qo.mk (Kd.R_mono (Kd.R_keep (IsS132.apart (show IsS132 w _ g425 x426000_1 x426001_1 x426002_1 from by repeat (first|(with_reducible first|exact HI425.out|apply IsS132.alloc|apply IsS132.drewN|apply IsS132.drew|apply IsS132.set_0|apply IsS132.set_1|apply IsS132.set_2|refine IsS132.far ?_ NB425_419.out _|refine IsS132.far ?_ NB425_426.out _)|exact HI425.out)) (by (with_reducible repeat (first|apply Kd.R_alloc|apply Kd.R_drewN|apply Kd.R_drew));exact HO_427001.out) (by decide)) hk (fun _ h=>h.2)) (fun _ h=>h.1));replace BK419:=qo.mk (KeepBut.blk hk (g':=gb419) (o:=.cells #[.int .i64 0,.slice none 0 0] 76 (0,0)) (bx_ BK419).out NB419_425.out (by simp));replace BK426:=qo.mk (KeepBut.blk hk (g':=gb426) (o:=.cells #[.int .i64 t427,.slice Ao64 x427001_1.length co64] 76 (0,0)) (bx_ BK426).out NB426_425.out (by simp));replace HB:=qo.mk (hb);replace HI425:=qo.mk (hi);(try clear hb);(try clear hb2);(try clear hk);(try clear hi);obtain ⟨hcz67_0,hcz67_1,hfz67_0,hfz67_1⟩:=c2f_ BK426.out;have hnb68:=NB419_425.out;have hnc68:=NB425_419.out;obtain ⟨hcz69_0,hcz69_1,hfz69_0,hfz69_1⟩:=c2f_ BK419.out))
     refine bodyPost_ret (results_ct rfl _ _ gb419 76 #[.int .i64 t427,.slice Ao64 x427001_1.length co64] (0,0) _ rfl (by (with_reducible repeat (first|refine qb ?_ _|refine qe ?_|refine qc ?_ _));refine blk_put (cs:=#[.int .i64 t427,.slice none 0 0]) ?_ 1 _ rfl;(with_reducible repeat (first|refine qb ?_ _|refine qe ?_|refine qc ?_ _));refine blk_put (cs:=#[.int .i64 0,.slice none 0 0]) ?_ 0 _ rfl;(with_reducible repeat (first|refine qb ?_ _|refine qe ?_|refine qc ?_ _));exact BK419.out) Try.underlying76 rfl (by kernel_rfl)) rfl ?_
     exact ⟨_,rt_,by (with_reducible repeat (first|apply Kd.R_alloc|apply Kd.R_drewN|apply Kd.R_drew));exact Kd.R_mono (Kd.R_far (p:=⟨gb419,1,none⟩) (Kd.R_far (p:=⟨gb419,0,none⟩) (Kd.R_types HO_427001.out BK419.out (by decide)) (fun _ hk=>hk.2) (.int .i64 t427)) (fun _ hk=>hk.2) (.slice Ao64 x427001_1.length co64)) (fun _ hk=>trivial),by repeat (first|(with_reducible first|exact HB.out|apply qf|apply qa|apply qd|refine qg ?_ (IsS132.ge HI425.out)|refine qg ?_ GE419.out|refine qg ?_ GE426.out)|exact HB.out)⟩
    rw [if_neg c60] at H
    have c60b0 : (t454.toList == a0.toList) = false:=beq_eq_false_iff_ne.mpr c60
    have c60b1 : (t454.toList != a0.toList) = true:=bne_iff_ne.mpr c60
    simp only [Option.some.injEq,Prod.mk.injEq] at H
    obtain ⟨rfl,rfl,rfl⟩:=H
    have hnb70:=NB426_419.out
    have hnc70:=NB419_426.out
    have hnb71:=NB426_425.out
    have hnc71:=NB425_426.out
    obtain ⟨hcz72_0,hcz72_1,hfz72_0,hfz72_1⟩:=c2f_ BK426.out
    obtain ⟨Ao73,co73,eo73⟩:=Kd.R_slice HO_427001.out
    subst eo73
    go_wp2_with (first|((with_reducible refine gate_callee (f:=71) rfl ?_);refine goesL_ (some 59) rfl rfl Try.func71 (by kernel_rfl) rfl #[.agg #[.int .i64 t427,.slice Ao73 x427001_1.length co73]] rfl sm_ ?_;(with_reducible refine (impl_PageText.calls kj15 t427 _ _ x427001_1 t454 true _ ?side1 ?side2 A56.out).mono ?_);(case side1=>repeat (first|exact (Kd.R_reads' HO_427001.out).2.2|(with_reducible refine Kd.C_alloc ?_ _)|(with_reducible refine Kd.C_drewN ?_ _)|(with_reducible refine Kd.C_drew ?_)));(case side2=>exact (Kd.R_reads' HO_427001.out).2.1);rintro e w74 ⟨rfl,hb⟩;refine ⟨_,rfl,?_⟩;have n0_:=rb_ HO_427001 hb;have n1_:=bb_ BK419 hb;have n2_:=bb_ BK426 hb;have n3_:=qo.mk (IsS132.below (by repeat (first|(with_reducible first|exact HI425.out|apply IsS132.alloc|apply IsS132.drewN|apply IsS132.drew|apply IsS132.set_0|apply IsS132.set_1|apply IsS132.set_2|refine IsS132.far ?_ NB425_419.out _|refine IsS132.far ?_ NB425_426.out _)|exact HI425.out)) hb);have n4_:=qo.mk (qn (by repeat (first|(with_reducible first|exact HB.out|apply qf|apply qa|apply qd|refine qg ?_ (IsS132.ge HI425.out)|refine qg ?_ GE419.out|refine qg ?_ GE426.out)|exact HB.out)) hb);clear HO_427001;clear BK419;clear BK426;clear HI425;clear HB;have HO_427001:=n0_;have BK419:=n1_;have BK426:=n2_;have HI425:=n3_;have HB:=n4_;clear n0_ n1_ n2_ n3_ n4_;(try clear hb);(try clear hb2);(try clear hk);(try clear hi))|((with_reducible refine gate_callee (f:=100) rfl ?_);refine goesL_ (some 63) rfl rfl Try.func100 (by kernel_rfl) rfl #[.pointer (some ⟨g425,0,none⟩)] rfl sm_ ?_;(with_reducible refine (impl_reader_ends.calls g425 x426000_1 x426001_1 x426002_1 true t457 t458 t459 w _ ?side1 ?side2 A57.out).mono ?_);(case side1=>repeat (first|(with_reducible first|exact HI425.out|apply IsS132.alloc|apply IsS132.drewN|apply IsS132.drew|apply IsS132.set_0|apply IsS132.set_1|apply IsS132.set_2|refine IsS132.far ?_ NB425_419.out _|refine IsS132.far ?_ NB425_426.out _)|exact HI425.out));(case side2=>repeat (first|(with_reducible first|exact HB.out|apply qf|apply qa|apply qd|refine qg ?_ (IsS132.ge HI425.out)|refine qg ?_ GE419.out|refine qg ?_ GE426.out)|exact HB.out));rintro e w75 ⟨rfl,hi,hb,hk⟩;refine ⟨_,rfl,?_⟩;replace HO_427001:=qo.mk (Kd.R_mono (Kd.R_keep (IsS132.apart (show IsS132 w _ g425 x426000_1 x426001_1 x426002_1 from by repeat (first|(with_reducible first|exact HI425.out|apply IsS132.alloc|apply IsS132.drewN|apply IsS132.drew|apply IsS132.set_0|apply IsS132.set_1|apply IsS132.set_2|refine IsS132.far ?_ NB425_419.out _|refine IsS132.far ?_ NB425_426.out _)|exact HI425.out)) (by (with_reducible repeat (first|apply Kd.R_alloc|apply Kd.R_drewN|apply Kd.R_drew));exact HO_427001.out) (by decide)) hk (fun _ h=>h.2)) (fun _ h=>h.1));replace BK419:=qo.mk (KeepBut.blk hk (g':=gb419) (o:=.cells #[.int .i64 0,.slice none 0 0] 76 (0,0)) (bx_ BK419).out NB419_425.out (by simp));replace BK426:=qo.mk (KeepBut.blk hk (g':=gb426) (o:=.cells #[.int .i64 t427,.slice Ao73 x427001_1.length co73] 76 (0,0)) (bx_ BK426).out NB426_425.out (by simp));replace HB:=qo.mk (hb);replace HI425:=qo.mk (hi);(try clear hb);(try clear hb2);(try clear hk);(try clear hi);have hnb76:=NB419_425.out;have hnc76:=NB425_419.out;obtain ⟨hcz77_0,hcz77_1,hfz77_0,hfz77_1⟩:=c2f_ BK419.out))
    refine bodyPost_ret (results_ct rfl _ _ gb419 76 #[.int .i64 0,.slice none 0 0] (0,0) _ rfl (by (with_reducible repeat (first|refine qb ?_ _|refine qe ?_|refine qc ?_ _));refine blk_put (cs:=#[.int .i64 0,.slice none 0 0]) ?_ 1 _ rfl;(with_reducible repeat (first|refine qb ?_ _|refine qe ?_|refine qc ?_ _));refine blk_put (cs:=#[.int .i64 0,.slice none 0 0]) ?_ 0 _ rfl;(with_reducible repeat (first|refine qb ?_ _|refine qe ?_|refine qc ?_ _));exact BK419.out) Try.underlying76 rfl (by kernel_rfl)) rfl ?_
    exact ⟨_,rt_,by first|exact Kd.R_nil _ _ _ _ _|exact Kd.N_nil _ _ _ _ _|exact Kd.V_nil _ _ _ _ _|exact Kd.Q_nil _ _ _ _ _|exact Kd.S_nil _ _ _ _ _,by repeat (first|(with_reducible first|exact HB.out|apply qf|apply qa|apply qd|refine qg ?_ (IsS132.ge HI425.out)|refine qg ?_ GE419.out|refine qg ?_ GE426.out)|exact HB.out)⟩
   replace c59:=Bool.eq_false_iff.mpr c59
   subst c59
   have H1 : (some (0,([] : List (S71)),false)) = some (r1,r2,r3):=by rw [if_neg (show ¬ (false = true) by decide)] at H;exact H
   clear H
   have H:=H1
   clear H1
   simp only [Option.some.injEq,Prod.mk.injEq] at H
   obtain ⟨rfl,rfl,rfl⟩:=H
   have hnb78:=NB426_419.out
   have hnc78:=NB419_426.out
   have hnb79:=NB426_425.out
   have hnc79:=NB425_426.out
   obtain ⟨hcz80_0,hcz80_1,hfz80_0,hfz80_1⟩:=c2f_ BK426.out
   obtain ⟨Ao81,co81,eo81⟩:=Kd.R_slice HO_427001.out
   subst eo81
   go_wp2_with (first|((with_reducible refine gate_callee (f:=71) rfl ?_);refine goesL_ (some 59) rfl rfl Try.func71 (by kernel_rfl) rfl #[.agg #[.int .i64 t427,.slice Ao81 x427001_1.length co81]] rfl sm_ ?_;(with_reducible refine (impl_PageText.calls kj15 t427 _ _ x427001_1 t454 false _ ?side1 ?side2 A56.out).mono ?_);(case side1=>repeat (first|exact (Kd.R_reads' HO_427001.out).2.2|(with_reducible refine Kd.C_alloc ?_ _)|(with_reducible refine Kd.C_drewN ?_ _)|(with_reducible refine Kd.C_drew ?_)));(case side2=>exact (Kd.R_reads' HO_427001.out).2.1);rintro e w82 ⟨rfl,hb⟩;refine ⟨_,rfl,?_⟩;have n0_:=rb_ HO_427001 hb;have n1_:=bb_ BK419 hb;have n2_:=bb_ BK426 hb;have n3_:=qo.mk (IsS132.below (by repeat (first|(with_reducible first|exact HI425.out|apply IsS132.alloc|apply IsS132.drewN|apply IsS132.drew|apply IsS132.set_0|apply IsS132.set_1|apply IsS132.set_2|refine IsS132.far ?_ NB425_419.out _|refine IsS132.far ?_ NB425_426.out _)|exact HI425.out)) hb);have n4_:=qo.mk (qn (by repeat (first|(with_reducible first|exact HB.out|apply qf|apply qa|apply qd|refine qg ?_ (IsS132.ge HI425.out)|refine qg ?_ GE419.out|refine qg ?_ GE426.out)|exact HB.out)) hb);clear HO_427001;clear BK419;clear BK426;clear HI425;clear HB;have HO_427001:=n0_;have BK419:=n1_;have BK426:=n2_;have HI425:=n3_;have HB:=n4_;clear n0_ n1_ n2_ n3_ n4_;(try clear hb);(try clear hb2);(try clear hk);(try clear hi))|((with_reducible refine gate_callee (f:=100) rfl ?_);refine goesL_ (some 63) rfl rfl Try.func100 (by kernel_rfl) rfl #[.pointer (some ⟨g425,0,none⟩)] rfl sm_ ?_;(with_reducible refine (impl_reader_ends.calls g425 x426000_1 x426001_1 x426002_1 true t457 t458 t459 w _ ?side1 ?side2 A57.out).mono ?_);(case side1=>repeat (first|(with_reducible first|exact HI425.out|apply IsS132.alloc|apply IsS132.drewN|apply IsS132.drew|apply IsS132.set_0|apply IsS132.set_1|apply IsS132.set_2|refine IsS132.far ?_ NB425_419.out _|refine IsS132.far ?_ NB425_426.out _)|exact HI425.out));(case side2=>repeat (first|(with_reducible first|exact HB.out|apply qf|apply qa|apply qd|refine qg ?_ (IsS132.ge HI425.out)|refine qg ?_ GE419.out|refine qg ?_ GE426.out)|exact HB.out));rintro e w83 ⟨rfl,hi,hb,hk⟩;refine ⟨_,rfl,?_⟩;replace HO_427001:=qo.mk (Kd.R_mono (Kd.R_keep (IsS132.apart (show IsS132 w _ g425 x426000_1 x426001_1 x426002_1 from by repeat (first|(with_reducible first|exact HI425.out|apply IsS132.alloc|apply IsS132.drewN|apply IsS132.drew|apply IsS132.set_0|apply IsS132.set_1|apply IsS132.set_2|refine IsS132.far ?_ NB425_419.out _|refine IsS132.far ?_ NB425_426.out _)|exact HI425.out)) (by (with_reducible repeat (first|apply Kd.R_alloc|apply Kd.R_drewN|apply Kd.R_drew));exact HO_427001.out) (by decide)) hk (fun _ h=>h.2)) (fun _ h=>h.1));replace BK419:=qo.mk (KeepBut.blk hk (g':=gb419) (o:=.cells #[.int .i64 0,.slice none 0 0] 76 (0,0)) (bx_ BK419).out NB419_425.out (by simp));replace BK426:=qo.mk (KeepBut.blk hk (g':=gb426) (o:=.cells #[.int .i64 t427,.slice Ao81 x427001_1.length co81] 76 (0,0)) (bx_ BK426).out NB426_425.out (by simp));replace HB:=qo.mk (hb);replace HI425:=qo.mk (hi);(try clear hb);(try clear hb2);(try clear hk);(try clear hi);have hnb84:=NB419_425.out;have hnc84:=NB425_419.out;obtain ⟨hcz85_0,hcz85_1,hfz85_0,hfz85_1⟩:=c2f_ BK419.out))
   refine bodyPost_ret (results_ct rfl _ _ gb419 76 #[.int .i64 0,.slice none 0 0] (0,0) _ rfl (by (with_reducible repeat (first|refine qb ?_ _|refine qe ?_|refine qc ?_ _));refine blk_put (cs:=#[.int .i64 0,.slice none 0 0]) ?_ 1 _ rfl;(with_reducible repeat (first|refine qb ?_ _|refine qe ?_|refine qc ?_ _));refine blk_put (cs:=#[.int .i64 0,.slice none 0 0]) ?_ 0 _ rfl;(with_reducible repeat (first|refine qb ?_ _|refine qe ?_|refine qc ?_ _));exact BK419.out) Try.underlying76 rfl (by kernel_rfl)) rfl ?_
   exact ⟨_,rt_,by first|exact Kd.R_nil _ _ _ _ _|exact Kd.N_nil _ _ _ _ _|exact Kd.V_nil _ _ _ _ _|exact Kd.Q_nil _ _ _ _ _|exact Kd.S_nil _ _ _ _ _,by repeat (first|(with_reducible first|exact HB.out|apply qf|apply qa|apply qd|refine qg ?_ (IsS132.ge HI425.out)|refine qg ?_ GE419.out|refine qg ?_ GE426.out)|exact HB.out)⟩
  replace c58:=Bool.eq_false_iff.mpr c58
  subst c58
  have H1 : (some (0,([] : List (S71)),false)) = some (r1,r2,r3):=by rw [if_neg (show ¬ (false = true) by decide)] at H;exact H
  clear H
  have H:=H1
  clear H1
  simp only [Option.some.injEq,Prod.mk.injEq] at H
  obtain ⟨rfl,rfl,rfl⟩:=H
  have hnb86:=NB426_419.out
  have hnc86:=NB419_426.out
  have hnb87:=NB426_425.out
  have hnc87:=NB425_426.out
  obtain ⟨hcz88_0,hcz88_1,hfz88_0,hfz88_1⟩:=c2f_ BK426.out
  obtain ⟨Ao89,co89,eo89⟩:=Kd.R_slice HO_427001.out
  subst eo89
  go_wp2_with (first|((with_reducible refine gate_callee (f:=71) rfl ?_);refine goesL_ (some 59) rfl rfl Try.func71 (by kernel_rfl) rfl #[.agg #[.int .i64 t427,.slice Ao89 x427001_1.length co89]] rfl sm_ ?_;(with_reducible refine (impl_PageText.calls kj15 t427 _ _ x427001_1 t454 t455 _ ?side1 ?side2 A56.out).mono ?_);(case side1=>repeat (first|exact (Kd.R_reads' HO_427001.out).2.2|(with_reducible refine Kd.C_alloc ?_ _)|(with_reducible refine Kd.C_drewN ?_ _)|(with_reducible refine Kd.C_drew ?_)));(case side2=>exact (Kd.R_reads' HO_427001.out).2.1);rintro e w90 ⟨rfl,hb⟩;refine ⟨_,rfl,?_⟩;have n0_:=rb_ HO_427001 hb;have n1_:=bb_ BK419 hb;have n2_:=bb_ BK426 hb;have n3_:=qo.mk (IsS132.below (by repeat (first|(with_reducible first|exact HI425.out|apply IsS132.alloc|apply IsS132.drewN|apply IsS132.drew|apply IsS132.set_0|apply IsS132.set_1|apply IsS132.set_2|refine IsS132.far ?_ NB425_419.out _|refine IsS132.far ?_ NB425_426.out _)|exact HI425.out)) hb);have n4_:=qo.mk (qn (by repeat (first|(with_reducible first|exact HB.out|apply qf|apply qa|apply qd|refine qg ?_ (IsS132.ge HI425.out)|refine qg ?_ GE419.out|refine qg ?_ GE426.out)|exact HB.out)) hb);clear HO_427001;clear BK419;clear BK426;clear HI425;clear HB;have HO_427001:=n0_;have BK419:=n1_;have BK426:=n2_;have HI425:=n3_;have HB:=n4_;clear n0_ n1_ n2_ n3_ n4_;(try clear hb);(try clear hb2);(try clear hk);(try clear hi))|((with_reducible refine gate_callee (f:=100) rfl ?_);refine goesL_ (some 63) rfl rfl Try.func100 (by kernel_rfl) rfl #[.pointer (some ⟨g425,0,none⟩)] rfl sm_ ?_;(with_reducible refine (impl_reader_ends.calls g425 x426000_1 x426001_1 x426002_1 false t457 t458 t459 w _ ?side1 ?side2 A57.out).mono ?_);(case side1=>repeat (first|(with_reducible first|exact HI425.out|apply IsS132.alloc|apply IsS132.drewN|apply IsS132.drew|apply IsS132.set_0|apply IsS132.set_1|apply IsS132.set_2|refine IsS132.far ?_ NB425_419.out _|refine IsS132.far ?_ NB425_426.out _)|exact HI425.out));(case side2=>repeat (first|(with_reducible first|exact HB.out|apply qf|apply qa|apply qd|refine qg ?_ (IsS132.ge HI425.out)|refine qg ?_ GE419.out|refine qg ?_ GE426.out)|exact HB.out));rintro e w91 ⟨rfl,hi,hb,hk⟩;refine ⟨_,rfl,?_⟩;replace HO_427001:=qo.mk (Kd.R_mono (Kd.R_keep (IsS132.apart (show IsS132 w _ g425 x426000_1 x426001_1 x426002_1 from by repeat (first|(with_reducible first|exact HI425.out|apply IsS132.alloc|apply IsS132.drewN|apply IsS132.drew|apply IsS132.set_0|apply IsS132.set_1|apply IsS132.set_2|refine IsS132.far ?_ NB425_419.out _|refine IsS132.far ?_ NB425_426.out _)|exact HI425.out)) (by (with_reducible repeat (first|apply Kd.R_alloc|apply Kd.R_drewN|apply Kd.R_drew));exact HO_427001.out) (by decide)) hk (fun _ h=>h.2)) (fun _ h=>h.1));replace BK419:=qo.mk (KeepBut.blk hk (g':=gb419) (o:=.cells #[.int .i64 0,.slice none 0 0] 76 (0,0)) (bx_ BK419).out NB419_425.out (by simp));replace BK426:=qo.mk (KeepBut.blk hk (g':=gb426) (o:=.cells #[.int .i64 t427,.slice Ao89 x427001_1.length co89] 76 (0,0)) (bx_ BK426).out NB426_425.out (by simp));replace HB:=qo.mk (hb);replace HI425:=qo.mk (hi);(try clear hb);(try clear hb2);(try clear hk);(try clear hi);have hnb92:=NB419_425.out;have hnc92:=NB425_419.out;obtain ⟨hcz93_0,hcz93_1,hfz93_0,hfz93_1⟩:=c2f_ BK419.out))
  refine bodyPost_ret (results_ct rfl _ _ gb419 76 #[.int .i64 0,.slice none 0 0] (0,0) _ rfl (by (with_reducible repeat (first|refine qb ?_ _|refine qe ?_|refine qc ?_ _));refine blk_put (cs:=#[.int .i64 0,.slice none 0 0]) ?_ 1 _ rfl;(with_reducible repeat (first|refine qb ?_ _|refine qe ?_|refine qc ?_ _));refine blk_put (cs:=#[.int .i64 0,.slice none 0 0]) ?_ 0 _ rfl;(with_reducible repeat (first|refine qb ?_ _|refine qe ?_|refine qc ?_ _));exact BK419.out) Try.underlying76 rfl (by kernel_rfl)) rfl ?_
  exact ⟨_,rt_,by first|exact Kd.R_nil _ _ _ _ _|exact Kd.N_nil _ _ _ _ _|exact Kd.V_nil _ _ _ _ _|exact Kd.Q_nil _ _ _ _ _|exact Kd.S_nil _ _ _ _ _,by repeat (first|(with_reducible first|exact HB.out|apply qf|apply qa|apply qd|refine qg ?_ (IsS132.ge HI425.out)|refine qg ?_ GE419.out|refine qg ?_ GE426.out)|exact HB.out)⟩
 replace c3:=Bool.eq_false_iff.mpr c3
 subst c3
 have H1 : (some (0,([] : List (S71)),false)) = some (r1,r2,r3):=by rw [if_neg (show ¬ (false = true) by decide)] at H;exact H
 clear H
 have H:=H1
 clear H1
 simp only [Option.some.injEq,Prod.mk.injEq] at H
 obtain ⟨rfl,rfl,rfl⟩:=H
 go_enter Try.func81,Try.ntmps81
 go_wp2_with (first|((with_reducible refine gate_dst (N:=2) rfl ?_);refine box_event ?hg (N:=2) ?hd (cs:=#[.int .i64 0,.slice none 0 0]) (t:=76) ?hr ?_;(case hd=>rfl);(case hg=>rfl);(case hr=>first|(go_simp;done)|(go_simp;rfl));intro gb419 hg w94 hbox hb;have BK419:=qo.mk (hbox);have GW419:=hl_ (w:=w) hg;have GE419:=hl_ (w:=w) hg;replace HB:=hs_ HB hb;clear hb hbox hg)|((with_reducible refine gate_callee (f:=96) rfl ?_);refine goesL_ (some 14) rfl rfl Try.func96 (by kernel_rfl) rfl #[.string a0] rfl sm_ ?_;(with_reducible refine (impl_Unsealed.calls k a0 t420 false _ A2.out).mono ?_);rintro e w95 ⟨rfl,hb⟩;refine ⟨_,rfl,?_⟩;replace BK419:=bb_ BK419 hb;replace HB:=hs_ HB hb;(try clear hb);(try clear hb2);(try clear hk);(try clear hi);obtain ⟨hcz96_0,hcz96_1,hfz96_0,hfz96_1⟩:=c2f_ BK419.out))
 refine bodyPost_ret (results_ct rfl _ _ gb419 76 #[.int .i64 0,.slice none 0 0] (0,0) _ rfl (by (with_reducible repeat (first|refine qb ?_ _|refine qe ?_|refine qc ?_ _));refine blk_put (cs:=#[.int .i64 0,.slice none 0 0]) ?_ 1 _ rfl;(with_reducible repeat (first|refine qb ?_ _|refine qe ?_|refine qc ?_ _));refine blk_put (cs:=#[.int .i64 0,.slice none 0 0]) ?_ 0 _ rfl;(with_reducible repeat (first|refine qb ?_ _|refine qe ?_|refine qc ?_ _));exact BK419.out) Try.underlying76 rfl (by kernel_rfl)) rfl ?_
 exact ⟨_,rt_,by first|exact Kd.R_nil _ _ _ _ _|exact Kd.N_nil _ _ _ _ _|exact Kd.V_nil _ _ _ _ _|exact Kd.Q_nil _ _ _ _ _|exact Kd.S_nil _ _ _ _ _,hx_⟩

-- NOT PRINTED: function 59 (impl_walker_page)

-- NOT PRINTED: function 25 (impl_ReadTree)

end Go.Proofs.Ytcnoccefdejphaa.QFnTrees
