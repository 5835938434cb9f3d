/- impl's walker.page: a page read, and the pages below it: walked by hand, where nothing is wrong. -/
import Derived.Test.YtcnoccefdejphaaZFnTreesx8
import Derived.Test.YtcnoccefdejphaaZFnTreesx9
import Derived.Test.YtcnoccefdejphaaZFnTreesx30
namespace Go.Proofs.Ytcnoccefdejphaa.QFnTrees
open Go.RowKit Go.Proofs.YtcnoccefdejphaaW.PrintWords Go.Proofs.YtcnoccefdejphaaW.PrintLast Go.Proofs.YtcnoccefdejphaaW.PrintMore
attribute [local go_sem] max2_int min2_int max_two min_two max_three min_three max_four min_four
set_option linter.unusedVariables false
set_option linter.unusedSimpArgs false
/-- What the walker has read: the map, the sectors, how many pages, the leaves' depth. -/
abbrev Wst:=List (S69) × List Int × Int × Int
def IsW (w0 W : World) (g : Nat) (d0 d1 : Value) (s : Wst) : Prop:=∃ vm vu,StW w0 W g d0 d1 vm vu s.1 s.2.1 s.2.2.1 s.2.2.2
noncomputable def impl_walk.items (pg : Int → ByteArray → Wst → Option Wst) (kind : Int) : List (S71) → Wst → Option Wst
 | [],s=>some s
 | x :: xs,s=>if kind = 1 then (if s.1.length < 1000000 then impl_walk.items pg kind xs (s.1 ++ [(⟨x.f0,x.f1⟩ : S69)],s.2) else none) else (pg x.f2 x.f0 s).bind fun s=>impl_walk.items pg kind xs s
/-- A page read where nothing is wrong; none: something is. -/
noncomputable def impl_walk.page (S : List ByteArray) (P : List (S96)) : Nat → Int → Int → ByteArray → Wst → Option Wst
 | 0,_,_,_,_=>none
 | n + 1,deep,at_,key,s=>if 0 ≤ s.2.2.1 ∧ s.2.2.1 < 400 ∧ 1 ≤ deep ∧ deep ≤ 12 ∧ s.2.1.length ≤ 1000000 then
   (lim fun k=>impl_ReadSector.f k S P at_).bind fun a=>if a.2 = true then
   (lim fun k=>impl_ReadPage.f k a.1).bind fun p=>if p.2.2 = true ∧ (1 < deep → 0 < p.2.1.length ∧ (rd_T71 p.2.1 0).f0 = key) ∧ (p.1 = 1 ∨ p.1 = 2) then
    (impl_walk.items (fun a k s=>impl_walk.page S P n (deep + 1) a k s) p.1 p.2.1 (s.1,impl_with.f s.2.1 at_,s.2.2.1 + 1,s.2.2.2)).bind fun s =>
     if p.1 = 2 then some s else if s.2.2.2 = 0 then some (s.1,s.2.1,s.2.2.1,deep) else if s.2.2.2 = deep then some s else none
   else none else none else none
theorem drop_it {its : List (S71)} {j : Nat} (h : j < its.length) : its.drop j = rd_T71 its (j : Int) :: its.drop (j + 1):=by
 rw [List.drop_eq_getElem_cons h]
 unfold rd_T71
 rw [Int.toNat_natCast,List.getD_eq_getElem?_getD,List.getElem?_eq_getElem h]
 rfl
set_option maxHeartbeats 16000000 in
set_option maxRecDepth 100000 in
theorem impl_walk.calls (A0 : Option Addr) (c0 : Nat) (S : List ByteArray) (A1 : Option Addr) (c1 : Nat) (P : List (S96)) (w0 : World) (g : Nat)
  (hS : Kd.C Kd.string w0 A0 S.length S) (hS' : S.length ≤ c0) (hP : Kd.C k96 w0 A1 P.length P) (hP' : P.length ≤ c1) :
  ∀ (n : Nat) (deep at_ : Int) (key : ByteArray) (vm vu : Value) (m : List (S69)) (u : List Int) (rd lf : Int) (s' : Wst) (w : World),StW w0 w g (.slice A0 S.length c0) (.slice A1 P.length c1) vm vu m u rd lf → impl_walk.page S P n deep at_ key (m,u,rd,lf) = some s' →
  Calls Try.prog 59 #[.pointer (some ⟨g,0,none⟩),.int .i64 at_,.int .i64 deep,.string key] w fun e w'=>e = .returned (.bool true) ∧ IsW w0 w' g (.slice A0 S.length c0) (.slice A1 P.length c1) s' ∧ Kw w w' g:=by
 have HS:=qo.mk hS
 have HS':=qo.mk hS'
 have HP:=qo.mk hP
 have HP':=qo.mk hP'
 clear hS hS' hP hP'
 intro n
 induction n with
 | zero =>
  intro deep at_ key vm vu m u rd lf s' w hs h
  cases h
 | succ n ih0 =>
  have ih:=qo.mk ih0
  clear ih0
  intro deep at_ key vm vu m u rd lf s' w hs h
  have hu32:=Try.underlying32
  have hu99:=Try.underlying99
  have hu69:=Try.underlying69
  have hu71:=Try.underlying71
  have hu76:=Try.underlying76
  have HW:=qo.mk hs
  clear hs
  rw [impl_walk.page] at h
  dsimp only at h
  by_cases c : 0 ≤ rd ∧ rd < 400 ∧ 1 ≤ deep ∧ deep ≤ 12 ∧ u.length ≤ 1000000
  ·rw [if_pos c] at h
   obtain ⟨r0,r1,dp0,dp1,hul⟩:=c
   have HU:=qo.mk hul
   clear hul
   replace h:=Option.bind_eq_some_iff.mp h
   obtain ⟨⟨t,ok⟩,ha0,h⟩:=h
   obtain ⟨ka,ha⟩:=(lim_ev ha0).rounds
   clear ha0
   dsimp only at h ha
   by_cases co : ok = true
   ·subst co
    rw [if_pos rfl] at h
    have HA:=qo.mk ha
    clear ha
    replace h:=Option.bind_eq_some_iff.mp h
    obtain ⟨⟨kind,its,fine⟩,hg0,h⟩:=h
    obtain ⟨kp,hg⟩:=(lim_ev hg0).rounds
    clear hg0
    dsimp only at h hg
    by_cases cf : fine = true ∧ (1 < deep → 0 < its.length ∧ (rd_T71 its 0).f0 = key) ∧ (kind = 1 ∨ kind = 2)
    ·rw [if_pos cf] at h
     obtain ⟨rfl,hk,hkind⟩:=cf
     have HG:=qo.mk hg
     have HKK:=qo.mk hk
     have HKD:=qo.mk hkind
     clear hg hk hkind
     replace h:=Option.bind_eq_some_iff.mp h
     obtain ⟨s2,hit,h⟩:=h
     have HIT:=qo.mk hit
     have HE:=qo.mk h
     clear hit h
     have HK:=qo.mk (Kw.refl w g)
     have hc:=HW.out.cells
     have cr : decide (400 ≤ rd) = false:=decide_eq_false (by omega)
     have cd : decide (12 < deep) = false:=decide_eq_false (by omega)
     have hd1 : deep + 1 ≤ 13:=by omega
     go_enter Try.func59,Try.ntmps59
     go_upto_region 4 with fail
     generalize hW : w.setCell _ _ = w1
     have n0_:=qo.mk (HW.out.set4 (rd + 1))
     have n1_:=qo.mk (HK.out.set 4 (.int .i64 (rd + 1)))
     rw [hW] at n0_ n1_
     clear hW HW HK hc
     have HW:=n0_
     have HK:=n1_
     clear n0_ n1_
     have hc:=HW.out.cells
     go_upto_region 6 with (first|((with_reducible refine gate_callee (f:=80) rfl ?_);refine goesL_ (some 37) rfl rfl Try.func80 (by kernel_rfl) rfl #[.agg #[.slice A0 S.length c0,.slice A1 P.length c1],.int .i64 at_] rfl sm_ ?_;(with_reducible refine (impl_ReadSector.calls ka _ _ S _ _ P at_ t true _ ?s1 HS'.out ?s2 HP'.out HA.out).mono ?_);(case s1=>exact Kd.C_below HS.out HW.out.hb);(case s2=>exact Kd.C_below HP.out HW.out.hb);rintro e w1 ⟨rfl,hb⟩;refine ⟨_,rfl,?_⟩;clear hc;replace HW:=qo.mk (HW.out.to hb);replace HK:=qo.mk (HK.out.to hb);clear hb;have hc:=HW.out.cells)|((with_reducible refine gate_callee (f:=81) rfl ?_);refine goesL_ (some 42) rfl rfl Try.func81 (by kernel_rfl) rfl #[.string t] rfl sm_ ?_;(with_reducible refine (impl_ReadPage.calls kp t kind its true _ HG.out).mono ?_);rintro e w2 ⟨v_,rfl,ho,hb⟩;refine ⟨_,rfl,?_⟩;have HI:=qo.mk (Kd.R_lower ho (qk HW.out.hb));clear ho;obtain ⟨Ai,ci,e_⟩:=Kd.R_slice HI.out;subst e_;clear hc;replace HW:=qo.mk (HW.out.to hb);replace HK:=qo.mk (HK.out.to hb);clear hb;have hc:=HW.out.cells))
     generalize hW : w2.alloc _ = w3
     have hb : Below w2.heap.size w2 w3:=by rw [← hW];exact qf (Below.refl _ _) _
     have hbx : w3.heap[w2.heap.size]? = some (.cells #[.int .i64 kind,.slice Ai its.length ci] 76 (0,0)):=by rw [← hW];exact heap_alloc_new _ _
     generalize hG : w2.heap.size = gp
     rw [hG] at hbx
     have HL : qo (PgL w0 w w3 g (.slice A0 S.length c0) (.slice A1 P.length c1) vm vu m u (rd + 1) lf gp kind (.slice Ai its.length ci) its):=⟨⟨HW.out.to hb,HK.out.to hb,hbx,Kd.R_below HI.out hb⟩⟩
     clear hW hb hbx hG HW HK HI hc
     obtain ⟨Au,cu,e_⟩:=Kd.R_slice HL.out.s.ru
     subst e_
     have hc:=And.intro HL.out.cells HL.out.s.cells
     rcases (show deep = 1 ∨ 1 < deep by omega) with hd|hd
     focus
      have cdd : decide (1 < deep) = false:=decide_eq_false (by omega)
      clear hd
      go_upto_region 8 with fail
     rotate_left
     focus
      have cdd : decide (1 < deep) = true:=decide_eq_true hd
      obtain ⟨h0,rfl⟩:=HKK.out hd
      have p0 : (0 : Int) ≤ 0:=Int.le_refl _
      have q0 : (0 : Int) < (its.length : Int):=by omega
      obtain ⟨ad,eA,hx0,-⟩:=at_T71 (Kd.R_reads' HL.out.r).2.2 0 p0 q0
      subst eA
      rw [show ((0 : Int)).toNat = 0 from rfl,Nat.zero_mul,Addr.add_zero'] at hx0
      have qi : (0 < its.length) = True:=eq_true h0
      clear hd h0
      go_upto_region 8 with fail
      clear hc hx0 qi p0 q0
      generalize (some ad : Option Addr) = Ai at HL ⊢
      have hc:=And.intro HL.out.cells HL.out.s.cells
     rotate_left
     all_goals
      clear HKK cdd
      go_upto_region 9 with (first|(go_at_call 73;(with_reducible refine (impl_with.calls _ _ u at_ _ ?s1 ?s2 HU.out).mono ?_);(case s1=>exact (Kd.R_reads' HL.out.s.ru).2.2);(case s2=>exact (Kd.R_reads' HL.out.s.ru).2.1);rintro e w4 ⟨v_,rfl,hr,hb⟩;have HN:=qo.mk (RetW.own hr hb HL.out.s.ru (qk HL.out.s.hb));clear hr;obtain ⟨Aw,cw,e_⟩:=Kd.R_slice HN.out;subst e_;clear hc;replace HL:=qo.mk (HL.out.to hb);clear hb;have hc:=And.intro HL.out.cells HL.out.s.cells))
      have n0_:=qo.mk (HL.out.by_ (HL.out.s.set3 HN.out) ((Kw.refl _ g).set 3 _))
      generalize hW : World.setCell _ _ _ = w5 at n0_ ⊢
      clear hW HL hc HN
      have HL:=n0_
      clear n0_
      have hc:=And.intro HL.out.cells HL.out.s.cells
      obtain ⟨u1,hu1⟩ : ∃ x,x = impl_with.f u at_:=⟨_,rfl⟩
      rw [← hu1] at HL HIT
      clear hu1
      have hlen:=row_len HL.out.r
      go_upto_block 10 with fail
      go_loopg [76] (its.length + 1) (fun kq v9 w'=>∃ (i : Nat) (vm1 vu1 : Value) (s : Wst),v9 = .int .i64 (i : Int) ∧ qo (i + kq = its.length + 1 ∧ i ≤ its.length) ∧ qo (impl_walk.items (fun a k s=>impl_walk.page S P n (deep + 1) a k s) kind (its.drop i) s = some s2) ∧ qo (PgL w0 w w' g (.slice A0 S.length c0) (.slice A1 P.length c1) vm1 vu1 s.1 s.2.1 s.2.2.1 s.2.2.2 gp kind (.slice Ai its.length ci) its))
      case atStart=>exact ⟨0,_,_,(m,u1,rd + 1,lf),rfl,⟨by omega,Nat.zero_le _⟩,HIT,HL⟩
      clear HL HIT hc HA HG
      obtain ⟨i,vm1,vu1,s,rfl,HI,HIT,HL⟩:=hrel
      obtain ⟨k1,rfl⟩ : ∃ k,gk = k + 1:=⟨gk - 1,by have:=HI.out;omega⟩
      have hi1:=HI.out
      have hit:=HIT.out
      clear HIT HI
      by_cases cx : i < its.length
      ·have c0b0 : decide ((i : Int) < (its.length : Int)) = true:=decide_eq_true (by omega)
       rw [drop_it cx,impl_walk.items] at hit
       have p0 : (0 : Int) ≤ (i : Int):=Int.natCast_nonneg i
       have q0 : (i : Int) < (its.length : Int):=by omega
       obtain ⟨ad,eA,hx0,hx1,hx2⟩:=at_T71 (Kd.R_reads' HL.out.r).2.2 (i : Int) p0 q0
       cases eA
       rw [Int.toNat_natCast] at hx0 hx1 hx2
       replace p0:=eq_true p0
       replace q0:=eq_true q0
       have HIT:=qo.mk hit
       clear hit
       have hc:=And.intro HL.out.cells HL.out.s.cells
       go_upto_region 12 with fail
       generalize hW : wr.alloc _ = w7
       have hb : Below wr.heap.size wr w7:=by rw [← hW];exact qf (Below.refl _ _) _
       have hbx : w7.heap[wr.heap.size]? = some (.cells #[.string (rd_T71 its (i : Int)).f0,.string (rd_T71 its (i : Int)).f1,.int .i64 (rd_T71 its (i : Int)).f2] 71 (0,0)):=by rw [← hW];exact heap_alloc_new _ _
       generalize hG : wr.heap.size = gx
       rw [hG] at hbx
       have n0_:=qo.mk (HL.out.to hb)
       have HX:=qo.mk hbx
       clear hW hb hbx hG HL hc hx0 hx1 hx2
       have HL:=n0_
       clear n0_
       have hc:=And.intro HL.out.cells HL.out.s.cells
       have hcx0 : w7.cell? ⟨gx,0,none⟩ = some (.string (rd_T71 its (i : Int)).f0):=(qh HX.out 0).trans rfl
       have hcx1 : w7.cell? ⟨gx,1,none⟩ = some (.string (rd_T71 its (i : Int)).f1):=(qh HX.out 1).trans rfl
       have hcx2 : w7.cell? ⟨gx,2,none⟩ = some (.int .i64 (rd_T71 its (i : Int)).f2):=(qh HX.out 2).trans rfl
       rcases HKD.out with e|e
       ·subst e
        have hit:=HIT.out
        rw [if_pos rfl] at hit
        by_cases cm : s.1.length < 1000000
        ·rw [if_pos cm] at hit
         have HIT2:=qo.mk hit
         have HM:=qo.mk cm
         clear hit HIT cm
         go_upto_region 13 with fail
         replace HL:=qo.mk (HL.out.to (below_drew (Below.refl _ _)));replace HX:=qo.mk (qe HX.out);clear hc hcx0 hcx1 hcx2
         refine start_ (n:=15) (S:=fun w'=>w'.cell? ⟨g,2,none⟩ = some vm1 ∧ w'.cell? ⟨gx,0,none⟩ = some (.string (rd_T71 its (i : Int)).f0) ∧ w'.cell? ⟨gx,1,none⟩ = some (.string (rd_T71 its (i : Int)).f1)) (ds:=[14]) (Array.replicate 15 false) (by kernel_rfl) rfl rfl ⟨(qh HL.out.s.blk 2).trans rfl,(qh HX.out 0).trans rfl,(qh HX.out 1).trans rfl⟩ (fun hHeld=>?_)
         refine pa_ 0 83 (bz_ 15 1) ?_
         refine pa_ 1 84 (bz_ 15 3) ?_
         refine pa_ 2 85 (bz_ 15 7) ?_
         refine pa_ 3 86 (bz_ 15 15) ?_
         refine pa_ 5 88 (bz_ 15 47) ?_
         refine pa_ 7 90 (bz_ 15 175) ?_
         refine ta_ 4 87 (bz_ 15 191) hHeld (hy:=Or.inl ⟨by rfl,by rintro w' ⟨s0,s1,s2⟩;go_simp;with_reducible rfl⟩) (h:=?_)
         refine ta_ 6 89 (bz_ 15 255) hHeld (hy:=Or.inl ⟨by rfl,by rintro w' ⟨s0,s1,s2⟩;go_simp;with_reducible rfl⟩) (h:=?_)
         refine ta_ 8 91 (bz_ 15 511) hHeld (hy:=Or.inl ⟨by rfl,by rintro w' ⟨s0,s1,s2⟩;go_simp;with_reducible rfl⟩) (h:=?_)
         refine pa_ 9 92 (bz_ 15 1023) ?_
         refine one_ (i:=10) (N:=some 93) (bz_ 15 2047) rfl rfl (by kernel_rfl) (by decide) (fun K hK=>?_)
         refine value_ (w1:=?_) (v:=?_) (by rfl) rfl ?_ ?_
         rotate_left 2
         ·go_simp
          constructor
          ·rfl
          rfl
         refine hK.out _ _ ⟨(qh (qc HL.out.s.blk _) 2).trans rfl,(qh (qc HX.out _) 0).trans rfl,(qh (qc HX.out _) 1).trans rfl⟩ (fun hHeld=>?_)
         clear hK K
         refine norm_ (a':=?_) ?_ ?_
         rotate_left
         ·show Act.put _ (some 93) _ = _
          simp only [Act.put,List.setIfInBounds_toArray,List.set_cons_zero,List.set_cons_succ,i64_w,i32_w]
          rfl
         refine one_ (i:=11) (N:=some 94) (bz_ 15 4095) rfl rfl (by kernel_rfl) (by decide) (fun K hK=>?_)
         refine Kd.R_append_step k69 (w0:=w0) w0.heap.size (by rfl) (.tmp 87) (.tmp 93) 37 69 (.agg #[(.string ⟨#[]⟩),(.string ⟨#[]⟩)]) 32 rfl Try.underlying37 info69 rfl (by decide) (by omega) vm1 s.1 (⟨(rd_T71 its (i : Int)).f0,(rd_T71 its (i : Int)).f1⟩ : S69) [.string (rd_T71 its (i : Int)).f0,.string (rd_T71 its (i : Int)).f1] (fun _=>True) (fun _=>False) rfl rfl (k69_mkM _ _ _ (⟨(rd_T71 its (i : Int)).f0,(rd_T71 its (i : Int)).f1⟩ : S69)) (fun _ hk=>hk.elim) (fun _ _=>trivial) HL.out.s.rm HL.out.s.hb (qk HL.out.s.hb) (by have:=HM.out;omega) ?_
         intro vA wA ho hb hg hat
         obtain ⟨ys,hys⟩ : ∃ ys,ys = s.1 ++ [(⟨(rd_T71 its (i : Int)).f0,(rd_T71 its (i : Int)).f1⟩ : S69)]:=⟨_,rfl⟩
         rw [← hys] at ho HIT2
         clear hys
         obtain ⟨An,cn,en⟩:=Kd.R_slice ho
         subst en
         have hfzn:=qj (HL.out.s.grown hg) 2
         have HO:=qo.mk ho
         have HG:=qo.mk hg
         have HB:=qo.mk hb
         clear ho hb hg hat
         refine hK.out _ _ ⟨(qh (HL.out.s.grown HG.out) 2).trans rfl,(qh (blk_grown HX.out HG.out (Kd.R_ne HL.out.s.rm HX.out (by decide))) 0).trans rfl,(qh (blk_grown HX.out HG.out (Kd.R_ne HL.out.s.rm HX.out (by decide))) 1).trans rfl⟩ (fun hHeld=>?_)
         clear hK K
         refine norm_ (a':=?_) ?_ ?_
         rotate_left
         ·show Act.put _ (some 94) _ = _
          simp only [Act.put,List.setIfInBounds_toArray,List.set_cons_zero,List.set_cons_succ,i64_w,i32_w]
          rfl
         refine pa_ 12 95 (bz_ 15 8191) ?_
         refine pa_ 13 96 (bz_ 15 16383) ?_
         refine last_ (i:=14) (N:=none) (bz_ 15 32767) rfl rfl (by kernel_rfl) (by decide) (fun K hK=>?_)
         refine skip_ (w1:=?_) (by rfl) rfl ?_ ?_
         rotate_left
         ·go_simp
          rfl
         refine hK.out _ _ ?_
         clear hK K
         refine done_ (by kernel_rfl) ?_
         go_wp2
         go_roundg k1
         case measure=>omega
         case rel=>exact ⟨i + 1,_,_,(ys,s.2),(by first|rfl|(simp;done)|(rw [show wrap64 ((i : Int) + 1) = ((i + 1 : Nat) : Int) from by unfold wrap64;omega])),⟨by omega,by omega⟩,HIT2,⟨HL.out.by_ (HL.out.s.app HB.out HG.out HO.out) ((Kw.app HL.out.s.rm HG.out).set 2 _)⟩⟩
        rw [if_neg cm] at hit
        cases hit
       subst e
       have hit:=HIT.out
       rw [if_neg (by decide)] at hit
       replace hit:=Option.bind_eq_some_iff.mp hit
       obtain ⟨s3,hpg,hit⟩:=hit
       replace hpg : impl_walk.page S P n (deep + 1) (rd_T71 its (i : Int)).f2 (rd_T71 its (i : Int)).f0 (s.1,s.2.1,s.2.2.1,s.2.2.2) = some s3:=hpg
       have HPG:=qo.mk hpg
       have HIT2:=qo.mk hit
       clear hit hpg HIT
       go_wp2_with (first|(go_at_call 59;(with_reducible refine (ih.out _ _ _ _ _ _ _ _ _ s3 _ HL.out.s HPG.out).mono ?_);rintro e w6 ⟨rfl,⟨vm2,vu2,hs⟩,hk⟩;clear hc;replace HL:=qo.mk (HL.out.by_ hs hk);clear hs hk))
       go_roundg k1
       case measure=>omega
       case rel=>exact ⟨i + 1,_,_,s3,(by first|rfl|(simp;done)|(rw [show wrap64 ((i : Int) + 1) = ((i + 1 : Nat) : Int) from by unfold wrap64;omega])),⟨by omega,by omega⟩,HIT2,HL⟩
      have c0b0 : decide ((i : Int) < (its.length : Int)) = false:=decide_eq_false (by omega)
      obtain rfl : i = its.length:=by omega
      rw [List.drop_length,impl_walk.items] at hit
      obtain rfl:=Option.some.inj hit
      clear hit
      have hc:=And.intro HL.out.cells HL.out.s.cells
      have he:=HE.out
      rcases HKD.out with e|e
      ·subst e
       rw [if_neg (by decide)] at he
       by_cases c0 : s.2.2.2 = 0
       ·rw [if_pos c0] at he
        obtain rfl:=Option.some.inj he
        clear he
        rw [c0] at hc HL
        clear c0
        go_wp2
        go_ret
        exact ⟨rfl,⟨_,_,HL.out.s.set5 deep⟩,HL.out.k.set 5 _⟩
       rw [if_neg c0] at he
       by_cases c1 : s.2.2.2 = deep
       ·rw [if_pos c1] at he
        obtain rfl:=Option.some.inj he
        clear he
        have cz : (s.2.2.2 == 0) = false:=beq_eq_false_iff_ne.2 c0
        have cz2 : (s.2.2.2 == deep) = true:=beq_iff_eq.2 c1
        clear c0 c1
        go_wp2
        go_ret
        exact ⟨rfl,⟨_,_,HL.out.s⟩,HL.out.k⟩
       rw [if_neg c1] at he
       cases he
      subst e
      rw [if_pos rfl] at he
      obtain rfl:=Option.some.inj he
      clear he
      go_wp2
      go_ret
      exact ⟨rfl,⟨_,_,HL.out.s⟩,HL.out.k⟩
    rw [if_neg cf] at h
    cases h
   rw [if_neg co] at h
   cases h
  rw [if_neg c] at h
  cases h
end Go.Proofs.Ytcnoccefdejphaa.QFnTrees
