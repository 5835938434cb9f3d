/- The reference's solver: l10Shrink. -/
import Derived.Test.YtnffimpoekjkpaaZFnExactRoundsx59
import Derived.Test.YtnffimpoekjkpaaZFnExactRoundsx3
namespace Go.Proofs.Ytnffimpoekjkpaa.QFnExactRounds
open Go.RowKit Go.Proofs.YtnffimpoekjkpaaW.PrintWords Go.Proofs.YtnffimpoekjkpaaW.PrintLast Go.Proofs.YtnffimpoekjkpaaW.PrintMore
attribute [local go_sem] max2_int min2_int max_two min_two max_three min_three max_four min_four
set_option linter.unusedVariables false
set_option linter.unusedSimpArgs false
def dnS (ah : List S77) (xs : List Int) : Nat → Int → List Int → List S77 → List Int × List S77
 | 0,_,mem,lk=>(mem,lk)
 | f + 1,j,mem,lk=>if 0 ≤ j then dnS ah xs f (j - 1) (mem ++ [rd xs j]) (lk ++ [rd_T77 ah (rd xs j)]) else (mem,lk)
def swp (x : S77) : S77:=⟨x.f1,x.f0⟩
def upS (ah : List S77) (ws : List Int) (kk : Int) : Nat → Int → List Int → List S77 → List Int × List S77
 | 0,_,mem,lk=>(mem,lk)
 | f + 1,j,mem,lk=>if j < kk then upS ah ws kk f (j + 1) (mem ++ [rd ws j]) (lk ++ [swp (rd_T77 ah (rd ws j))]) else (mem,lk)
/-- The mate links that don't lie within the new ring. -/
def innF (nd : List S60) (ring : List Int) : List S77 → List S77
 | []=>[]
 | x :: l=>if topI nd x.f0 ∈ ring ∧ topI nd x.f1 ∈ ring then innF nd ring l else x :: innF nd ring l
def shrinkS (s : RI) (ring : List Int) (lk : List S77) (j : Int) : RI :=
 { s with mt:=innF (cvs s.nd) ring s.mt,nd:=upsF s.nd.length ring (s.nd ++ [⟨ring,lk,baseS s.nd s.mt j,0,-1,false⟩]) }
theorem l03In_l0 (v : Int) (l : List Int) (hl : l.length ≤ 1000000000) : ∀ (k : Nat) (i : Int),0 ≤ i → (l.length : Int) < i + k → i ≤ l.length → spec_l03In.l0 k l v i = some (decide (v ∈ l.drop i.toNat))
 | 0,i,h0,h,hi=>absurd h (by omega)
 | k + 1,i,h0,h,hi=>by
  unfold spec_l03In.l0
  by_cases c : i < (l.length : Int)
  ·rw [if_pos c,if_pos h0,drop_rd l i h0 c]
   by_cases e : rd l i = v
   ·rw [if_pos e,e]
    simp
   rw [if_neg e,w64 (by omega) (by omega),l03In_l0 v l hl k (i + 1) (by omega) (by omega) (by omega)]
   congr 1
   rw [decide_eq_decide,List.mem_cons]
   exact ⟨.inr,fun h=>h.resolve_left fun h=>e h.symm⟩
  rw [if_neg c,List.drop_eq_nil_of_le (by omega)]
  simp
theorem l03In_is (v : Int) (l : List Int) (hl : l.length ≤ 1000000000) : spec_l03In.f (l.length + 1) l v = some (decide (v ∈ l)):=by
 rw [spec_l03In.f,l03In_l0 v l hl (l.length + 1) 0 (by omega) (by omega) (by omega)]
 rfl
set_option maxHeartbeats 8000000 in
set_option maxRecDepth 100000 in
theorem l10Shrink_calls {w0 W : World} {Z : Nat → Prop} {wz : World} {g : Nat} {N : Int} {Ae : Option Addr} {ce : Nat} {es : List (S51)} {col : Nat → Nat} {vy vn vm : Value} {s : RI} (hS : Rn w0 W Z wz g N Ae ce es col vy vn vm s) {gt : Nat} {vl va vr : Value} {t : TI} (hT : Tp W w0.heap.size gt col vl va vr t) (hw : WFn (cvs s.nd)) (hm : ∀ x ∈ s.mt,inR x.f0 s.nd.length ∧ inR x.f1 s.nd.length) (hsm : s.mt.length ≤ 1000) (hsz : s.nd.length ≤ 1000000)
  (X : S51) (hX0 : inR X.f0 s.nd.length) (hX1 : inR X.f1 s.nd.length) (k : Nat) (hk : k ≤ 1000) (ws us : List Int) (h1 : wayS (cvs s.nd) t.ah t.rt k (topI (cvs s.nd) X.f0) = some ws) (h2 : wayS (cvs s.nd) t.ah t.rt k (topI (cvs s.nd) X.f1) = some us)
  (hla : ws.length ≤ 1000) (hlb : us.length ≤ 1000) (hws : ∀ n ∈ ws,inR n t.ah.length ∧ inR n s.nd.length) (hus : ∀ n ∈ us,inR n t.ah.length ∧ inR n s.nd.length) (i kk : Int) (hi : idxF ws us (ws.length + 1) 0 = some i) (hkk : spec_l08Place.f (us.length + 1) us (rd ws i) = some kk) (hk0 : 0 ≤ kk ∧ kk < us.length)
  (ring : List Int) (lk : List S77) (hr : upS t.ah us kk (us.length + 1) 0 (dnS t.ah ws (ws.length + 1) (i - 1) [rd ws i] []).1 ((dnS t.ah ws (ws.length + 1) (i - 1) [rd ws i] []).2 ++ [⟨X.f0,X.f1⟩]) = (ring,lk)) (hring : ∀ m ∈ ring,inR m s.nd.length) :
  Calls Try.prog 29 #[.pointer (some ⟨g,0,none⟩),.pointer (some ⟨gt,0,none⟩),.agg #[.int .i64 X.f0,.int .i64 X.f1,.int .i64 X.f2,.int .i64 X.f3,.int .i64 X.f4]] W fun e w'=>e = .returned (.tuple #[]) ∧ IsRn w0 w' g N Ae ce es (shrinkS s ring lk (rd ws i)):=by
 have hS' : RnF w0 W g N Ae ce es col vy vn vm s:=⟨hS.blk,hS.ge,hS.hb,hS.he,hS.hec,hS.ry,hS.rn,hS.rm,fun _ h=>h.elim⟩
 clear hS
 have hS:=hS'
 clear hS'
 have hu39:=Try.underlying39
 have hu55:=Try.underlying55
 have hu77:=Try.underlying77
 have hu51:=Try.underlying51
 have hu29:=Try.underlying29
 have HS:=qy.mk hS
 clear hS
 have hu35:=Try.underlying35
 have hu37:=Try.underlying37
 have hu36:=Try.underlying36
 have hu68:=Try.underlying68
 have HTP:=qy.mk hT
 have HW:=qy.mk hw
 have HM:=qy.mk hm
 have H0:=qy.mk (And.intro hsm (And.intro hsz (And.intro hla (And.intro hlb hk))))
 have HX:=qy.mk (And.intro hX0 hX1)
 have HWS:=qy.mk hws
 have HUS:=qy.mk hus
 have HI0:=qy.mk hi
 have HKK:=qy.mk hkk
 have HK0:=qy.mk hk0
 have HR:=qy.mk hr
 have HRG:=qy.mk hring
 obtain ⟨Av,cv0,e_⟩:=Kd.R_slice HS.out.rm
 subst e_
 obtain ⟨bn,cn,e_,-⟩:=row_at HS.out.rn (by have:=hX0.1;have:=hX0.2;omega)
 subst e_
 obtain ⟨Aq,cq,e_⟩:=Kd.R_slice HTP.out.ra
 subst e_
 obtain ⟨A,hA⟩ : ∃ A,topI (cvs s.nd) X.f0 = A:=⟨_,rfl⟩
 obtain ⟨B,hB⟩ : ∃ B,topI (cvs s.nd) X.f1 = B:=⟨_,rfl⟩
 have HTA:=qy.mk (fun (W' : World) (h : RnF w0 W' g N Ae ce es col vy (.slice (some ⟨bn,0,none⟩) s.nd.length cn) (.slice Av s.mt.length cv0) s)=>l10Top_is h X.f0 HW.out HX.out.1)
 have HTB:=qy.mk (fun (W' : World) (h : RnF w0 W' g N Ae ce es col vy (.slice (some ⟨bn,0,none⟩) s.nd.length cn) (.slice Av s.mt.length cv0) s)=>l10Top_is h X.f1 HW.out HX.out.2)
 have HWA:=qy.mk (fun (W' : World) (h : RnF w0 W' g N Ae ce es col vy (.slice (some ⟨bn,0,none⟩) s.nd.length cn) (.slice Av s.mt.length cv0) s) (hT : Tp W' w0.heap.size gt col vl (.slice Aq t.ah.length cq) vr t)=>l10Way_calls h hT HW.out k (by have:=H0.out;omega) (topI (cvs s.nd) X.f0) ws h1)
 have HWB:=qy.mk (fun (W' : World) (h : RnF w0 W' g N Ae ce es col vy (.slice (some ⟨bn,0,none⟩) s.nd.length cn) (.slice Av s.mt.length cv0) s) (hT : Tp W' w0.heap.size gt col vl (.slice Aq t.ah.length cq) vr t)=>l10Way_calls h hT HW.out k (by have:=H0.out;omega) (topI (cvs s.nd) X.f1) us h2)
 simp only [hA] at HTA HWA
 simp only [hB] at HTB HWB
 clear hT hw hm hsm hsz hla hlb hk hX0 hX1 h1 h2 hws hus hi hkk hk0 hr hring hA hB
 go_enter Try.func29,Try.ntmps29
 go_upto_region 1 with fail
 have BX1 : qy ((W.alloc (.cells #[.int .i64 X.f0,.int .i64 X.f1,.int .i64 X.f2,.int .i64 X.f3,.int .i64 X.f4] 51)).heap[W.heap.size]? = some (.cells #[.int .i64 X.f0,.int .i64 X.f1,.int .i64 X.f2,.int .i64 X.f3,.int .i64 X.f4] 51 (0,0))):=⟨blk_new W _⟩
 have HB1 : qy (Below W.heap.size W (W.alloc (.cells #[.int .i64 X.f0,.int .i64 X.f1,.int .i64 X.f2,.int .i64 X.f3,.int .i64 X.f4] 51))):=⟨qo (Below.refl _ _) _⟩
 generalize W.alloc (.cells #[.int .i64 X.f0,.int .i64 X.f1,.int .i64 X.f2,.int .i64 X.f3,.int .i64 X.f4] 51) = W1 at *
 have HS1:=qy.mk (HS.out.to HB1.out)
 have HT1:=qy.mk (HTP.out.to HB1.out)
 have hb0 : W1.cell? ⟨W.heap.size,0,none⟩ = some (.int .i64 X.f0):=(qq BX1.out 0).trans rfl
 go_upto_region 2 with (first|(go_at_call 28;(with_reducible refine (HTA.out _ HS1.out).mono ?_);rintro e_ w3 ⟨rfl,h2⟩;replace h2:=h2.symm;subst h2)|(go_at_call 45;(with_reducible refine (HWA.out _ HS1.out HT1.out).mono ?_);rintro e_ w4 ⟨va_,rfl,hr,hb⟩;obtain ⟨Aa,ca,e_⟩:=Kd.R_slice hr;subst e_;have HR8:=qy.mk hr;have HB3:=qy.mk hb;clear hr hb))
 have BX4:=qy.mk (qw BX1.out HB3.out)
 have HS4:=qy.mk (HS1.out.to HB3.out)
 have HT4:=qy.mk (HT1.out.to HB3.out)
 clear hb0
 have hb1 : w4.cell? ⟨W.heap.size,1,none⟩ = some (.int .i64 X.f1):=(qq BX4.out 1).trans rfl
 go_upto_region 3 with (first|(go_at_call 28;(with_reducible refine (HTB.out _ HS4.out).mono ?_);rintro e_ w3 ⟨rfl,h2⟩;replace h2:=h2.symm;subst h2)|(go_at_call 45;(with_reducible refine (HWB.out _ HS4.out HT4.out).mono ?_);rintro e_ w5 ⟨vb_,rfl,hr,hb⟩;obtain ⟨Ab,cb,e_⟩:=Kd.R_slice hr;subst e_;have HR9:=qy.mk hr;have HB5:=qy.mk hb;clear hr hb))
 clear hb1
 have HSH : qy (Sh w0 w5 g N Ae ce es (fun q=>if w4.heap.size ≤ q then 9 else if W1.heap.size ≤ q then 8 else col q) vy (.slice (some ⟨bn,0,none⟩) s.nd.length cn) (.slice Av s.mt.length cv0) s gt vl (.slice Aq t.ah.length cq) vr t W.heap.size X (.slice Aa ws.length ca) (.slice Ab us.length cb) (.slice none 0 0) (.slice none 0 0) (.slice none 0 0) ws us [] [] []):=by
  have hz1:=HB3.out.size
  have hz0:=HB1.out.size
  have hge:=HS.out.hb.size
  have hc : ∀ q,q < W1.heap.size → (if w4.heap.size ≤ q then 9 else if W1.heap.size ≤ q then 8 else col q) = col q:=fun q hq=>by rw [if_neg (by omega),if_neg (by omega)]
  have hc4 : ∀ q,q < w4.heap.size → (if w4.heap.size ≤ q then 9 else if W1.heap.size ≤ q then 8 else col q) = (if W1.heap.size ≤ q then 8 else col q):=fun q hq=>by rw [if_neg (by omega)]
  exact ⟨⟨(HS1.out.recol hc).to (qx HB3.out HB5.out),(HT1.out.recol hc).to (qx HB3.out HB5.out),qw BX4.out HB5.out,Kd.R_below (row_recol (col:=fun q=>if W1.heap.size ≤ q then 8 else col q) (new_rowK (col:=col) HR8.out (by omega) 8) hc4) HB5.out,new_rowK (col:=fun q=>if W1.heap.size ≤ q then 8 else col q) HR9.out (by omega) 9,Kd.R_nil _ _ _ _ _,Kd.R_nil _ _ _ _ _,Kd.R_nil _ _ _ _ _⟩⟩
 generalize (fun q=>if w4.heap.size ≤ q then 9 else if W1.heap.size ≤ q then 8 else col q) = col0 at HSH
 generalize W.heap.size = ge at HSH ⊢
 clear HS HS1 HS4 HT1 HT4 BX1 BX4 HB1 HB3 HB5 HR8 HR9 HTA HTB HWA HWB HTP
 go_wp2_with fail
 go_loopg [8] (ws.length + 1) (fun kq v8 w'=>∃ j : Int,v8 = .int .i64 j ∧ qy (0 ≤ j ∧ j + kq = ws.length + 1) ∧ qy (idxF ws us kq j = some i) ∧ qy (Sh w0 w' g N Ae ce es col0 vy (.slice (some ⟨bn,0,none⟩) s.nd.length cn) (.slice Av s.mt.length cv0) s gt vl (.slice Aq t.ah.length cq) vr t ge X (.slice Aa ws.length ca) (.slice Ab us.length cb) (.slice none 0 0) (.slice none 0 0) (.slice none 0 0) ws us [] [] []))
 case atStart=>exact ⟨0,rfl,⟨by omega,by omega⟩,HI0,HSH⟩
 clear HI0 HSH
 obtain ⟨j,rfl,HI,HI0,HF⟩:=hrel
 have h:=HI0.out
 clear HI0
 obtain _|k1:=gk
 ·cases h
 rw [idxF] at h
 by_cases c : inR j ws.length
 ·rw [if_pos c] at h
  obtain ⟨p,q⟩:=c
  have HJ:=qy.mk (And.intro p q)
  obtain ⟨ax,e_,hxj⟩:=Kd.at_int (Kd.R_reads' HF.out.r8).2.2 j p q
  subst e_
  have pb:=eq_true p
  have qb:=eq_true q
  have HIN:=qy.mk (fun (b : Bool) (e : decide (rd ws j ∈ us) = b)=>spec_l03In.calls _ Ab cb us (rd ws j) b wr (Kd.R_reads' HF.out.r9).2.2 (Kd.R_reads' HF.out.r9).2.1 ((l03In_is (rd ws j) us (by have:=H0.out;omega)).trans (by rw [e])))
  by_cases cm : rd ws j ∈ us
  ·rw [if_pos cm] at h
   obtain rfl:=Option.some.inj h
   have HIN2:=qy.mk (HIN.out true (decide_eq_true cm))
   clear h cm HIN
   go_upto_region 6 with (first|(go_at_call 46;refine HIN2.out.mono ?_;rintro r w3 ⟨rfl,⟨nq,rfl⟩⟩))
   have HF2:=qy.mk (HF.out.to (qd (Below.refl _ _) nq))
   clear HF hxj HIN2
   generalize wr.drewN nq = w6 at HF2 ⊢
   obtain ⟨_,e_,hxj⟩:=Kd.at_int (Kd.R_reads' HF2.out.r8).2.2 j HJ.out.1 HJ.out.2
   obtain rfl:=Option.some.inj e_
   have HPL:=qy.mk (spec_l08Place.calls _ Ab cb us (rd ws j) kk w6 (Kd.R_reads' HF2.out.r9).2.2 (Kd.R_reads' HF2.out.r9).2.1 HKK.out)
   go_upto_region 7 with (first|(go_at_call 47;refine HPL.out.mono ?_;rintro r w3 ⟨rfl,⟨nq,rfl⟩⟩))
   have HF3:=qy.mk (HF2.out.to (qd (Below.refl _ _) nq))
   clear HF2 hxj HPL
   generalize w6.drewN nq = w7 at HF3 ⊢
   obtain ⟨_,e_,hxj⟩:=Kd.at_int (Kd.R_reads' HF3.out.r8).2.2 j HJ.out.1 HJ.out.2
   obtain rfl:=Option.some.inj e_
   go_upto_region 8 with fail
   have HF4:=qy.mk (HF3.out.n10 (x:=rd ws j))
   clear HF3 hxj
   generalize w7.alloc _ = w8 at HF4 ⊢
   generalize w7.heap.size = br at HF4 ⊢
   go_upto_region 9 with fail
   have HF5:=qy.mk HF4.out.n11
   clear HF4
   generalize w8.alloc _ = w9 at HF5 ⊢
   generalize (fun k=>if w8.heap.size ≤ k then 11 else if br ≤ k then 10 else col0 k) = col1 at HF5
   generalize w8.heap.size = bk at HF5 ⊢
   obtain ⟨DN,hDN⟩ : ∃ DN,dnS t.ah ws (ws.length + 1) (j - 1) [rd ws j] [] = DN:=⟨_,rfl⟩
   have HDN:=qy.mk hDN
   have hU:=HR.out
   rw [hDN] at hU
   have HU:=qy.mk hU
   clear hU hDN
   go_wp2_with fail
   go_loopg [10,11,12] (ws.length + 1) (fun kq v10 v11 v12 w'=>∃ (q : Int) (mem : List Int) (lk1 : List S77) (Am Ak : Option Addr) (cm ck : Nat) (col : Nat → Nat),v10 = .slice Am mem.length cm ∧ v11 = .slice Ak lk1.length ck ∧ v12 = .int .i64 q ∧ qy (-1 ≤ q ∧ q < ws.length ∧ q + 1 < kq) ∧ qy (mem.length + kq = ws.length + 2 ∧ lk1.length + kq = ws.length + 1) ∧ qy (dnS t.ah ws kq q mem lk1 = DN) ∧ qy (Sh w0 w' g N Ae ce es col vy (.slice (some ⟨bn,0,none⟩) s.nd.length cn) (.slice Av s.mt.length cv0) s gt vl (.slice Aq t.ah.length cq) vr t ge X (.slice (some ax) ws.length ca) (.slice Ab us.length cb) (.slice Am mem.length cm) (.slice Ak lk1.length ck) (.slice none 0 0) ws us mem lk1 []))
   case atStart=>exact ⟨j - 1,[rd ws j],[],_,_,1,0,_,rfl,rfl,by first|rfl|rw [w64 (by have:=HJ.out;omega) (by have:=HJ.out;have:=H0.out;omega)],⟨by have:=HJ.out.1;omega,by have:=HJ.out.2;omega,by have:=HJ.out.2;omega⟩,⟨by simp only [List.length_singleton];omega,by simp only [List.length_nil];omega⟩,HDN,HF5⟩
   clear HF5 HDN
   obtain ⟨q,mem,lk1,Am,Ak,cm,ck,col2,rfl,rfl,rfl,HI,HL,HT,HD⟩:=hrel
   have h:=HT.out
   clear HT
   cases gk with
   | zero =>
    exfalso
    have h1:=HI.out
    omega
   | succ k1 =>
    rw [dnS] at h
    by_cases c : 0 ≤ q
    ·rw [if_pos c] at h
     have HT:=qy.mk h
     have cl0 : decide (q ≥ 0) = true:=decide_eq_true c
     have HQ0:=qy.mk c
     have HDa:=qy.mk (HD.out.ahead 10)
     obtain ⟨_,e_,hxk⟩:=Kd.at_int (Kd.R_reads' HD.out.r8).2.2 q c (by have:=HI.out;omega)
     obtain rfl:=Option.some.inj e_
     have p1:=eq_true c
     have q1 : (q < (ws.length : Int)) = True:=eq_true (by have:=HI.out;omega)
     clear h c
     as_aux_lemma =>
      go_upto_region 13 with (first|((with_reducible refine gate_builtin (b:=.append) (xs:=#[.tmp 60,.tmp 65]) rfl ?_);at_builtin;refine Kd.R_append (Kd.int .i64) (w0:=w0) (W:=wr) w0.heap.size rfl (.tmp 60) (.tmp 65) 35 3 (.int .i64 0) 8 rfl Try.underlying35 info3 rfl (by decide) (by omega) (.slice Am mem.length cm) mem (rd ws q) [.int .i64 (rd ws q)] (fun p=>(if wr.heap.size ≤ p then 10 else col2 p) = 10) (fun _=>False) rfl rfl rfl (fun _ hk=>hk.elim) (fun p hp=>if_pos hp) HDa.out.r10 HDa.out.S.hb HDa.out.S.hb.size (by have:=HL.out;have:=H0.out;omega) ?_;intro v7 w7 ho hb hg hat;obtain ⟨A7,c7,e_⟩:=Kd.R_slice ho;rw [List.length_append,List.length_singleton] at e_;subst e_;have HD3:=qy.mk (HDa.out.g10 ho hb hg);clear ho hb hg hat))
      clear HD HDa hxk
      generalize (fun k=>if wr.heap.size ≤ k then 10 else col2 k) = col3 at HD3
      obtain ⟨_,e_,hxk⟩:=Kd.at_int (Kd.R_reads' HD3.out.r8).2.2 q HQ0.out (by have:=HI.out;omega)
      obtain rfl:=Option.some.inj e_
      obtain ⟨⟨n2,n3⟩,-⟩:=HWS.out _ (rd_mem ws q HQ0.out (by have:=HI.out;omega))
      obtain ⟨aq,e_,hah0,hah1⟩:=at_T77 (Kd.R_reads' HD3.out.T.ra).2.2 _ n2 n3
      subst e_
      have p2:=eq_true n2
      have q2:=eq_true n3
      have HDd:=qy.mk ((HD3.out.ahead 11).to (qh (Below.refl _ _)))
      refine start_ (n:=14) (S:=fun w'=>w'.cell? ⟨gt,1,none⟩ = some (.slice (some aq) t.ah.length cq) ∧ w'.cell? (aq.add ((rd ws q).toNat * 2)) = some (.int .i64 (rd_T77 t.ah (rd ws q)).f0) ∧ w'.cell? ⟨(aq.add ((rd ws q).toNat * 2)).block,(aq.add ((rd ws q).toNat * 2)).off + 1,none⟩ = some (.int .i64 (rd_T77 t.ah (rd ws q)).f1) ∧ w'.cell? (ax.add q.toNat) = some (.int .i64 (rd ws q))) (ds:=[12]) (Array.replicate 14 false) (by kernel_rfl) rfl rfl ⟨HD3.out.T.cells.2.1,hah0,hah1,hxk⟩ (fun hHeld=>?_)
      refine pa_ 0 67 (bz_ 14 1) ?_
      refine pa_ 1 68 (bz_ 14 3) ?_
      refine pa_ 2 69 (bz_ 14 7) ?_
      refine pa_ 3 70 (bz_ 14 15) ?_
      refine pa_ 5 72 (bz_ 14 47) ?_
      refine pa_ 6 73 (bz_ 14 111) ?_
      refine pa_ 7 74 (bz_ 14 239) ?_
      refine ta_ 4 71 (bz_ 14 255) hHeld (hy:=Or.inl ⟨by rfl,by rintro w' ⟨s0,s1,s2,s3⟩;go_simp;with_reducible rfl⟩) (h:=?_)
      refine ta_ 8 75 (bz_ 14 511) hHeld (hy:=Or.inl ⟨by rfl,by rintro w' ⟨s0,s1,s2,s3⟩;go_simp;with_reducible rfl⟩) (h:=?_)
      refine pa_ 9 76 (bz_ 14 1023) ?_
      refine ta_ 10 77 (bz_ 14 2047) hHeld (hy:=Or.inl ⟨by rfl,by rintro w' ⟨s0,s1,s2,s3⟩;go_simp;with_reducible rfl⟩) (h:=?_)
      refine one_ (i:=11) (N:=some 78) (bz_ 14 4095) rfl rfl (by kernel_rfl) (by decide) (fun K hK=>?_)
      refine value_ (w1:=?_) (v:=?_) (by rfl) rfl ?_ ?_
      rotate_left 2
      ·go_simp
       constructor
       ·rfl
       rfl
      refine hK.out _ _ ⟨pw_cell_below (qo (Below.refl _ _) _) hHeld.1,pw_cell_below (qo (Below.refl _ _) _) hHeld.2.1,pw_cell_below (qo (Below.refl _ _) _) hHeld.2.2.1,pw_cell_below (qo (Below.refl _ _) _) hHeld.2.2.2⟩ (fun hHeld=>?_)
      clear hK K
      refine norm_ (a':=?_) ?_ ?_
      rotate_left
      ·show Act.put _ (some 78) _ = _
       simp only [Act.put,List.setIfInBounds_toArray,List.set_cons_zero,List.set_cons_succ,i64_w,i32_w]
       rfl
      refine last_ (i:=12) (N:=some 79) (bz_ 14 8191) rfl rfl (by kernel_rfl) (by decide) (fun K hK=>?_)
      refine Kd.R_append_step k77 (w0:=w0) (W:=w7.drew) w0.heap.size (by rfl) (.tmp 67) (.tmp 78) 37 77 (.agg #[.int .i64 0,.int .i64 0]) 16 rfl Try.underlying37 info77 rfl (by decide) (by omega) (.slice Ak lk1.length ck) lk1 (rd_T77 t.ah (rd ws q)) [.int .i64 (rd_T77 t.ah (rd ws q)).f0,.int .i64 (rd_T77 t.ah (rd ws q)).f1] _ (fun _=>False) (by rfl) (by rfl) (k77_mkM _ _ _ (rd_T77 t.ah (rd ws q))) (fun _ hk=>hk.elim) (fun p hp=>if_pos hp) HDd.out.r11 HDd.out.S.hb HDd.out.S.hb.size (by have:=HL.out;have:=H0.out;omega) ?_
      intro v8 w8 ho hb hg hat
      obtain ⟨A8,c8,e_⟩:=Kd.R_slice ho
      rw [List.length_append,List.length_singleton] at e_
      subst e_
      have HD4:=qy.mk (HDd.out.g11 ho hb hg)
      clear ho hb hg hat
      refine hK.out _ _ ?_
      clear hK K
      refine norm_ (a':=?_) ?_ ?_
      rotate_left
      ·show Act.put _ (some 79) _ = _
       simp only [Act.put,List.setIfInBounds_toArray,List.set_cons_zero,List.set_cons_succ,i64_w,i32_w]
       rfl
      refine pa_ 13 11 (bz_ 14 16383) ?_
      refine done_ (by kernel_rfl) ?_
      clear hxk hah0 hah1 HD3 HDd hHeld
      generalize (fun k=>if w7.heap.size ≤ k then 11 else col3 k) = col4 at HD4
      go_wp2_with fail
      go_roundg k1
      case measure=>omega
      case rel=>exact ⟨q - 1,mem ++ [rd ws q],lk1 ++ [rd_T77 t.ah (rd ws q)],_,_,c7,c8,_,by rw [List.length_append,List.length_singleton],by rw [List.length_append,List.length_singleton],by first|rfl|rw [w64 (by have:=HQ0.out;omega) (by have:=HI.out;have:=H0.out;omega)],⟨by have:=HQ0.out;omega,by have:=HI.out;omega,by have:=HI.out;omega⟩,⟨by rw [List.length_append,List.length_singleton];have:=HL.out;omega,by rw [List.length_append,List.length_singleton];have:=HL.out;omega⟩,HT,by rw [List.length_append,List.length_append,List.length_singleton,List.length_singleton];exact HD4⟩
    rw [if_neg c] at h
    have cl0 : decide (q ≥ 0) = false:=decide_eq_false c
    subst h
    have hU:=HU.out
    dsimp only at hU
    replace HU:=qy.mk hU
    have HML : qy (mem.length ≤ 1002 ∧ lk1.length ≤ 1002):=⟨by have:=HL.out;have:=H0.out;omega⟩
    clear c hU HI HL
    have HDa:=qy.mk (HD.out.ahead 11)
    have hb0 : wr.cell? ⟨ge,0,none⟩ = some (.int .i64 X.f0):=(qq HD.out.be 0).trans rfl
    have hb1 : wr.cell? ⟨ge,1,none⟩ = some (.int .i64 X.f1):=(qq HD.out.be 1).trans rfl
    go_upto_region 15 with (first|((with_reducible refine gate_builtin (b:=.append) (xs:=#[.tmp 80,.tmp 86]) rfl ?_);at_builtin;refine Kd.R_append k77 (w0:=w0) (W:=wr) w0.heap.size rfl (.tmp 80) (.tmp 86) 37 77 (.agg #[.int .i64 0,.int .i64 0]) 16 rfl Try.underlying37 info77 rfl (by decide) (by omega) (.slice Ak lk1.length ck) lk1 ((⟨X.f0,X.f1⟩ : S77)) [.int .i64 ((⟨X.f0,X.f1⟩ : S77)).f0,.int .i64 ((⟨X.f0,X.f1⟩ : S77)).f1] (fun p=>(if wr.heap.size ≤ p then 11 else col2 p) = 11) (fun _=>False) rfl rfl (k77_mkM _ _ _ ((⟨X.f0,X.f1⟩ : S77))) (fun _ hk=>hk.elim) (fun p hp=>if_pos hp) HDa.out.r11 HDa.out.S.hb HDa.out.S.hb.size (by have:=HML.out;omega) ?_;intro v7 w7 ho hb hg hat;obtain ⟨A7,c7,e_⟩:=Kd.R_slice ho;rw [List.length_append,List.length_singleton] at e_;subst e_;have HD3:=qy.mk (HDa.out.g11 ho hb hg);clear ho hb hg hat))
    clear HD HDa hb0 hb1
    generalize (fun k=>if wr.heap.size ≤ k then 11 else col2 k) = col3 at HD3
    rw [← List.length_singleton (a:=(⟨X.f0,X.f1⟩ : S77)),← List.length_append] at HD3
    go_wp2_with fail
    go_loopg [10,11,13] (us.length + 1) (fun kq v10 v11 v13 w'=>∃ (q : Int) (mem : List Int) (lk1 : List S77) (Am Ak : Option Addr) (cm ck : Nat) (col : Nat → Nat),v10 = .slice Am mem.length cm ∧ v11 = .slice Ak lk1.length ck ∧ v13 = .int .i64 q ∧ qy (0 ≤ q ∧ q ≤ kk ∧ q + kq = us.length + 1) ∧ qy ((mem.length : Int) ≤ 1010 + q ∧ (lk1.length : Int) ≤ 1010 + q) ∧ qy (upS t.ah us kk kq q mem lk1 = (ring,lk)) ∧ qy (Sh w0 w' g N Ae ce es col vy (.slice (some ⟨bn,0,none⟩) s.nd.length cn) (.slice Av s.mt.length cv0) s gt vl (.slice Aq t.ah.length cq) vr t ge X (.slice (some ax) ws.length ca) (.slice Ab us.length cb) (.slice Am mem.length cm) (.slice Ak lk1.length ck) (.slice none 0 0) ws us mem lk1 []))
    case atStart=>exact ⟨0,mem,lk1 ++ [(⟨X.f0,X.f1⟩ : S77)],_,_,cm,c7,_,rfl,by first|rfl|rw [List.length_append,List.length_singleton],rfl,⟨by omega,HK0.out.1,by omega⟩,⟨by have:=HML.out;omega,by rw [List.length_append,List.length_singleton];have:=HML.out;omega⟩,HU,HD3⟩
    clear HD3 HU HML
    obtain ⟨q,mem,lk1,Am,Ak,cm,ck,col2,rfl,rfl,rfl,HI,HL,HT,HD⟩:=hrel
    have h:=HT.out
    clear HT
    cases gk with
    | zero =>
     exfalso
     have h1:=HI.out
     have h2:=HK0.out
     omega
    | succ k1 =>
     rw [upS] at h
     by_cases c : q < kk
     ·rw [if_pos c] at h
      have HT:=qy.mk h
      have cl0 : decide (q < kk) = true:=decide_eq_true c
      have HQ0:=qy.mk (And.intro HI.out.1 c)
      have HDa:=qy.mk (HD.out.ahead 10)
      have hqu : q < (us.length : Int):=by have:=HK0.out;omega
      have HQU:=qy.mk hqu
      obtain ⟨ab,e_,hxk⟩:=Kd.at_int (Kd.R_reads' HD.out.r9).2.2 q HI.out.1 hqu
      subst e_
      have p1:=eq_true HI.out.1
      have q1:=eq_true hqu
      clear h c hqu
      as_aux_lemma =>
       go_upto_region 19 with (first|((with_reducible refine gate_builtin (b:=.append) (xs:=#[.tmp 93,.tmp 98]) rfl ?_);at_builtin;refine Kd.R_append (Kd.int .i64) (w0:=w0) (W:=wr) w0.heap.size rfl (.tmp 93) (.tmp 98) 35 3 (.int .i64 0) 8 rfl Try.underlying35 info3 rfl (by decide) (by omega) (.slice Am mem.length cm) mem (rd us q) [.int .i64 (rd us q)] (fun p=>(if wr.heap.size ≤ p then 10 else col2 p) = 10) (fun _=>False) rfl rfl rfl (fun _ hk=>hk.elim) (fun p hp=>if_pos hp) HDa.out.r10 HDa.out.S.hb HDa.out.S.hb.size (by have:=HL.out;have:=HQU.out;have:=H0.out;omega) ?_;intro v7 w7 ho hb hg hat;obtain ⟨A7,c7,e_⟩:=Kd.R_slice ho;rw [List.length_append,List.length_singleton] at e_;subst e_;have HD3:=qy.mk (HDa.out.g10 ho hb hg);clear ho hb hg hat))
       clear HD HDa hxk
       generalize (fun k=>if wr.heap.size ≤ k then 10 else col2 k) = col3 at HD3
       obtain ⟨_,e_,hxk⟩:=Kd.at_int (Kd.R_reads' HD3.out.r9).2.2 q HQ0.out.1 HQU.out
       obtain rfl:=Option.some.inj e_
       obtain ⟨⟨n2,n3⟩,-⟩:=HUS.out _ (rd_mem us q HQ0.out.1 HQU.out)
       obtain ⟨aq,e_,hah0,hah1⟩:=at_T77 (Kd.R_reads' HD3.out.T.ra).2.2 _ n2 n3
       subst e_
       have p2:=eq_true n2
       have q2:=eq_true n3
       refine start_ (n:=12) (S:=fun w'=>w'.cell? ⟨gt,1,none⟩ = some (.slice (some aq) t.ah.length cq) ∧ w'.cell? (aq.add ((rd us q).toNat * 2)) = some (.int .i64 (rd_T77 t.ah (rd us q)).f0) ∧ w'.cell? ⟨(aq.add ((rd us q).toNat * 2)).block,(aq.add ((rd us q).toNat * 2)).off + 1,none⟩ = some (.int .i64 (rd_T77 t.ah (rd us q)).f1) ∧ w'.cell? (ab.add q.toNat) = some (.int .i64 (rd us q))) (ds:=[11]) (Array.replicate 12 false) (by kernel_rfl) rfl rfl ⟨HD3.out.T.cells.2.1,hah0,hah1,hxk⟩ (fun hHeld=>?_)
       refine pa_ 0 100 (bz_ 12 1) ?_
       refine pa_ 1 101 (bz_ 12 3) ?_
       refine pa_ 2 102 (bz_ 12 7) ?_
       refine pa_ 4 104 (bz_ 12 23) ?_
       refine pa_ 5 105 (bz_ 12 55) ?_
       refine pa_ 6 106 (bz_ 12 119) ?_
       refine ta_ 3 103 (bz_ 12 127) hHeld (hy:=Or.inl ⟨by rfl,by rintro w' ⟨s0,s1,s2,s3⟩;go_simp;with_reducible rfl⟩) (h:=?_)
       refine ta_ 7 107 (bz_ 12 255) hHeld (hy:=Or.inl ⟨by rfl,by rintro w' ⟨s0,s1,s2,s3⟩;go_simp;with_reducible rfl⟩) (h:=?_)
       refine pa_ 8 108 (bz_ 12 511) ?_
       refine ta_ 9 109 (bz_ 12 1023) hHeld (hy:=Or.inl ⟨by rfl,by rintro w' ⟨s0,s1,s2,s3⟩;go_simp;with_reducible rfl⟩) (h:=?_)
       refine one_ (i:=10) (N:=some 14) (bz_ 12 2047) rfl rfl (by kernel_rfl) (by decide) (fun K hK=>?_)
       refine value_ (w1:=?_) (v:=?_) (by rfl) rfl ?_ ?_
       rotate_left 2
       ·go_simp
        constructor
        ·rfl
        rfl
       refine hK.out _ _ ⟨pw_cell_below (qo (Below.refl _ _) _) hHeld.1,pw_cell_below (qo (Below.refl _ _) _) hHeld.2.1,pw_cell_below (qo (Below.refl _ _) _) hHeld.2.2.1,pw_cell_below (qo (Below.refl _ _) _) hHeld.2.2.2⟩ (fun hHeld=>?_)
       clear hK K
       refine norm_ (a':=?_) ?_ ?_
       rotate_left
       ·show Act.put _ (some 14) _ = _
        simp only [Act.put,List.setIfInBounds_toArray,List.set_cons_zero,List.set_cons_succ,i64_w,i32_w]
        rfl
       refine last_ (i:=11) (N:=none) (bz_ 12 4095) rfl rfl (by kernel_rfl) (by decide) (fun K hK=>?_)
       try (have kc0 : (w7.drew.alloc (.cells #[.int .i64 0,.int .i64 0] 77)).cell? ⟨w7.drew.heap.size,0,none⟩ = some (.int .i64 0):=(qq (blk_new _ _) 0).trans rfl;have kc1 : (w7.drew.alloc (.cells #[.int .i64 0,.int .i64 0] 77)).cell? ⟨w7.drew.heap.size,1,none⟩ = some (.int .i64 0):=(qq (blk_new _ _) 1).trans rfl;have kf0:=qs (blk_new w7.drew (.cells #[.int .i64 0,.int .i64 0] 77)) 0;have kf1:=qs (blk_new w7.drew (.cells #[.int .i64 0,.int .i64 0] 77)) 1;simp only [World.heap_drew] at kc0 kc1 kf0 kf1)
       refine skip_ (w1:=?_) (by rfl) rfl ?_ ?_
       rotate_left
       ·go_simp
        rfl
       refine hK.out _ _ ?_
       clear hK K
       refine done_ (by kernel_rfl) ?_
       have BXP : qy (((w7.alloc (.cells #[.int .i64 (rd_T77 t.ah (rd us q)).f0,.int .i64 (rd_T77 t.ah (rd us q)).f1] 77)).drew).heap[w7.heap.size]? = some (.cells #[.int .i64 (rd_T77 t.ah (rd us q)).f0,.int .i64 (rd_T77 t.ah (rd us q)).f1] 77 (0,0))):=⟨qw (blk_new w7 _) (qh (Below.refl _ _))⟩
       have HD4:=qy.mk (HD3.out.to (qx (qo (Below.refl _ _) (.cells #[.int .i64 (rd_T77 t.ah (rd us q)).f0,.int .i64 (rd_T77 t.ah (rd us q)).f1] 77)) (qh (Below.refl _ _))))
       clear hxk hah0 hah1 HD3 hHeld
       try clear kc0 kc1 kf0 kf1
       generalize World.drew _ = w9 at BXP HD4 ⊢
       generalize w7.heap.size = gp at BXP ⊢
       have hL0 : w9.cell? ⟨gp,0,none⟩ = some (.int .i64 (rd_T77 t.ah (rd us q)).f0):=(qq BXP.out 0).trans rfl
       have hL1 : w9.cell? ⟨gp,1,none⟩ = some (.int .i64 (rd_T77 t.ah (rd us q)).f1):=(qq BXP.out 1).trans rfl
       have HDa:=qy.mk (HD4.out.ahead 11)
       go_wp2_with (first|((with_reducible refine gate_builtin (b:=.append) (xs:=#[.tmp 110,.tmp 116]) rfl ?_);at_builtin;refine Kd.R_append k77 (w0:=w0) (W:=w9) w0.heap.size rfl (.tmp 110) (.tmp 116) 37 77 (.agg #[.int .i64 0,.int .i64 0]) 16 rfl Try.underlying37 info77 rfl (by decide) (by omega) (.slice Ak lk1.length ck) lk1 ((⟨(rd_T77 t.ah (rd us q)).f1,(rd_T77 t.ah (rd us q)).f0⟩ : S77)) [.int .i64 ((⟨(rd_T77 t.ah (rd us q)).f1,(rd_T77 t.ah (rd us q)).f0⟩ : S77)).f0,.int .i64 ((⟨(rd_T77 t.ah (rd us q)).f1,(rd_T77 t.ah (rd us q)).f0⟩ : S77)).f1] (fun p=>(if w9.heap.size ≤ p then 11 else col3 p) = 11) (fun _=>False) rfl rfl (k77_mkM _ _ _ ((⟨(rd_T77 t.ah (rd us q)).f1,(rd_T77 t.ah (rd us q)).f0⟩ : S77))) (fun _ hk=>hk.elim) (fun p hp=>if_pos hp) HDa.out.r11 HDa.out.S.hb HDa.out.S.hb.size (by have:=HL.out;have:=HQU.out;have:=H0.out;omega) ?_;intro v7 w7 ho hb hg hat;obtain ⟨A9,c9,e_⟩:=Kd.R_slice ho;rw [List.length_append,List.length_singleton] at e_;subst e_;have HD5:=qy.mk (HDa.out.g11 ho hb hg);clear ho hb hg hat))
       clear hL0 hL1 HD4 HDa BXP
       go_roundg k1
       case measure=>omega
       case rel=>exact ⟨q + 1,mem ++ [rd us q],lk1 ++ [swp (rd_T77 t.ah (rd us q))],_,_,c7,c9,_,by rw [List.length_append,List.length_singleton],by rw [List.length_append,List.length_singleton],by first|rfl|rw [w64 (by have:=HQ0.out;omega) (by have:=HQU.out;have:=H0.out;omega)],⟨by have:=HQ0.out;omega,by have:=HQ0.out;omega,by have:=HI.out;omega⟩,⟨by rw [List.length_append,List.length_singleton];have:=HL.out;omega,by rw [List.length_append,List.length_singleton];have:=HL.out;omega⟩,HT,by rw [List.length_append,List.length_append,List.length_singleton,List.length_singleton];exact HD5⟩
     rw [if_neg c] at h
     have cl0 : decide (q < kk) = false:=decide_eq_false c
     obtain ⟨e1_,e2_⟩:=Prod.mk.inj h
     subst e1_
     subst e2_
     have HML : qy (mem.length ≤ 2020 ∧ lk1.length ≤ 2020):=⟨by have:=HL.out;have:=HI.out;have:=HK0.out;have:=H0.out;omega⟩
     clear c h HI HL
     go_upto_region 22 with fail
     have HD6:=qy.mk HD.out.n12
     clear HD
     generalize wr.alloc _ = w8 at HD6 ⊢
     generalize (fun k=>if wr.heap.size ≤ k then 12 else col2 k) = col3 at HD6
     generalize wr.heap.size = bi at HD6 ⊢
     go_wp2_with fail
     go_loopg [15,16] (s.mt.length + 1) (fun kq v15 v16 w'=>∃ (q : Int) (inn : List S77) (Ai : Option Addr) (ci : Nat) (col : Nat → Nat),v15 = .slice Ai inn.length ci ∧ v16 = .int .i64 q ∧ qy (0 ≤ q ∧ q + kq = s.mt.length + 1 ∧ q ≤ s.mt.length) ∧ qy (inn ++ innF (cvs s.nd) mem (s.mt.drop q.toNat) = innF (cvs s.nd) mem s.mt ∧ (inn.length : Int) ≤ q) ∧ qy (Sh w0 w' g N Ae ce es col vy (.slice (some ⟨bn,0,none⟩) s.nd.length cn) (.slice Av s.mt.length cv0) s gt vl (.slice Aq t.ah.length cq) vr t ge X (.slice (some ax) ws.length ca) (.slice Ab us.length cb) (.slice Am mem.length cm) (.slice Ak lk1.length ck) (.slice Ai inn.length ci) ws us mem lk1 inn))
     case atStart=>exact ⟨0,[],_,0,_,rfl,rfl,⟨by omega,by omega,by omega⟩,⟨rfl,by simp⟩,HD6⟩
     clear HD6
     obtain ⟨q,inn,Ai,ci,col4,rfl,rfl,HI,HL,HD⟩:=hrel
     have h:=HL.out.1
     have hc:=HD.out.S.cells
     cases gk with
     | zero =>
      exfalso
      have h1:=HI.out
      omega
     | succ k1 =>
      by_cases c : q < (s.mt.length : Int)
      ·have hi:=HI.out
       rw [drop_rd77 _ _ hi.1 c,innF] at h
       have cl0 : decide (q < (s.mt.length : Int)) = true:=decide_eq_true c
       have HQ:=qy.mk (And.intro hi.1 c)
       obtain ⟨ad,e_,hx0,hx1⟩:=at_T77 (Kd.R_reads' HD.out.S.rm).2.2 q hi.1 c
       subst e_
       obtain ⟨m0,m1⟩:=HM.out _ (rd77_mem s.mt q hi.1 c)
       have HX2:=qy.mk (And.intro m0 m1)
       obtain ⟨x,hx⟩ : ∃ x,rd_T77 s.mt q = x:=⟨_,rfl⟩
       rw [hx] at h hx0 hx1 HX2
       have HXX:=qy.mk hx
       have pi:=eq_true hi.1
       have qi:=eq_true c
       clear c hi m0 m1 hx
       have HIN1:=qy.mk (fun (b : Bool) (e : decide (topI (cvs s.nd) x.f0 ∈ mem) = b) (W' : World) (hh : Kd.R (Kd.int .i64) 3 W' w0.heap.size (fun k=>col4 k = 10) (.slice Am mem.length cm) mem)=>spec_l03In.calls _ Am cm mem (topI (cvs s.nd) x.f0) b W' (Kd.R_reads' hh).2.2 (Kd.R_reads' hh).2.1 ((l03In_is (topI (cvs s.nd) x.f0) mem (by have:=HML.out;omega)).trans (by rw [e])))
       have HIN2:=qy.mk (fun (b : Bool) (e : decide (topI (cvs s.nd) x.f1 ∈ mem) = b) (W' : World) (hh : Kd.R (Kd.int .i64) 3 W' w0.heap.size (fun k=>col4 k = 10) (.slice Am mem.length cm) mem)=>spec_l03In.calls _ Am cm mem (topI (cvs s.nd) x.f1) b W' (Kd.R_reads' hh).2.2 (Kd.R_reads' hh).2.1 ((l03In_is (topI (cvs s.nd) x.f1) mem (by have:=HML.out;omega)).trans (by rw [e])))
       by_cases c1 : topI (cvs s.nd) x.f0 ∈ mem
       ·have HI1:=qy.mk (HIN1.out true (decide_eq_true c1))
        by_cases c2 : topI (cvs s.nd) x.f1 ∈ mem
        ·rw [if_pos ⟨c1,c2⟩] at h
         have HI2:=qy.mk (HIN2.out true (decide_eq_true c2))
         have HL2:=qy.mk h
         clear c1 c2 h HIN1 HIN2
         as_aux_lemma =>
          go_wp2_with (first|(go_at_call 28;(with_reducible refine (l10Top_is HD.out.S x.f0 HW.out HX2.out.1).mono ?_);rintro e_ w2 ⟨rfl,h2⟩;replace h2:=h2.symm;subst h2)|(go_at_call 46;(with_reducible refine (HI1.out _ HD.out.r10).mono ?_);rintro r w3 ⟨rfl,hd⟩;have HD3:=qy.mk (HD.out.to (drawn_bl hd));have hcHD3:=HD3.out.S.cells;obtain ⟨_,e1_,hy0,hy1⟩:=at_T77 (Kd.R_reads' HD3.out.S.rm).2.2 q HQ.out.1 HQ.out.2;(obtain rfl:=Option.some.inj e1_);rw [HXX.out] at hy0 hy1;clear hd)|(go_at_call 28;(with_reducible refine (l10Top_is HD3.out.S x.f1 HW.out HX2.out.2).mono ?_);rintro e_ w2 ⟨rfl,h2⟩;replace h2:=h2.symm;subst h2)|(go_at_call 46;(with_reducible refine (HI2.out _ HD3.out.r10).mono ?_);rintro r w4 ⟨rfl,hd⟩;have HD4:=qy.mk (HD3.out.to (drawn_bl hd));have hcHD4:=HD4.out.S.cells;obtain ⟨_,e1_,hy0,hy1⟩:=at_T77 (Kd.R_reads' HD4.out.S.rm).2.2 q HQ.out.1 HQ.out.2;(obtain rfl:=Option.some.inj e1_);rw [HXX.out] at hy0 hy1;clear hd))
          go_roundg k1
          case measure=>omega
          case rel=>exact ⟨q + 1,inn,Ai,ci,col4,rfl,by first|rfl|rw [w64 (by have:=HQ.out;omega) (by have:=HQ.out;have:=H0.out;omega)],⟨by have:=HQ.out;omega,by have:=HI.out;omega,by have:=HQ.out;omega⟩,⟨HL2.out,by have:=HL.out.2;omega⟩,HD4⟩
        rw [if_neg (fun h=>c2 h.2)] at h
        have HI2:=qy.mk (HIN2.out false (decide_eq_false c2))
        have HL2:=qy.mk h
        clear c1 c2 h HIN1 HIN2
        as_aux_lemma =>
         go_upto_region 26 with (first|(go_at_call 28;(with_reducible refine (l10Top_is HD.out.S x.f0 HW.out HX2.out.1).mono ?_);rintro e_ w2 ⟨rfl,h2⟩;replace h2:=h2.symm;subst h2)|(go_at_call 46;(with_reducible refine (HI1.out _ HD.out.r10).mono ?_);rintro r w3 ⟨rfl,hd⟩;have HD3:=qy.mk (HD.out.to (drawn_bl hd));have hcHD3:=HD3.out.S.cells;obtain ⟨_,e1_,hy0,hy1⟩:=at_T77 (Kd.R_reads' HD3.out.S.rm).2.2 q HQ.out.1 HQ.out.2;(obtain rfl:=Option.some.inj e1_);rw [HXX.out] at hy0 hy1;clear hd)|(go_at_call 28;(with_reducible refine (l10Top_is HD3.out.S x.f1 HW.out HX2.out.2).mono ?_);rintro e_ w2 ⟨rfl,h2⟩;replace h2:=h2.symm;subst h2)|(go_at_call 46;(with_reducible refine (HI2.out _ HD3.out.r10).mono ?_);rintro r w4 ⟨rfl,hd⟩;have HD4:=qy.mk (HD3.out.to (drawn_bl hd));have hcHD4:=HD4.out.S.cells;obtain ⟨_,e1_,hy0,hy1⟩:=at_T77 (Kd.R_reads' HD4.out.S.rm).2.2 q HQ.out.1 HQ.out.2;(obtain rfl:=Option.some.inj e1_);rw [HXX.out] at hy0 hy1;clear hd))
         have HDa:=qy.mk (HD4.out.ahead 12)
         go_wp2_with (first|((with_reducible refine gate_builtin (b:=.append) (xs:=#[.tmp 156,.tmp 164]) rfl ?_);at_builtin;refine Kd.R_append k77 (w0:=w0) (W:=w4) w0.heap.size rfl (.tmp 156) (.tmp 164) 37 77 (.agg #[.int .i64 0,.int .i64 0]) 16 rfl Try.underlying37 info77 rfl (by decide) (by omega) (.slice Ai inn.length ci) inn (x) [.int .i64 (x).f0,.int .i64 (x).f1] (fun p=>(if w4.heap.size ≤ p then 12 else col4 p) = 12) (fun _=>False) rfl rfl (k77_mkM _ _ _ (x)) (fun _ hk=>hk.elim) (fun p hp=>if_pos hp) HDa.out.r12 HDa.out.S.hb HDa.out.S.hb.size (by have:=HL.out;have:=HQ.out;have:=H0.out;omega) ?_;intro v7 w7 ho hb hg hat;obtain ⟨A7,c7,e_⟩:=Kd.R_slice ho;rw [List.length_append,List.length_singleton] at e_;subst e_;have HD7:=qy.mk (HDa.out.g12 ho hb hg);clear ho hb hg hat))
         go_roundg k1
         case measure=>omega
         case rel=>exact ⟨q + 1,inn ++ [x],_,c7,_,by rw [List.length_append,List.length_singleton],by first|rfl|rw [w64 (by have:=HQ.out;omega) (by have:=HQ.out;have:=H0.out;omega)],⟨by have:=HQ.out;omega,by have:=HI.out;omega,by have:=HQ.out;omega⟩,⟨by rw [List.append_assoc];exact HL2.out,by rw [List.length_append,List.length_singleton];have:=HL.out.2;omega⟩,by rw [List.length_append,List.length_singleton];exact HD7⟩
       rw [if_neg (fun h=>c1 h.1)] at h
       have HI1:=qy.mk (HIN1.out false (decide_eq_false c1))
       have HL2:=qy.mk h
       clear c1 h HIN1 HIN2
       as_aux_lemma =>
        go_upto_region 26 with (first|(go_at_call 28;(with_reducible refine (l10Top_is HD.out.S x.f0 HW.out HX2.out.1).mono ?_);rintro e_ w2 ⟨rfl,h2⟩;replace h2:=h2.symm;subst h2)|(go_at_call 46;(with_reducible refine (HI1.out _ HD.out.r10).mono ?_);rintro r w3 ⟨rfl,hd⟩;have HD3:=qy.mk (HD.out.to (drawn_bl hd));have hcHD3:=HD3.out.S.cells;obtain ⟨_,e1_,hy0,hy1⟩:=at_T77 (Kd.R_reads' HD3.out.S.rm).2.2 q HQ.out.1 HQ.out.2;(obtain rfl:=Option.some.inj e1_);rw [HXX.out] at hy0 hy1;clear hd))
        have HDa:=qy.mk (HD3.out.ahead 12)
        go_wp2_with (first|((with_reducible refine gate_builtin (b:=.append) (xs:=#[.tmp 156,.tmp 164]) rfl ?_);at_builtin;refine Kd.R_append k77 (w0:=w0) (W:=w3) w0.heap.size rfl (.tmp 156) (.tmp 164) 37 77 (.agg #[.int .i64 0,.int .i64 0]) 16 rfl Try.underlying37 info77 rfl (by decide) (by omega) (.slice Ai inn.length ci) inn (x) [.int .i64 (x).f0,.int .i64 (x).f1] (fun p=>(if w3.heap.size ≤ p then 12 else col4 p) = 12) (fun _=>False) rfl rfl (k77_mkM _ _ _ (x)) (fun _ hk=>hk.elim) (fun p hp=>if_pos hp) HDa.out.r12 HDa.out.S.hb HDa.out.S.hb.size (by have:=HL.out;have:=HQ.out;have:=H0.out;omega) ?_;intro v7 w7 ho hb hg hat;obtain ⟨A7,c7,e_⟩:=Kd.R_slice ho;rw [List.length_append,List.length_singleton] at e_;subst e_;have HD7:=qy.mk (HDa.out.g12 ho hb hg);clear ho hb hg hat))
        go_roundg k1
        case measure=>omega
        case rel=>exact ⟨q + 1,inn ++ [x],_,c7,_,by rw [List.length_append,List.length_singleton],by first|rfl|rw [w64 (by have:=HQ.out;omega) (by have:=HQ.out;have:=H0.out;omega)],⟨by have:=HQ.out;omega,by have:=HI.out;omega,by have:=HQ.out;omega⟩,⟨by rw [List.append_assoc];exact HL2.out,by rw [List.length_append,List.length_singleton];have:=HL.out.2;omega⟩,by rw [List.length_append,List.length_singleton];exact HD7⟩
      have hi:=HI.out
      rw [List.drop_eq_nil_of_le (by omega),innF,List.append_nil] at h
      have cl0 : decide (q < (s.mt.length : Int)) = false:=decide_eq_false c
      subst h
      clear c hi HI HL
      obtain ⟨_,e_,hxj⟩:=Kd.at_int (Kd.R_reads' HD.out.r8).2.2 j HJ.out.1 HJ.out.2
      obtain rfl:=Option.some.inj e_
      have pj:=eq_true HJ.out.1
      have qj:=eq_true HJ.out.2
      have HBC:=qy.mk (l10Base_calls HD.out.S (rd ws j) HW.out HM.out (by have:=H0.out;omega) (HWS.out _ (rd_mem ws j HJ.out.1 HJ.out.2)).2)
      go_upto_region 28 with (first|(go_at_call 48;refine HBC.out.mono ?_;rintro e_ w3 ⟨rfl,hb⟩;have HD5:=qy.mk (HD.out.to hb);clear hb))
      clear hc hxj HBC HD
      have hc:=HD5.out.S.cells
      have hf4:=HD5.out.S.frz.2.2.1
      obtain ⟨col5,hS5,hnew,hm5,hk5⟩:=HD5.out.join
      have HS5:=qy.mk hS5
      have HJ5:=qy.mk (And.intro hnew (And.intro hm5 hk5))
      clear hS5 hnew hm5 hk5
      go_upto_region 29 with fail
      clear hc hf4 HD5
      generalize World.setCell _ _ _ = w6 at HS5 HJ5 ⊢
      have hc:=HS5.out.cells
      go_upto_region 30 with (first|((with_reducible refine gate_builtin (b:=.append) (xs:=#[.tmp 180,.tmp 185]) rfl ?_);at_builtin;refine Kd.R_append k55 (w0:=w0) (W:=w6) w0.heap.size rfl (.tmp 180) (.tmp 185) 36 55 (.agg #[.slice none 0 0,.slice none 0 0,.int .i64 0,.int .i64 0,.int .i64 0,.bool false]) 80 rfl Try.underlying36 info55 rfl (by decide) (by omega) (.slice (some ⟨bn,0,none⟩) s.nd.length cn) s.nd (⟨mem,lk1,baseS s.nd s.mt (rd ws j),0,-1,false⟩ : S55) [.slice Am mem.length cm,.slice Ak lk1.length ck,.int .i64 (baseS s.nd s.mt (rd ws j)),.int .i64 0,.int .i64 (-1),.bool false] (fun p=>col5 p = 2) (fun p=>col5 p = 2 ∧ some p ≠ (Value.slice (some ⟨bn,0,none⟩) s.nd.length cn).ownBlock) rfl rfl (k55_mkM _ _ _ (⟨mem,lk1,baseS s.nd s.mt (rd ws j),0,-1,false⟩ : S55) HJ5.out.2.1 HJ5.out.2.2) (fun _ h=>h) HJ5.out.1 HS5.out.rn HS5.out.hb HS5.out.hb.size (by have:=H0.out;show (s.nd.length + 1) * 80 ≤ 140737488355328;omega) ?_;intro v7 w7 ho hb hg hat;have HHO:=qy.mk ho;have HHG:=qy.mk hg;have HHA:=qy.mk hat;obtain ⟨hs7,hx7,hf7⟩:=Rn.app_n HS5.out ho hb hg;have HS7:=qy.mk hs7;obtain ⟨b7,c7,e7_,-⟩:=row_at ho (by simp);rw [List.length_append,List.length_singleton] at e7_;subst e7_;clear hs7 ho hb hg hat))
      have HRR : qy (Kd.R (Kd.int .i64) 3 (w7.setCell ⟨g,3,none⟩ (.slice (some ⟨b7,0,none⟩) (s.nd.length + 1) c7)) w0.heap.size (fun p=>p ≠ b7) (.slice Am mem.length cm) mem):=by
       refine ⟨Kd.R_set (Kd.R_mono (Kd.R_grown (Kd.R_bound HJ5.out.2.1) HHG.out (fun p hp=>hp.1.2)) ?_) (blk_grown HS5.out.blk HHG.out (Kd.R_ne HS5.out.rn HS5.out.blk (by decide))) t39_3 _ _⟩
       rintro p ⟨⟨_,h1⟩,_,h3,_⟩ rfl
       rcases HHA.out with h|⟨b,h,hb⟩
       ·exact h1 h
       obtain rfl : p = b:=Option.some.inj h
       omega
      clear hc hx7 hf7 HHO HHG HHA HS5 HJ5
      generalize World.setCell _ _ _ = w8 at HS7 HRR ⊢
      go_wp2_with fail
      go_loopg [18] (mem.length + 1) (fun kq v18 w'=>∃ (q : Int) (nd : List S55),v18 = .int .i64 q ∧ qy (0 ≤ q ∧ q + kq = mem.length + 1 ∧ q ≤ mem.length) ∧ qy (upsF s.nd.length (mem.drop q.toNat) nd = upsF s.nd.length mem (s.nd ++ [(⟨mem,lk1,baseS s.nd s.mt (rd ws j),0,-1,false⟩ : S55)])) ∧ qy (nd.length = s.nd.length + 1) ∧ qy (RnF w0 w' g N Ae ce es col5 vy (.slice (some ⟨b7,0,none⟩) (s.nd.length + 1) c7) (.slice Ai (innF (cvs s.nd) mem s.mt).length ci) { s with mt:=innF (cvs s.nd) mem s.mt,nd:=nd }) ∧ qy (Kd.R (Kd.int .i64) 3 w' w0.heap.size (fun p=>p ≠ b7) (.slice Am mem.length cm) mem))
      case atStart=>exact ⟨0,_,rfl,⟨by omega,by omega,by omega⟩,⟨rfl⟩,⟨by rw [List.length_append,List.length_singleton]⟩,HS7,HRR⟩
      clear HS7 HRR
      obtain ⟨q,nd,rfl,HI,HT,HL,HS,HRR⟩:=hrel
      have h:=HT.out
      clear HT
      have hc:=HS.out.cells
      cases gk with
      | zero =>
       exfalso
       have h1:=HI.out
       omega
      | succ k1 =>
       by_cases c : q < (mem.length : Int)
       ·have hi:=HI.out
        rw [drop_rd _ _ hi.1 c,upsF] at h
        have HT:=qy.mk h
        have cl0 : decide (q < (mem.length : Int)) = true:=decide_eq_true c
        have HIL:=qy.mk c
        obtain ⟨am,e_,hmi⟩:=Kd.at_int (Kd.R_reads' HRR.out).2.2 q hi.1 c
        subst e_
        have pi:=eq_true hi.1
        have qi:=eq_true c
        obtain ⟨pm,qm⟩:=HRG.out _ (rd_mem mem q hi.1 c)
        have qm' : rd mem q < (nd.length : Int):=by rw [HL.out];omega
        clear c hi h
        obtain ⟨u0,u1,nx0,nx1,nx2,nx3,nx4,nx5,nf3,nf4,nf5,-,-⟩:=HS.out.rows (rd mem q) pm qm'
        have HS2:=qy.mk (HS.out.sn (rd mem q) pm qm' 4 (.int .i64 (s.nd.length : Int)) { rd_T55 nd (rd mem q) with f4:=(s.nd.length : Int) } (by decide) (fun _ _=>rfl) ⟨rfl,rfl⟩)
        have HR2:=qy.mk (Kd.R_far (p:=⟨b7,(rd mem q).toNat * 6 + 4,none⟩) HRR.out (fun k hk=>hk) (.int .i64 (s.nd.length : Int)))
        have pmb:=eq_true pm
        have qmb : (rd mem q < (s.nd.length : Int) + 1) = True:=eq_true (by omega)
        have hw1 : wrap64 ((s.nd.length : Int) + 1 - 1) = (s.nd.length : Int):=by rw [w64 (by omega) (by have:=H0.out;omega)];omega
        have hw2 : wrap64 (s.nd.length : Int) = (s.nd.length : Int):=w64 (by omega) (by have:=H0.out;omega)
        as_aux_lemma =>
         go_wp2_with fail
         refine start_ (n:=17) (S:=fun w'=>w'.cell? ⟨g,3,none⟩ = some (.slice (some ⟨b7,0,none⟩) (s.nd.length + 1) c7) ∧ w'.cell? (am.add q.toNat) = some (.int .i64 (rd mem q))) (ds:=[16]) (Array.replicate 17 false) (by kernel_rfl) rfl rfl ⟨hc.2.2.2.1,hmi⟩ (fun hHeld=>?_)
         refine pa_ 0 195 (bz_ 17 1) ?_
         refine pa_ 1 196 (bz_ 17 3) ?_
         refine pa_ 2 197 (bz_ 17 7) ?_
         refine pa_ 4 199 (bz_ 17 23) ?_
         refine pa_ 5 200 (bz_ 17 55) ?_
         refine pa_ 6 201 (bz_ 17 119) ?_
         refine pa_ 8 203 (bz_ 17 375) ?_
         refine pa_ 9 204 (bz_ 17 887) ?_
         refine pa_ 10 205 (bz_ 17 1911) ?_
         refine ta_ 3 198 (bz_ 17 1919) hHeld (hy:=Or.inl ⟨by rfl,by rintro w' ⟨s0,s1⟩;go_simp;with_reducible rfl⟩) (h:=?_)
         refine ta_ 7 202 (bz_ 17 2047) hHeld (hy:=Or.inl ⟨by rfl,by rintro w' ⟨s0,s1⟩;go_simp;with_reducible rfl⟩) (h:=?_)
         refine ta_ 11 206 (bz_ 17 4095) hHeld (hy:=Or.inl ⟨by rfl,by rintro w' ⟨s0,s1⟩;go_simp;with_reducible rfl⟩) (h:=?_)
         refine pa_ 12 207 (bz_ 17 8191) ?_
         refine pa_ 13 208 (bz_ 17 16383) ?_
         refine pa_ 14 209 (bz_ 17 32767) ?_
         refine pa_ 15 210 (bz_ 17 65535) ?_
         refine last_ (i:=16) (N:=none) (bz_ 17 131071) rfl rfl (by kernel_rfl) (by decide) (fun K hK=>?_)
         refine skip_ (w1:=?_) (by rfl) rfl ?_ ?_
         rotate_left
         ·go_simp
          rfl
         refine hK.out _ _ ?_
         clear hK K
         refine done_ (by kernel_rfl) ?_
         clear nx0 nx1 nx2 nx3 nx4 nx5 nf3 nf4 nf5 hc hmi HS HRR hw1 hw2
         replace HS2:=qy.mk (HS2.out.to (qh (Below.refl _ _)))
         replace HR2:=qy.mk (Kd.R_below HR2.out (qh (Below.refl _ _)))
         generalize World.drew _ = w9 at HS2 HR2 ⊢
         go_wp2_with fail
         go_roundg k1
         case measure=>omega
         case rel=>exact ⟨q + 1,_,by first|rfl|rw [w64 (by have:=HI.out;omega) (by have:=HIL.out;have:=HML.out;omega)],⟨by have:=HI.out;omega,by have:=HI.out;omega,by have:=HIL.out;omega⟩,HT,⟨by rw [upAt,List.length_set];exact HL.out⟩,HS2,HR2⟩
       have hi:=HI.out
       rw [List.drop_eq_nil_of_le (by omega),upsF] at h
       subst h
       have cl0 : decide (q < (mem.length : Int)) = false:=decide_eq_false c
       clear c hi HI
       go_wp2_with fail
       go_end0
       exact ⟨rfl,HS.out.is⟩
  rw [if_neg cm] at h
  have HIN2:=qy.mk (HIN.out false (decide_eq_false cm))
  have HI0:=qy.mk h
  clear h cm HIN
  go_wp2_with (first|(go_at_call 46;refine HIN2.out.mono ?_;rintro r w3 ⟨rfl,⟨nq,rfl⟩⟩))
  go_roundg k1
  case measure=>omega
  case rel=>exact ⟨j + 1,by first|rfl|rw [w64 (by omega) (by have:=HJ.out;have:=H0.out;omega)],⟨by omega,by have:=HI.out;omega⟩,HI0,⟨HF.out.to (qd (Below.refl _ _) nq)⟩⟩
 rw [if_neg c] at h
 cases h
end Go.Proofs.Ytnffimpoekjkpaa.QFnExactRounds
