import Derived.Test.YtnffimpoekjkpaaGreatZFnExactSolvex59
import Derived.Test.YtnffimpoekjkpaaGreatZFnExactSolvex2g
set_option linter.all false
namespace Go.Proofs.YtnffimpoekjkpaaGreat.QFnExactSolve
open Go.RowKit Go.Proofs.YtnffimpoekjkpaaGreatW.PrintWords Go.Proofs.YtnffimpoekjkpaaGreatW.PrintLast Go.Proofs.YtnffimpoekjkpaaGreatW.PrintMore
set_option maxHeartbeats 8000000
set_option maxRecDepth 100000
attribute [local go_sem] Od' Pd' Xd' Yd' Jd' Kd' Qd' Rd'
def dnS (ah : List S56) (xs : List Int) : Nat → Int → List Int → List S56 → List Int × List S56
 | 0,_,mem,lk=>(mem,lk)
 | f + 1,j,mem,lk=>if 0 ≤ j then dnS ah xs f (j - 1) (mem ++ [rd xs j]) (lk ++ [xd' ah (rd xs j)]) else (mem,lk)
def swp (x : S56) : S56:=⟨x.f1,x.f0⟩
def upS (ah : List S56) (ws : List Int) (kk : Int) : Nat → Int → List Int → List S56 → List Int × List S56
 | 0,_,mem,lk=>(mem,lk)
 | f + 1,j,mem,lk=>if j < kk then upS ah ws kk f (j + 1) (mem ++ [rd ws j]) (lk ++ [swp (xd' ah (rd ws j))]) else (mem,lk)
def Zf' (nd : List S89) (ring : List Int) : List S56 → List S56
 | []=>[]
 | x :: l=>if topI nd x.f0 ∈ ring ∧ topI nd x.f1 ∈ ring then Zf' nd ring l else x :: Zf' nd ring l
def Yn' (s : RI) (ring : List Int) (lk : List S56) (j : Int) : RI :=
 { s with mt:=Zf' (cvs s.nd) ring s.mt,nd:=Me' s.nd.length ring (s.nd ++ [⟨ring,lk,xe' s.nd s.mt j,0,-1,false⟩]) }
theorem Gm' (v : Int) (l : List Int) (hl : l.length ≤ 1000000000) : ∀ (k : Nat) (i : Int),0 ≤ i → (l.length : Int) < i + k → i ≤ l.length → spec_l03In.l0 k l v i = some (decide (v ∈ l.drop i.toNat))
 | 0,i,h0,h,hi=>absurd h aa'
 | k + 1,i,h0,h,hi=>by
  unfold spec_l03In.l0
  by_cases c : i < (l.length : Int)
  ·rw [if_pos c,if_pos h0,Jf' l i h0 c]
   by_cases e : rd l i = v
   ·rw [if_pos e,e]
    simp
   rw [if_neg e,w64 aa' aa',Gm' v l hl k (i + 1) aa' aa' aa']
   congr 1
   rw [decide_eq_decide,List.mem_cons]
   exact ⟨.inr,fun h=>h.resolve_left fun h=>e h.symm⟩
  rw [if_neg c,List.drop_eq_nil_of_le aa']
  simp
theorem nk' (v : Int) (l : List Int) (hl : l.length ≤ 1000000000) : spec_l03In.f (l.length + 1) l v = some (decide (v ∈ l)):=by
 rw [spec_l03In.f,Gm' v l hl (l.length + 1) 0 aa' aa' aa']
 rfl
theorem Pk' {w0 W : World} {Z : Nat → Prop} {wz : World} {g : Nat} {N : Int} {Ae : Option Addr} {ce : Nat} {es : List (S73)} {col : Nat → Nat} {vy vn vm : Value} {s : RI} (hS : Rn w0 W Z wz g N Ae ce es col vy vn vm s) {gt : Nat} {vl va vr : Value} {t : TI} (hT : Tp W w0.heap.size gt col vl va vr t) (hw : WFn (cvs s.nd)) (hm : ∀ x ∈ s.mt,inR x.f0 s.nd.length ∧ inR x.f1 s.nd.length) (hsm : s.mt.length ≤ 1000) (hsz : s.nd.length ≤ 1000000)
  (X : S73) (hX0 : inR X.f0 s.nd.length) (hX1 : inR X.f1 s.nd.length) (k : Nat) (hk : k ≤ 1000) (ws us : List Int) (h1 : wayS (cvs s.nd) t.ah t.rt k (topI (cvs s.nd) X.f0) = some ws) (h2 : wayS (cvs s.nd) t.ah t.rt k (topI (cvs s.nd) X.f1) = some us)
  (hla : ws.length ≤ 1000) (hlb : us.length ≤ 1000) (hws : ∀ n ∈ ws,inR n t.ah.length ∧ inR n s.nd.length) (hus : ∀ n ∈ us,inR n t.ah.length ∧ inR n s.nd.length) (i kk : Int) (hi : ih' ws us (ws.length + 1) 0 = some i) (hkk : spec_l08Place.f (us.length + 1) us (rd ws i) = some kk) (hk0 : 0 ≤ kk ∧ kk < us.length)
  (ring : List Int) (lk : List S56) (hr : upS t.ah us kk (us.length + 1) 0 (dnS t.ah ws (ws.length + 1) (i - 1) [rd ws i] []).1 ((dnS t.ah ws (ws.length + 1) (i - 1) [rd ws i] []).2 ++ [⟨X.f0,X.f1⟩]) = (ring,lk)) (hring : ∀ m ∈ ring,inR m s.nd.length) :
  Calls Tryz.prog 60 #[.pointer (some ⟨g,0,none⟩),.pointer (some ⟨gt,0,none⟩),.agg #[.int .i64 X.f0,.int .i64 X.f1,.int .i64 X.f2,.int .i64 X.f3,.int .i64 X.f4]] W fun e w'=>e = .returned (.tuple #[]) ∧ Gh' w0 w' g N Ae ce es (Yn' s ring lk (rd ws i)):=by
 have hS' : RnF w0 W g N Ae ce es col vy vn vm s:=⟨hS.blk,hS.ge,hS.hb,hS.he,hS.hec,hS.ry,hS.rn,hS.rm,fun _ h=>h.elim⟩
 clear hS
 have hS:=hS'
 clear hS'
 have hu51:=Tryz.underlying51
 have hu77:=Tryz.underlying77
 have hu56:=Tryz.underlying56
 have hu73:=Tryz.underlying73
 have hu35:=Tryz.underlying35
 have HS:=qz.mk hS
 clear hS
 have hu27:=Tryz.underlying27
 have hu49:=Tryz.underlying49
 have hu48:=Tryz.underlying48
 have hu102:=Tryz.underlying102
 have HTP:=qz.mk hT
 have HW:=qz.mk hw
 have HM:=qz.mk hm
 have H0:=qz.mk (And.intro hsm (And.intro hsz (And.intro hla (And.intro hlb hk))))
 have HX:=qz.mk (And.intro hX0 hX1)
 have HWS:=qz.mk hws
 have HUS:=qz.mk hus
 have HI0:=qz.mk hi
 have HKK:=qz.mk hkk
 have HK0:=qz.mk hk0
 have HR:=qz.mk hr
 have HRG:=qz.mk hring
 obtain ⟨Av,cv0,e_⟩:=Kd.R_slice HS.o.rm
 subst e_
 obtain ⟨bn,cn,e_,-⟩:=fe' HS.o.rn (by have:=hX0.1;have:=hX0.2;omega)
 subst e_
 obtain ⟨Aq,cq,e_⟩:=Kd.R_slice HTP.o.ra
 subst e_
 obtain ⟨A,hA⟩ : ∃ A,topI (cvs s.nd) X.f0 = A:=⟨_,rfl⟩
 obtain ⟨B,hB⟩ : ∃ B,topI (cvs s.nd) X.f1 = B:=⟨_,rfl⟩
 have HTA:=qz.mk (fun (W' : World) (h : RnF w0 W' g N Ae ce es col vy (.slice (some ⟨bn,0,none⟩) s.nd.length cn) (.slice Av s.mt.length cv0) s)=>ae' h X.f0 HW.o HX.o.1)
 have HTB:=qz.mk (fun (W' : World) (h : RnF w0 W' g N Ae ce es col vy (.slice (some ⟨bn,0,none⟩) s.nd.length cn) (.slice Av s.mt.length cv0) s)=>ae' h X.f1 HW.o HX.o.2)
 have HWA:=qz.mk (fun (W' : World) (h : RnF w0 W' g N Ae ce es col vy (.slice (some ⟨bn,0,none⟩) s.nd.length cn) (.slice Av s.mt.length cv0) s) (hT : Tp W' w0.heap.size gt col vl (.slice Aq t.ah.length cq) vr t)=>Zg' h hT HW.o k pa' (topI (cvs s.nd) X.f0) ws h1)
 have HWB:=qz.mk (fun (W' : World) (h : RnF w0 W' g N Ae ce es col vy (.slice (some ⟨bn,0,none⟩) s.nd.length cn) (.slice Av s.mt.length cv0) s) (hT : Tp W' w0.heap.size gt col vl (.slice Aq t.ah.length cq) vr t)=>Zg' h hT HW.o k pa' (topI (cvs s.nd) X.f1) us h2)
 simp only [hA] at HTA HWA
 simp only [hB] at HTB HWB
 clear hT hw hm hsm hsz hla hlb hk hX0 hX1 h1 h2 hws hus hi hkk hk0 hr hring hA hB
 go_enter Tryz.func60,Tryz.ntmps60
 go_upto_region 1 with fail
 have BX1 : qz ((W.alloc (.cells #[.int .i64 X.f0,.int .i64 X.f1,.int .i64 X.f2,.int .i64 X.f3,.int .i64 X.f4] 73)).heap[W.heap.size]? = some (.cells #[.int .i64 X.f0,.int .i64 X.f1,.int .i64 X.f2,.int .i64 X.f3,.int .i64 X.f4] 73 (0,0))):=⟨yd' W _⟩
 have HB1 : qz (Below W.heap.size W (W.alloc (.cells #[.int .i64 X.f0,.int .i64 X.f1,.int .i64 X.f2,.int .i64 X.f3,.int .i64 X.f4] 73))):=⟨qo (Below.refl _ _) _⟩
 generalize W.alloc (.cells #[.int .i64 X.f0,.int .i64 X.f1,.int .i64 X.f2,.int .i64 X.f3,.int .i64 X.f4] 73) = W1 at *
 have HS1:=qz.mk (HS.o.to HB1.o)
 have HT1:=qz.mk (HTP.o.to HB1.o)
 have hb0 : W1.cell? ⟨W.heap.size,0,none⟩ = some (.int .i64 X.f0):=(qq BX1.o 0).trans rfl
 go_upto_region 2 with (first|(go_at_call 59;(with_reducible refine (HTA.o _ HS1.o).mono ?_);rintro e_ w3 ⟨rfl,h2⟩;replace h2:=h2.symm;subst h2)|(go_at_call 79;(with_reducible refine (HWA.o _ HS1.o HT1.o).mono ?_);rintro e_ w4 ⟨va_,rfl,hr,hb⟩;obtain ⟨Aa,ca,e_⟩:=Kd.R_slice hr;subst e_;have HR8:=qz.mk hr;have HB3:=qz.mk hb;clear hr hb))
 have BX4:=qz.mk (qx BX1.o HB3.o)
 have HS4:=qz.mk (HS1.o.to HB3.o)
 have HT4:=qz.mk (HT1.o.to HB3.o)
 clear hb0
 have hb1 : w4.cell? ⟨W.heap.size,1,none⟩ = some (.int .i64 X.f1):=(qq BX4.o 1).trans rfl
 go_upto_region 3 with (first|(go_at_call 59;(with_reducible refine (HTB.o _ HS4.o).mono ?_);rintro e_ w3 ⟨rfl,h2⟩;replace h2:=h2.symm;subst h2)|(go_at_call 79;(with_reducible refine (HWB.o _ HS4.o HT4.o).mono ?_);rintro e_ w5 ⟨vb_,rfl,hr,hb⟩;obtain ⟨Ab,cb,e_⟩:=Kd.R_slice hr;subst e_;have HR9:=qz.mk hr;have HB5:=qz.mk hb;clear hr hb))
 clear hb1
 have HSH : qz (Sh w0 w5 g N Ae ce es (fun q=>if w4.heap.size ≤ q then 9 else if W1.heap.size ≤ q then 8 else col q) vy (.slice (some ⟨bn,0,none⟩) s.nd.length cn) (.slice Av s.mt.length cv0) s gt vl (.slice Aq t.ah.length cq) vr t W.heap.size X (.slice Aa ws.length ca) (.slice Ab us.length cb) (.slice none 0 0) (.slice none 0 0) (.slice none 0 0) ws us [] [] []):=by
  have hz1:=HB3.o.size
  have hz0:=HB1.o.size
  have hge:=HS.o.hb.size
  have hc : ∀ q,q < W1.heap.size → (if w4.heap.size ≤ q then 9 else if W1.heap.size ≤ q then 8 else col q) = col q:=fun q hq=>by rw [if_neg aa',if_neg aa']
  have hc4 : ∀ q,q < w4.heap.size → (if w4.heap.size ≤ q then 9 else if W1.heap.size ≤ q then 8 else col q) = (if W1.heap.size ≤ q then 8 else col q):=fun q hq=>by rw [if_neg aa']
  exact ⟨⟨(HS1.o.recol hc).to (qy HB3.o HB5.o),(HT1.o.recol hc).to (qy HB3.o HB5.o),qx BX4.o HB5.o,Kd.R_below (ve' (col:=fun q=>if W1.heap.size ≤ q then 8 else col q) (jh' (col:=col) HR8.o aa' 8) hc4) HB5.o,jh' (col:=fun q=>if W1.heap.size ≤ q then 8 else col q) HR9.o aa' 9,Kd.R_nil _ _ _ _ _,Kd.R_nil _ _ _ _ _,Kd.R_nil _ _ _ _ _⟩⟩
 generalize (fun q=>if w4.heap.size ≤ q then 9 else if W1.heap.size ≤ q then 8 else col q) = col0 at HSH
 generalize W.heap.size = ge at HSH ⊢
 clear HS HS1 HS4 HT1 HT4 BX1 BX4 HB1 HB3 HB5 HR8 HR9 HTA HTB HWA HWB HTP
 go_wp2_with fail
 go_loopg [8] (ws.length + 1) (fun kq v8 w'=>∃ j : Int,v8 = .int .i64 j ∧ qz (0 ≤ j ∧ j + kq = ws.length + 1) ∧ qz (ih' ws us kq j = some i) ∧ qz (Sh w0 w' g N Ae ce es col0 vy (.slice (some ⟨bn,0,none⟩) s.nd.length cn) (.slice Av s.mt.length cv0) s gt vl (.slice Aq t.ah.length cq) vr t ge X (.slice Aa ws.length ca) (.slice Ab us.length cb) (.slice none 0 0) (.slice none 0 0) (.slice none 0 0) ws us [] [] []))
 case atStart=>exact ⟨0,rfl,⟨aa',aa'⟩,HI0,HSH⟩
 clear HI0 HSH
 obtain ⟨j,rfl,HI,HI0,HF⟩:=hrel
 have h:=HI0.o
 clear HI0
 obtain _|k1:=gk
 ·cases h
 rw [ih'] at h
 by_cases c : inR j ws.length
 ·rw [if_pos c] at h
  obtain ⟨p,q⟩:=c
  have HJ:=qz.mk (And.intro p q)
  obtain ⟨ax,e_,hxj⟩:=Kd.at_int (Kd.R_reads' HF.o.r8).2.2 j p q
  subst e_
  have pb:=eq_true p
  have qb:=eq_true q
  have HIN:=qz.mk (fun (b : Bool) (e : decide (rd ws j ∈ us) = b)=>spec_l03In.calls _ Ab cb us (rd ws j) b wr (Kd.R_reads' HF.o.r9).2.2 (Kd.R_reads' HF.o.r9).2.1 ((nk' (rd ws j) us pa').trans (by rw [e])))
  by_cases cm : rd ws j ∈ us
  ·rw [if_pos cm] at h
   obtain rfl:=Option.some.inj h
   have HIN2:=qz.mk (HIN.o true (decide_eq_true cm))
   clear h cm HIN
   go_upto_region 6 with (first|(go_at_call 80;refine HIN2.o.mono ?_;rintro r w3 ⟨rfl,⟨nq,rfl⟩⟩))
   have HF2:=qz.mk (HF.o.to (qd (Below.refl _ _) nq))
   clear HF hxj HIN2
   generalize wr.drewN nq = w6 at HF2 ⊢
   obtain ⟨_,e_,hxj⟩:=Kd.at_int (Kd.R_reads' HF2.o.r8).2.2 j HJ.o.1 HJ.o.2
   obtain rfl:=Option.some.inj e_
   have HPL:=qz.mk (spec_l08Place.calls _ Ab cb us (rd ws j) kk w6 (Kd.R_reads' HF2.o.r9).2.2 (Kd.R_reads' HF2.o.r9).2.1 HKK.o)
   go_upto_region 7 with (first|(go_at_call 81;refine HPL.o.mono ?_;rintro r w3 ⟨rfl,⟨nq,rfl⟩⟩))
   have HF3:=qz.mk (HF2.o.to (qd (Below.refl _ _) nq))
   clear HF2 hxj HPL
   generalize w6.drewN nq = w7 at HF3 ⊢
   obtain ⟨_,e_,hxj⟩:=Kd.at_int (Kd.R_reads' HF3.o.r8).2.2 j HJ.o.1 HJ.o.2
   obtain rfl:=Option.some.inj e_
   go_upto_region 8 with fail
   have HF4:=qz.mk (HF3.o.n10 (x:=rd ws j))
   clear HF3 hxj
   generalize w7.alloc _ = w8 at HF4 ⊢
   generalize w7.heap.size = br at HF4 ⊢
   go_upto_region 9 with fail
   have HF5:=qz.mk HF4.o.n11
   clear HF4
   generalize w8.alloc _ = w9 at HF5 ⊢
   generalize (fun k=>if w8.heap.size ≤ k then 11 else if br ≤ k then 10 else col0 k) = col1 at HF5
   generalize w8.heap.size = bk at HF5 ⊢
   obtain ⟨DN,hDN⟩ : ∃ DN,dnS t.ah ws (ws.length + 1) (j - 1) [rd ws j] [] = DN:=⟨_,rfl⟩
   have HDN:=qz.mk hDN
   have hU:=HR.o
   rw [hDN] at hU
   have HU:=qz.mk hU
   clear hU hDN
   go_wp2_with fail
   go_loopg [10,11,12] (ws.length + 1) (fun kq v10 v11 v12 w'=>∃ (q : Int) (mem : List Int) (lk1 : List S56) (Am Ak : Option Addr) (cm ck : Nat) (col : Nat → Nat),v10 = .slice Am mem.length cm ∧ v11 = .slice Ak lk1.length ck ∧ v12 = .int .i64 q ∧ qz (-1 ≤ q ∧ q < ws.length ∧ q + 1 < kq) ∧ qz (mem.length + kq = ws.length + 2 ∧ lk1.length + kq = ws.length + 1) ∧ qz (dnS t.ah ws kq q mem lk1 = DN) ∧ qz (Sh w0 w' g N Ae ce es col vy (.slice (some ⟨bn,0,none⟩) s.nd.length cn) (.slice Av s.mt.length cv0) s gt vl (.slice Aq t.ah.length cq) vr t ge X (.slice (some ax) ws.length ca) (.slice Ab us.length cb) (.slice Am mem.length cm) (.slice Ak lk1.length ck) (.slice none 0 0) ws us mem lk1 []))
   case atStart=>exact ⟨j - 1,[rd ws j],[],_,_,1,0,_,rfl,rfl,by first|rfl|rw [w64 Ja' Ub'],⟨by have:=HJ.o.1;omega,by have:=HJ.o.2;omega,by have:=HJ.o.2;omega⟩,⟨by simp only [List.length_singleton];omega,by simp only [List.length_nil];omega⟩,HDN,HF5⟩
   clear HF5 HDN
   obtain ⟨q,mem,lk1,Am,Ak,cm,ck,col2,rfl,rfl,rfl,HI,HL,HT,HD⟩:=hrel
   have h:=HT.o
   clear HT
   cases gk with
   | zero =>
    exfalso
    have h1:=HI.o
    omega
   | succ k1 =>
    rw [dnS] at h
    by_cases c : 0 ≤ q
    ·rw [if_pos c] at h
     have HT:=qz.mk h
     have cl0 : decide (q ≥ 0) = true:=decide_eq_true c
     have HQ0:=qz.mk c
     have HDa:=qz.mk (HD.o.ahead 10)
     obtain ⟨_,e_,hxk⟩:=Kd.at_int (Kd.R_reads' HD.o.r8).2.2 q c fa'
     obtain rfl:=Option.some.inj e_
     have p1:=eq_true c
     have q1 : (q < (ws.length : Int)) = True:=eq_true fa'
     clear h c
     as_aux_lemma =>
      go_upto_region 13 with (first|((with_reducible refine Ld' (b:=.append) (xs:=#[.tmp 60,.tmp 65]) rfl ?_);at_builtin;refine Kd.R_append (Kd.int .i64) (w0:=w0) (W:=wr) w0.heap.size rfl (.tmp 60) (.tmp 65) 27 3 (.int .i64 0) 8 rfl Tryz.underlying27 Ud' rfl ba' aa' (.slice Am mem.length cm) mem (rd ws q) [.int .i64 (rd ws q)] (fun p=>(if wr.heap.size ≤ p then 10 else col2 p) = 10) (fun _=>False) rfl rfl rfl (fun _ hk=>hk.elim) (fun p hp=>if_pos hp) HDa.o.r10 HDa.o.S.hb HDa.o.S.hb.size vc' ?_;intro v7 w7 ho hb hg hat;obtain ⟨A7,c7,e_⟩:=Kd.R_slice ho;rw [List.length_append,List.length_singleton] at e_;subst e_;have HD3:=qz.mk (HDa.o.g10 ho hb hg);clear ho hb hg hat))
      clear HD HDa hxk
      generalize (fun k=>if wr.heap.size ≤ k then 10 else col2 k) = col3 at HD3
      obtain ⟨_,e_,hxk⟩:=Kd.at_int (Kd.R_reads' HD3.o.r8).2.2 q HQ0.o fa'
      obtain rfl:=Option.some.inj e_
      obtain ⟨⟨n2,n3⟩,-⟩:=HWS.o _ (Vd' ws q HQ0.o fa')
      obtain ⟨aq,e_,hah0,hah1⟩:=Cf' (Kd.R_reads' HD3.o.T.ra).2.2 _ n2 n3
      subst e_
      have p2:=eq_true n2
      have q2:=eq_true n3
      have HDd:=qz.mk ((HD3.o.ahead 11).to (qh (Below.refl _ _)))
      refine Md' (n:=14) (S:=fun w'=>w'.cell? ⟨gt,1,none⟩ = some (.slice (some aq) t.ah.length cq) ∧ w'.cell? (aq.add ((rd ws q).toNat * 2)) = some (.int .i64 (xd' t.ah (rd ws q)).f0) ∧ w'.cell? ⟨(aq.add ((rd ws q).toNat * 2)).block,(aq.add ((rd ws q).toNat * 2)).off + 1,none⟩ = some (.int .i64 (xd' t.ah (rd ws q)).f1) ∧ w'.cell? (ax.add q.toNat) = some (.int .i64 (rd ws q))) (ds:=[12]) (Array.replicate 14 false) da' rfl rfl ⟨HD3.o.T.cells.2.1,hah0,hah1,hxk⟩ (fun hHeld=>?_)
      refine pa_ 0 67 (bz_ 14 1) ?_
      refine pa_ 1 68 (bz_ 14 3) ?_
      refine pa_ 2 69 (bz_ 14 7) ?_
      refine pa_ 3 70 (bz_ 14 15) ?_
      refine pa_ 5 72 (bz_ 14 47) ?_
      refine pa_ 6 73 (bz_ 14 111) ?_
      refine pa_ 7 74 (bz_ 14 239) ?_
      refine ta_ 4 71 (bz_ 14 255) hHeld (hy:=Or.inl ⟨ca',na'⟩) (h:=?_)
      refine ta_ 8 75 (bz_ 14 511) hHeld (hy:=Or.inl ⟨ca',na'⟩) (h:=?_)
      refine pa_ 9 76 (bz_ 14 1023) ?_
      refine ta_ 10 77 (bz_ 14 2047) hHeld (hy:=Or.inl ⟨ca',na'⟩) (h:=?_)
      refine Td' (i:=11) (N:=some 78) (bz_ 14 4095) rfl rfl da' ba' (fun K hK=>?_)
      refine jf' (w1:=?_) (v:=?_) ca' rfl ?_ ?_
      rotate_left 2
      ·go_simp
       constructor
       ·rfl
       rfl
      refine hK.out _ _ ⟨vd' (qo (Below.refl _ _) _) hHeld.1,vd' (qo (Below.refl _ _) _) hHeld.2.1,vd' (qo (Below.refl _ _) _) hHeld.2.2.1,vd' (qo (Below.refl _ _) _) hHeld.2.2.2⟩ (fun hHeld=>?_)
      clear hK K
      refine zd' (a':=?_) ?_ ?_
      rotate_left
      ·show Act.put _ (some 78) _ = _
       simp only [Act.put,List.setIfInBounds_toArray,List.set_cons_zero,List.set_cons_succ,Bd',Cd']
       rfl
      refine de' (i:=12) (N:=some 79) (bz_ 14 8191) rfl rfl da' ba' (fun K hK=>?_)
      refine Kd.R_append_step k56 (w0:=w0) (W:=w7.drew) w0.heap.size ca' (.tmp 67) (.tmp 78) 49 56 (.agg #[.int .i64 0,.int .i64 0]) 16 rfl Tryz.underlying49 Ff' rfl ba' aa' (.slice Ak lk1.length ck) lk1 (xd' t.ah (rd ws q)) [.int .i64 (xd' t.ah (rd ws q)).f0,.int .i64 (xd' t.ah (rd ws q)).f1] _ (fun _=>False) ca' ca' (cf' _ _ _ (xd' t.ah (rd ws q))) (fun _ hk=>hk.elim) (fun p hp=>if_pos hp) HDd.o.r11 HDd.o.S.hb HDd.o.S.hb.size vc' ?_
      intro v8 w8 ho hb hg hat
      obtain ⟨A8,c8,e_⟩:=Kd.R_slice ho
      rw [List.length_append,List.length_singleton] at e_
      subst e_
      have HD4:=qz.mk (HDd.o.g11 ho hb hg)
      clear ho hb hg hat
      refine hK.out _ _ ?_
      clear hK K
      refine zd' (a':=?_) ?_ ?_
      rotate_left
      ·show Act.put _ (some 79) _ = _
       simp only [Act.put,List.setIfInBounds_toArray,List.set_cons_zero,List.set_cons_succ,Bd',Cd']
       rfl
      refine pa_ 13 11 (bz_ 14 16383) ?_
      refine Wd' da' ?_
      clear hxk hah0 hah1 HD3 HDd hHeld
      generalize (fun k=>if w7.heap.size ≤ k then 11 else col3 k) = col4 at HD4
      go_wp2_with fail
      go_roundg k1
      case measure=>omega
      case rel=>exact ⟨q - 1,mem ++ [rd ws q],lk1 ++ [xd' t.ah (rd ws q)],_,_,c7,c8,_,Xa',Xa',by first|rfl|rw [w64 yb' bb'],⟨yb',fa',fa'⟩,⟨Ka',Ka'⟩,HT,Mc'⟩
    rw [if_neg c] at h
    have cl0 : decide (q ≥ 0) = false:=decide_eq_false c
    subst h
    have hU:=HU.o
    dsimp only at hU
    replace HU:=qz.mk hU
    have HML : qz (mem.length ≤ 1002 ∧ lk1.length ≤ 1002):=⟨vc'⟩
    clear c hU HI HL
    have HDa:=qz.mk (HD.o.ahead 11)
    have hb0 : wr.cell? ⟨ge,0,none⟩ = some (.int .i64 X.f0):=(qq HD.o.be 0).trans rfl
    have hb1 : wr.cell? ⟨ge,1,none⟩ = some (.int .i64 X.f1):=(qq HD.o.be 1).trans rfl
    go_upto_region 15 with (first|((with_reducible refine Ld' (b:=.append) (xs:=#[.tmp 80,.tmp 86]) rfl ?_);at_builtin;refine Kd.R_append k56 (w0:=w0) (W:=wr) w0.heap.size rfl (.tmp 80) (.tmp 86) 49 56 (.agg #[.int .i64 0,.int .i64 0]) 16 rfl Tryz.underlying49 Ff' rfl ba' aa' (.slice Ak lk1.length ck) lk1 ((⟨X.f0,X.f1⟩ : S56)) [.int .i64 ((⟨X.f0,X.f1⟩ : S56)).f0,.int .i64 ((⟨X.f0,X.f1⟩ : S56)).f1] (fun p=>(if wr.heap.size ≤ p then 11 else col2 p) = 11) (fun _=>False) rfl rfl (cf' _ _ _ ((⟨X.f0,X.f1⟩ : S56))) (fun _ hk=>hk.elim) (fun p hp=>if_pos hp) HDa.o.r11 HDa.o.S.hb HDa.o.S.hb.size Pa' ?_;intro v7 w7 ho hb hg hat;obtain ⟨A7,c7,e_⟩:=Kd.R_slice ho;rw [List.length_append,List.length_singleton] at e_;subst e_;have HD3:=qz.mk (HDa.o.g11 ho hb hg);clear ho hb hg hat))
    clear HD HDa hb0 hb1
    generalize (fun k=>if wr.heap.size ≤ k then 11 else col2 k) = col3 at HD3
    rw [← List.length_singleton (a:=(⟨X.f0,X.f1⟩ : S56)),← List.length_append] at HD3
    go_wp2_with fail
    go_loopg [10,11,13] (us.length + 1) (fun kq v10 v11 v13 w'=>∃ (q : Int) (mem : List Int) (lk1 : List S56) (Am Ak : Option Addr) (cm ck : Nat) (col : Nat → Nat),v10 = .slice Am mem.length cm ∧ v11 = .slice Ak lk1.length ck ∧ v13 = .int .i64 q ∧ qz (0 ≤ q ∧ q ≤ kk ∧ q + kq = us.length + 1) ∧ qz ((mem.length : Int) ≤ 1010 + q ∧ (lk1.length : Int) ≤ 1010 + q) ∧ qz (upS t.ah us kk kq q mem lk1 = (ring,lk)) ∧ qz (Sh w0 w' g N Ae ce es col vy (.slice (some ⟨bn,0,none⟩) s.nd.length cn) (.slice Av s.mt.length cv0) s gt vl (.slice Aq t.ah.length cq) vr t ge X (.slice (some ax) ws.length ca) (.slice Ab us.length cb) (.slice Am mem.length cm) (.slice Ak lk1.length ck) (.slice none 0 0) ws us mem lk1 []))
    case atStart=>exact ⟨0,mem,lk1 ++ [(⟨X.f0,X.f1⟩ : S56)],_,_,cm,c7,_,rfl,by first|rfl|rw [List.length_append,List.length_singleton],rfl,⟨aa',HK0.o.1,aa'⟩,⟨Pa',sc'⟩,HU,HD3⟩
    clear HD3 HU HML
    obtain ⟨q,mem,lk1,Am,Ak,cm,ck,col2,rfl,rfl,rfl,HI,HL,HT,HD⟩:=hrel
    have h:=HT.o
    clear HT
    cases gk with
    | zero =>
     exfalso
     have h1:=HI.o
     have h2:=HK0.o
     omega
    | succ k1 =>
     rw [upS] at h
     by_cases c : q < kk
     ·rw [if_pos c] at h
      have HT:=qz.mk h
      have cl0 : decide (q < kk) = true:=decide_eq_true c
      have HQ0:=qz.mk (And.intro HI.o.1 c)
      have HDa:=qz.mk (HD.o.ahead 10)
      have hqu : q < (us.length : Int):=by have:=HK0.o;omega
      have HQU:=qz.mk hqu
      obtain ⟨ab,e_,hxk⟩:=Kd.at_int (Kd.R_reads' HD.o.r9).2.2 q HI.o.1 hqu
      subst e_
      have p1:=eq_true HI.o.1
      have q1:=eq_true hqu
      clear h c hqu
      as_aux_lemma =>
       go_upto_region 19 with (first|((with_reducible refine Ld' (b:=.append) (xs:=#[.tmp 93,.tmp 98]) rfl ?_);at_builtin;refine Kd.R_append (Kd.int .i64) (w0:=w0) (W:=wr) w0.heap.size rfl (.tmp 93) (.tmp 98) 27 3 (.int .i64 0) 8 rfl Tryz.underlying27 Ud' rfl ba' aa' (.slice Am mem.length cm) mem (rd us q) [.int .i64 (rd us q)] (fun p=>(if wr.heap.size ≤ p then 10 else col2 p) = 10) (fun _=>False) rfl rfl rfl (fun _ hk=>hk.elim) (fun p hp=>if_pos hp) HDa.o.r10 HDa.o.S.hb HDa.o.S.hb.size Zc' ?_;intro v7 w7 ho hb hg hat;obtain ⟨A7,c7,e_⟩:=Kd.R_slice ho;rw [List.length_append,List.length_singleton] at e_;subst e_;have HD3:=qz.mk (HDa.o.g10 ho hb hg);clear ho hb hg hat))
       clear HD HDa hxk
       generalize (fun k=>if wr.heap.size ≤ k then 10 else col2 k) = col3 at HD3
       obtain ⟨_,e_,hxk⟩:=Kd.at_int (Kd.R_reads' HD3.o.r9).2.2 q HQ0.o.1 HQU.o
       obtain rfl:=Option.some.inj e_
       obtain ⟨⟨n2,n3⟩,-⟩:=HUS.o _ (Vd' us q HQ0.o.1 HQU.o)
       obtain ⟨aq,e_,hah0,hah1⟩:=Cf' (Kd.R_reads' HD3.o.T.ra).2.2 _ n2 n3
       subst e_
       have p2:=eq_true n2
       have q2:=eq_true n3
       refine Md' (n:=12) (S:=fun w'=>w'.cell? ⟨gt,1,none⟩ = some (.slice (some aq) t.ah.length cq) ∧ w'.cell? (aq.add ((rd us q).toNat * 2)) = some (.int .i64 (xd' t.ah (rd us q)).f0) ∧ w'.cell? ⟨(aq.add ((rd us q).toNat * 2)).block,(aq.add ((rd us q).toNat * 2)).off + 1,none⟩ = some (.int .i64 (xd' t.ah (rd us q)).f1) ∧ w'.cell? (ab.add q.toNat) = some (.int .i64 (rd us q))) (ds:=[11]) (Array.replicate 12 false) da' rfl rfl ⟨HD3.o.T.cells.2.1,hah0,hah1,hxk⟩ (fun hHeld=>?_)
       refine pa_ 0 100 (bz_ 12 1) ?_
       refine pa_ 1 101 (bz_ 12 3) ?_
       refine pa_ 2 102 (bz_ 12 7) ?_
       refine pa_ 4 104 (bz_ 12 23) ?_
       refine pa_ 5 105 (bz_ 12 55) ?_
       refine pa_ 6 106 (bz_ 12 119) ?_
       refine ta_ 3 103 (bz_ 12 127) hHeld (hy:=Or.inl ⟨ca',na'⟩) (h:=?_)
       refine ta_ 7 107 (bz_ 12 255) hHeld (hy:=Or.inl ⟨ca',na'⟩) (h:=?_)
       refine pa_ 8 108 (bz_ 12 511) ?_
       refine ta_ 9 109 (bz_ 12 1023) hHeld (hy:=Or.inl ⟨ca',na'⟩) (h:=?_)
       refine Td' (i:=10) (N:=some 14) (bz_ 12 2047) rfl rfl da' ba' (fun K hK=>?_)
       refine jf' (w1:=?_) (v:=?_) ca' rfl ?_ ?_
       rotate_left 2
       ·go_simp
        constructor
        ·rfl
        rfl
       refine hK.out _ _ ⟨vd' (qo (Below.refl _ _) _) hHeld.1,vd' (qo (Below.refl _ _) _) hHeld.2.1,vd' (qo (Below.refl _ _) _) hHeld.2.2.1,vd' (qo (Below.refl _ _) _) hHeld.2.2.2⟩ (fun hHeld=>?_)
       clear hK K
       refine zd' (a':=?_) ?_ ?_
       rotate_left
       ·show Act.put _ (some 14) _ = _
        simp only [Act.put,List.setIfInBounds_toArray,List.set_cons_zero,List.set_cons_succ,Bd',Cd']
        rfl
       refine de' (i:=11) (N:=none) (bz_ 12 4095) rfl rfl da' ba' (fun K hK=>?_)
       try (have kc0 : (w7.drew.alloc (.cells #[.int .i64 0,.int .i64 0] 56)).cell? ⟨w7.drew.heap.size,0,none⟩ = some (.int .i64 0):=(qq (yd' _ _) 0).trans rfl;have kc1 : (w7.drew.alloc (.cells #[.int .i64 0,.int .i64 0] 56)).cell? ⟨w7.drew.heap.size,1,none⟩ = some (.int .i64 0):=(qq (yd' _ _) 1).trans rfl;have kf0:=qu (yd' w7.drew (.cells #[.int .i64 0,.int .i64 0] 56)) 0;have kf1:=qu (yd' w7.drew (.cells #[.int .i64 0,.int .i64 0] 56)) 1;simp only [World.heap_drew] at kc0 kc1 kf0 kf1)
       refine Id' (w1:=?_) ca' rfl ?_ ?_
       rotate_left
       ·go_simp
        rfl
       refine hK.out _ _ ?_
       clear hK K
       refine Wd' da' ?_
       have BXP : qz (((w7.alloc (.cells #[.int .i64 (xd' t.ah (rd us q)).f0,.int .i64 (xd' t.ah (rd us q)).f1] 56)).drew).heap[w7.heap.size]? = some (.cells #[.int .i64 (xd' t.ah (rd us q)).f0,.int .i64 (xd' t.ah (rd us q)).f1] 56 (0,0))):=⟨qx (yd' w7 _) (qh (Below.refl _ _))⟩
       have HD4:=qz.mk (HD3.o.to (qy (qo (Below.refl _ _) (.cells #[.int .i64 (xd' t.ah (rd us q)).f0,.int .i64 (xd' t.ah (rd us q)).f1] 56)) (qh (Below.refl _ _))))
       clear hxk hah0 hah1 HD3 hHeld
       try clear kc0 kc1 kf0 kf1
       generalize World.drew _ = w9 at BXP HD4 ⊢
       generalize w7.heap.size = gp at BXP ⊢
       have hL0 : w9.cell? ⟨gp,0,none⟩ = some (.int .i64 (xd' t.ah (rd us q)).f0):=(qq BXP.o 0).trans rfl
       have hL1 : w9.cell? ⟨gp,1,none⟩ = some (.int .i64 (xd' t.ah (rd us q)).f1):=(qq BXP.o 1).trans rfl
       have HDa:=qz.mk (HD4.o.ahead 11)
       go_wp2_with (first|((with_reducible refine Ld' (b:=.append) (xs:=#[.tmp 110,.tmp 116]) rfl ?_);at_builtin;refine Kd.R_append k56 (w0:=w0) (W:=w9) w0.heap.size rfl (.tmp 110) (.tmp 116) 49 56 (.agg #[.int .i64 0,.int .i64 0]) 16 rfl Tryz.underlying49 Ff' rfl ba' aa' (.slice Ak lk1.length ck) lk1 ((⟨(xd' t.ah (rd us q)).f1,(xd' t.ah (rd us q)).f0⟩ : S56)) [.int .i64 ((⟨(xd' t.ah (rd us q)).f1,(xd' t.ah (rd us q)).f0⟩ : S56)).f0,.int .i64 ((⟨(xd' t.ah (rd us q)).f1,(xd' t.ah (rd us q)).f0⟩ : S56)).f1] (fun p=>(if w9.heap.size ≤ p then 11 else col3 p) = 11) (fun _=>False) rfl rfl (cf' _ _ _ ((⟨(xd' t.ah (rd us q)).f1,(xd' t.ah (rd us q)).f0⟩ : S56))) (fun _ hk=>hk.elim) (fun p hp=>if_pos hp) HDa.o.r11 HDa.o.S.hb HDa.o.S.hb.size Zc' ?_;intro v7 w7 ho hb hg hat;obtain ⟨A9,c9,e_⟩:=Kd.R_slice ho;rw [List.length_append,List.length_singleton] at e_;subst e_;have HD5:=qz.mk (HDa.o.g11 ho hb hg);clear ho hb hg hat))
       clear hL0 hL1 HD4 HDa BXP
       go_roundg k1
       case measure=>omega
       case rel=>exact ⟨q + 1,mem ++ [rd us q],lk1 ++ [swp (xd' t.ah (rd us q))],_,_,c7,c9,_,Xa',Xa',by first|rfl|rw [w64 yb' (by have:=HQU.o;have:=H0.o;omega)],⟨yb',yb',fa'⟩,⟨Ka',Ka'⟩,HT,Nc'⟩
     rw [if_neg c] at h
     have cl0 : decide (q < kk) = false:=decide_eq_false c
     obtain ⟨e1_,e2_⟩:=Prod.mk.inj h
     subst e1_
     subst e2_
     have HML : qz (mem.length ≤ 2020 ∧ lk1.length ≤ 2020):=⟨by have:=HL.o;have:=HI.o;have:=HK0.o;have:=H0.o;omega⟩
     clear c h HI HL
     go_upto_region 22 with fail
     have HD6:=qz.mk HD.o.n12
     clear HD
     generalize wr.alloc _ = w8 at HD6 ⊢
     generalize (fun k=>if wr.heap.size ≤ k then 12 else col2 k) = col3 at HD6
     generalize wr.heap.size = bi at HD6 ⊢
     go_wp2_with fail
     go_loopg [15,16] (s.mt.length + 1) (fun kq v15 v16 w'=>∃ (q : Int) (inn : List S56) (Ai : Option Addr) (ci : Nat) (col : Nat → Nat),v15 = .slice Ai inn.length ci ∧ v16 = .int .i64 q ∧ qz (0 ≤ q ∧ q + kq = s.mt.length + 1 ∧ q ≤ s.mt.length) ∧ qz (inn ++ Zf' (cvs s.nd) mem (s.mt.drop q.toNat) = Zf' (cvs s.nd) mem s.mt ∧ (inn.length : Int) ≤ q) ∧ qz (Sh w0 w' g N Ae ce es col vy (.slice (some ⟨bn,0,none⟩) s.nd.length cn) (.slice Av s.mt.length cv0) s gt vl (.slice Aq t.ah.length cq) vr t ge X (.slice (some ax) ws.length ca) (.slice Ab us.length cb) (.slice Am mem.length cm) (.slice Ak lk1.length ck) (.slice Ai inn.length ci) ws us mem lk1 inn))
     case atStart=>exact ⟨0,[],_,0,_,rfl,rfl,⟨aa',aa',aa'⟩,⟨rfl,ia'⟩,HD6⟩
     clear HD6
     obtain ⟨q,inn,Ai,ci,col4,rfl,rfl,HI,HL,HD⟩:=hrel
     have h:=HL.o.1
     have hc:=HD.o.S.cells
     cases gk with
     | zero =>
      exfalso
      have h1:=HI.o
      omega
     | succ k1 =>
      by_cases c : q < (s.mt.length : Int)
      ·have hi:=HI.o
       rw [uj' _ _ hi.1 c,Zf'] at h
       have cl0 : decide (q < (s.mt.length : Int)) = true:=decide_eq_true c
       have HQ:=qz.mk (And.intro hi.1 c)
       obtain ⟨ad,e_,hx0,hx1⟩:=Cf' (Kd.R_reads' HD.o.S.rm).2.2 q hi.1 c
       subst e_
       obtain ⟨m0,m1⟩:=HM.o _ (kk' s.mt q hi.1 c)
       have HX2:=qz.mk (And.intro m0 m1)
       obtain ⟨x,hx⟩ : ∃ x,xd' s.mt q = x:=⟨_,rfl⟩
       rw [hx] at h hx0 hx1 HX2
       have HXX:=qz.mk hx
       have pi:=eq_true hi.1
       have qi:=eq_true c
       clear c hi m0 m1 hx
       have HIN1:=qz.mk (fun (b : Bool) (e : decide (topI (cvs s.nd) x.f0 ∈ mem) = b) (W' : World) (hh : Kd.R (Kd.int .i64) 3 W' w0.heap.size (fun k=>col4 k = 10) (.slice Am mem.length cm) mem)=>spec_l03In.calls _ Am cm mem (topI (cvs s.nd) x.f0) b W' (Kd.R_reads' hh).2.2 (Kd.R_reads' hh).2.1 ((nk' (topI (cvs s.nd) x.f0) mem Pa').trans (by rw [e])))
       have HIN2:=qz.mk (fun (b : Bool) (e : decide (topI (cvs s.nd) x.f1 ∈ mem) = b) (W' : World) (hh : Kd.R (Kd.int .i64) 3 W' w0.heap.size (fun k=>col4 k = 10) (.slice Am mem.length cm) mem)=>spec_l03In.calls _ Am cm mem (topI (cvs s.nd) x.f1) b W' (Kd.R_reads' hh).2.2 (Kd.R_reads' hh).2.1 ((nk' (topI (cvs s.nd) x.f1) mem Pa').trans (by rw [e])))
       by_cases c1 : topI (cvs s.nd) x.f0 ∈ mem
       ·have HI1:=qz.mk (HIN1.o true (decide_eq_true c1))
        by_cases c2 : topI (cvs s.nd) x.f1 ∈ mem
        ·rw [if_pos ⟨c1,c2⟩] at h
         have HI2:=qz.mk (HIN2.o true (decide_eq_true c2))
         have HL2:=qz.mk h
         clear c1 c2 h HIN1 HIN2
         as_aux_lemma =>
          go_wp2_with (first|(go_at_call 59;(with_reducible refine (ae' HD.o.S x.f0 HW.o HX2.o.1).mono ?_);rintro e_ w2 ⟨rfl,h2⟩;replace h2:=h2.symm;subst h2)|(go_at_call 80;(with_reducible refine (HI1.o _ HD.o.r10).mono ?_);rintro r w3 ⟨rfl,hd⟩;have HD3:=qz.mk (HD.o.to (kf' hd));have hcHD3:=HD3.o.S.cells;obtain ⟨_,e1_,hy0,hy1⟩:=Cf' (Kd.R_reads' HD3.o.S.rm).2.2 q HQ.o.1 HQ.o.2;(obtain rfl:=Option.some.inj e1_);rw [HXX.o] at hy0 hy1;clear hd)|(go_at_call 59;(with_reducible refine (ae' HD3.o.S x.f1 HW.o HX2.o.2).mono ?_);rintro e_ w2 ⟨rfl,h2⟩;replace h2:=h2.symm;subst h2)|(go_at_call 80;(with_reducible refine (HI2.o _ HD3.o.r10).mono ?_);rintro r w4 ⟨rfl,hd⟩;have HD4:=qz.mk (HD3.o.to (kf' hd));have hcHD4:=HD4.o.S.cells;obtain ⟨_,e1_,hy0,hy1⟩:=Cf' (Kd.R_reads' HD4.o.S.rm).2.2 q HQ.o.1 HQ.o.2;(obtain rfl:=Option.some.inj e1_);rw [HXX.o] at hy0 hy1;clear hd))
          go_roundg k1
          case measure=>omega
          case rel=>exact ⟨q + 1,inn,Ai,ci,col4,rfl,xc',⟨La',fa',La'⟩,⟨HL2.o,by have:=HL.o.2;omega⟩,HD4⟩
        rw [if_neg (fun h=>c2 h.2)] at h
        have HI2:=qz.mk (HIN2.o false (decide_eq_false c2))
        have HL2:=qz.mk h
        clear c1 c2 h HIN1 HIN2
        as_aux_lemma =>
         go_upto_region 26 with (first|(go_at_call 59;(with_reducible refine (ae' HD.o.S x.f0 HW.o HX2.o.1).mono ?_);rintro e_ w2 ⟨rfl,h2⟩;replace h2:=h2.symm;subst h2)|(go_at_call 80;(with_reducible refine (HI1.o _ HD.o.r10).mono ?_);rintro r w3 ⟨rfl,hd⟩;have HD3:=qz.mk (HD.o.to (kf' hd));have hcHD3:=HD3.o.S.cells;obtain ⟨_,e1_,hy0,hy1⟩:=Cf' (Kd.R_reads' HD3.o.S.rm).2.2 q HQ.o.1 HQ.o.2;(obtain rfl:=Option.some.inj e1_);rw [HXX.o] at hy0 hy1;clear hd)|(go_at_call 59;(with_reducible refine (ae' HD3.o.S x.f1 HW.o HX2.o.2).mono ?_);rintro e_ w2 ⟨rfl,h2⟩;replace h2:=h2.symm;subst h2)|(go_at_call 80;(with_reducible refine (HI2.o _ HD3.o.r10).mono ?_);rintro r w4 ⟨rfl,hd⟩;have HD4:=qz.mk (HD3.o.to (kf' hd));have hcHD4:=HD4.o.S.cells;obtain ⟨_,e1_,hy0,hy1⟩:=Cf' (Kd.R_reads' HD4.o.S.rm).2.2 q HQ.o.1 HQ.o.2;(obtain rfl:=Option.some.inj e1_);rw [HXX.o] at hy0 hy1;clear hd))
         have HDa:=qz.mk (HD4.o.ahead 12)
         go_wp2_with (first|((with_reducible refine Ld' (b:=.append) (xs:=#[.tmp 156,.tmp 164]) rfl ?_);at_builtin;refine Kd.R_append k56 (w0:=w0) (W:=w4) w0.heap.size rfl (.tmp 156) (.tmp 164) 49 56 (.agg #[.int .i64 0,.int .i64 0]) 16 rfl Tryz.underlying49 Ff' rfl ba' aa' (.slice Ai inn.length ci) inn (x) [.int .i64 (x).f0,.int .i64 (x).f1] (fun p=>(if w4.heap.size ≤ p then 12 else col4 p) = 12) (fun _=>False) rfl rfl (cf' _ _ _ (x)) (fun _ hk=>hk.elim) (fun p hp=>if_pos hp) HDa.o.r12 HDa.o.S.hb HDa.o.S.hb.size bd' ?_;intro v7 w7 ho hb hg hat;obtain ⟨A7,c7,e_⟩:=Kd.R_slice ho;rw [List.length_append,List.length_singleton] at e_;subst e_;have HD7:=qz.mk (HDa.o.g12 ho hb hg);clear ho hb hg hat))
         go_roundg k1
         case measure=>omega
         case rel=>exact ⟨q + 1,inn ++ [x],_,c7,_,Xa',xc',⟨La',fa',La'⟩,⟨qc',rc'⟩,cd'⟩
       rw [if_neg (fun h=>c1 h.1)] at h
       have HI1:=qz.mk (HIN1.o false (decide_eq_false c1))
       have HL2:=qz.mk h
       clear c1 h HIN1 HIN2
       as_aux_lemma =>
        go_upto_region 26 with (first|(go_at_call 59;(with_reducible refine (ae' HD.o.S x.f0 HW.o HX2.o.1).mono ?_);rintro e_ w2 ⟨rfl,h2⟩;replace h2:=h2.symm;subst h2)|(go_at_call 80;(with_reducible refine (HI1.o _ HD.o.r10).mono ?_);rintro r w3 ⟨rfl,hd⟩;have HD3:=qz.mk (HD.o.to (kf' hd));have hcHD3:=HD3.o.S.cells;obtain ⟨_,e1_,hy0,hy1⟩:=Cf' (Kd.R_reads' HD3.o.S.rm).2.2 q HQ.o.1 HQ.o.2;(obtain rfl:=Option.some.inj e1_);rw [HXX.o] at hy0 hy1;clear hd))
        have HDa:=qz.mk (HD3.o.ahead 12)
        go_wp2_with (first|((with_reducible refine Ld' (b:=.append) (xs:=#[.tmp 156,.tmp 164]) rfl ?_);at_builtin;refine Kd.R_append k56 (w0:=w0) (W:=w3) w0.heap.size rfl (.tmp 156) (.tmp 164) 49 56 (.agg #[.int .i64 0,.int .i64 0]) 16 rfl Tryz.underlying49 Ff' rfl ba' aa' (.slice Ai inn.length ci) inn (x) [.int .i64 (x).f0,.int .i64 (x).f1] (fun p=>(if w3.heap.size ≤ p then 12 else col4 p) = 12) (fun _=>False) rfl rfl (cf' _ _ _ (x)) (fun _ hk=>hk.elim) (fun p hp=>if_pos hp) HDa.o.r12 HDa.o.S.hb HDa.o.S.hb.size bd' ?_;intro v7 w7 ho hb hg hat;obtain ⟨A7,c7,e_⟩:=Kd.R_slice ho;rw [List.length_append,List.length_singleton] at e_;subst e_;have HD7:=qz.mk (HDa.o.g12 ho hb hg);clear ho hb hg hat))
        go_roundg k1
        case measure=>omega
        case rel=>exact ⟨q + 1,inn ++ [x],_,c7,_,Xa',xc',⟨La',fa',La'⟩,⟨qc',rc'⟩,cd'⟩
      have hi:=HI.o
      rw [List.drop_eq_nil_of_le aa',Zf',List.append_nil] at h
      have cl0 : decide (q < (s.mt.length : Int)) = false:=decide_eq_false c
      subst h
      clear c hi HI HL
      obtain ⟨_,e_,hxj⟩:=Kd.at_int (Kd.R_reads' HD.o.r8).2.2 j HJ.o.1 HJ.o.2
      obtain rfl:=Option.some.inj e_
      have pj:=eq_true HJ.o.1
      have qj:=eq_true HJ.o.2
      have HBC:=qz.mk (gj' HD.o.S (rd ws j) HW.o HM.o pa' (HWS.o _ (Vd' ws j HJ.o.1 HJ.o.2)).2)
      go_upto_region 28 with (first|(go_at_call 43;refine HBC.o.mono ?_;rintro e_ w3 ⟨rfl,hb⟩;have HD5:=qz.mk (HD.o.to hb);clear hb))
      clear hc hxj HBC HD
      have hc:=HD5.o.S.cells
      have hf4:=HD5.o.S.frz.2.2.1
      obtain ⟨col5,hS5,hnew,hm5,hk5⟩:=HD5.o.join
      have HS5:=qz.mk hS5
      have HJ5:=qz.mk (And.intro hnew (And.intro hm5 hk5))
      clear hS5 hnew hm5 hk5
      go_upto_region 29 with fail
      clear hc hf4 HD5
      generalize World.setCell _ _ _ = w6 at HS5 HJ5 ⊢
      have hc:=HS5.o.cells
      go_upto_region 30 with (first|((with_reducible refine Ld' (b:=.append) (xs:=#[.tmp 180,.tmp 185]) rfl ?_);at_builtin;refine Kd.R_append k77 (w0:=w0) (W:=w6) w0.heap.size rfl (.tmp 180) (.tmp 185) 48 77 (.agg #[.slice none 0 0,.slice none 0 0,.int .i64 0,.int .i64 0,.int .i64 0,.bool false]) 80 rfl Tryz.underlying48 mp' rfl ba' aa' (.slice (some ⟨bn,0,none⟩) s.nd.length cn) s.nd (⟨mem,lk1,xe' s.nd s.mt (rd ws j),0,-1,false⟩ : S77) [.slice Am mem.length cm,.slice Ak lk1.length ck,.int .i64 (xe' s.nd s.mt (rd ws j)),.int .i64 0,.int .i64 (-1),.bool false] (fun p=>col5 p = 2) (fun p=>col5 p = 2 ∧ some p ≠ (Value.slice (some ⟨bn,0,none⟩) s.nd.length cn).ownBlock) rfl rfl (ol' _ _ _ (⟨mem,lk1,xe' s.nd s.mt (rd ws j),0,-1,false⟩ : S77) HJ5.o.2.1 HJ5.o.2.2) (fun _ h=>h) HJ5.o.1 HS5.o.rn HS5.o.hb HS5.o.hb.size (by have:=H0.o;show (s.nd.length + 1) * 80 ≤ 140737488355328;omega) ?_;intro v7 w7 ho hb hg hat;have HHO:=qz.mk ho;have HHG:=qz.mk hg;have HHA:=qz.mk hat;obtain ⟨hs7,hx7,hf7⟩:=Rn.app_n HS5.o ho hb hg;have HS7:=qz.mk hs7;obtain ⟨b7,c7,e7_,-⟩:=fe' ho ia';rw [List.length_append,List.length_singleton] at e7_;subst e7_;clear hs7 ho hb hg hat))
      have HRR : qz (Kd.R (Kd.int .i64) 3 (w7.setCell ⟨g,3,none⟩ (.slice (some ⟨b7,0,none⟩) (s.nd.length + 1) c7)) w0.heap.size (fun p=>p ≠ b7) (.slice Am mem.length cm) mem):=by
       refine ⟨Kd.R_set (Kd.R_mono (Kd.R_grown (Kd.R_bound HJ5.o.2.1) HHG.o (fun p hp=>hp.1.2)) ?_) (le' HS5.o.blk HHG.o (Kd.R_ne HS5.o.rn HS5.o.blk ba')) lg' _ _⟩
       rintro p ⟨⟨_,h1⟩,_,h3,_⟩ rfl
       rcases HHA.o with h|⟨b,h,hb⟩
       ·exact h1 h
       obtain rfl : p = b:=Option.some.inj h
       omega
      clear hc hx7 hf7 HHO HHG HHA HS5 HJ5
      generalize World.setCell _ _ _ = w8 at HS7 HRR ⊢
      go_wp2_with fail
      go_loopg [18] (mem.length + 1) (fun kq v18 w'=>∃ (q : Int) (nd : List S77),v18 = .int .i64 q ∧ qz (0 ≤ q ∧ q + kq = mem.length + 1 ∧ q ≤ mem.length) ∧ qz (Me' s.nd.length (mem.drop q.toNat) nd = Me' s.nd.length mem (s.nd ++ [(⟨mem,lk1,xe' s.nd s.mt (rd ws j),0,-1,false⟩ : S77)])) ∧ qz (nd.length = s.nd.length + 1) ∧ qz (RnF w0 w' g N Ae ce es col5 vy (.slice (some ⟨b7,0,none⟩) (s.nd.length + 1) c7) (.slice Ai (Zf' (cvs s.nd) mem s.mt).length ci) { s with mt:=Zf' (cvs s.nd) mem s.mt,nd:=nd }) ∧ qz (Kd.R (Kd.int .i64) 3 w' w0.heap.size (fun p=>p ≠ b7) (.slice Am mem.length cm) mem))
      case atStart=>exact ⟨0,_,rfl,⟨aa',aa',aa'⟩,⟨rfl⟩,⟨Xa'⟩,HS7,HRR⟩
      clear HS7 HRR
      obtain ⟨q,nd,rfl,HI,HT,HL,HS,HRR⟩:=hrel
      have h:=HT.o
      clear HT
      have hc:=HS.o.cells
      cases gk with
      | zero =>
       exfalso
       have h1:=HI.o
       omega
      | succ k1 =>
       by_cases c : q < (mem.length : Int)
       ·have hi:=HI.o
        rw [Jf' _ _ hi.1 c,Me'] at h
        have HT:=qz.mk h
        have cl0 : decide (q < (mem.length : Int)) = true:=decide_eq_true c
        have HIL:=qz.mk c
        obtain ⟨am,e_,hmi⟩:=Kd.at_int (Kd.R_reads' HRR.o).2.2 q hi.1 c
        subst e_
        have pi:=eq_true hi.1
        have qi:=eq_true c
        obtain ⟨pm,qm⟩:=HRG.o _ (Vd' mem q hi.1 c)
        have qm' : rd mem q < (nd.length : Int):=by rw [HL.o];omega
        clear c hi h
        obtain ⟨u0,u1,nx0,nx1,nx2,nx3,nx4,nx5,nf3,nf4,nf5,-,-⟩:=HS.o.rows (rd mem q) pm qm'
        have HS2:=qz.mk (HS.o.sn (rd mem q) pm qm' 4 (.int .i64 (s.nd.length : Int)) { wd' nd (rd mem q) with f4:=(s.nd.length : Int) } ba' (fun _ _=>rfl) ⟨rfl,rfl⟩)
        have HR2:=qz.mk (Kd.R_far (p:=⟨b7,(rd mem q).toNat * 6 + 4,none⟩) HRR.o (fun k hk=>hk) (.int .i64 (s.nd.length : Int)))
        have pmb:=eq_true pm
        have qmb : (rd mem q < (s.nd.length : Int) + 1) = True:=eq_true aa'
        have hw1 : wrap64 ((s.nd.length : Int) + 1 - 1) = (s.nd.length : Int):=by rw [w64 aa' pa'];omega
        have hw2 : wrap64 (s.nd.length : Int) = (s.nd.length : Int):=w64 aa' pa'
        as_aux_lemma =>
         go_wp2_with fail
         refine Md' (n:=17) (S:=fun w'=>w'.cell? ⟨g,3,none⟩ = some (.slice (some ⟨b7,0,none⟩) (s.nd.length + 1) c7) ∧ w'.cell? (am.add q.toNat) = some (.int .i64 (rd mem q))) (ds:=[16]) (Array.replicate 17 false) da' rfl rfl ⟨hc.2.2.2.1,hmi⟩ (fun hHeld=>?_)
         refine pa_ 0 195 (bz_ 17 1) ?_
         refine pa_ 1 196 (bz_ 17 3) ?_
         refine pa_ 2 197 (bz_ 17 7) ?_
         refine pa_ 4 199 (bz_ 17 23) ?_
         refine pa_ 5 200 (bz_ 17 55) ?_
         refine pa_ 6 201 (bz_ 17 119) ?_
         refine pa_ 8 203 (bz_ 17 375) ?_
         refine pa_ 9 204 (bz_ 17 887) ?_
         refine pa_ 10 205 (bz_ 17 1911) ?_
         refine ta_ 3 198 (bz_ 17 1919) hHeld (hy:=Or.inl ⟨ca',ja'⟩) (h:=?_)
         refine ta_ 7 202 (bz_ 17 2047) hHeld (hy:=Or.inl ⟨ca',ja'⟩) (h:=?_)
         refine ta_ 11 206 (bz_ 17 4095) hHeld (hy:=Or.inl ⟨ca',ja'⟩) (h:=?_)
         refine pa_ 12 207 (bz_ 17 8191) ?_
         refine pa_ 13 208 (bz_ 17 16383) ?_
         refine pa_ 14 209 (bz_ 17 32767) ?_
         refine pa_ 15 210 (bz_ 17 65535) ?_
         refine de' (i:=16) (N:=none) (bz_ 17 131071) rfl rfl da' ba' (fun K hK=>?_)
         refine Id' (w1:=?_) ca' rfl ?_ ?_
         rotate_left
         ·go_simp
          rfl
         refine hK.out _ _ ?_
         clear hK K
         refine Wd' da' ?_
         clear nx0 nx1 nx2 nx3 nx4 nx5 nf3 nf4 nf5 hc hmi HS HRR hw1 hw2
         replace HS2:=qz.mk (HS2.o.to (qh (Below.refl _ _)))
         replace HR2:=qz.mk (Kd.R_below HR2.o (qh (Below.refl _ _)))
         generalize World.drew _ = w9 at HS2 HR2 ⊢
         go_wp2_with fail
         go_roundg k1
         case measure=>omega
         case rel=>exact ⟨q + 1,_,by first|rfl|rw [w64 fa' (by have:=HIL.o;have:=HML.o;omega)],⟨fa',fa',ga'⟩,HT,⟨by rw [Di',List.length_set];exact HL.o⟩,HS2,HR2⟩
       have hi:=HI.o
       rw [List.drop_eq_nil_of_le aa',Me'] at h
       subst h
       have cl0 : decide (q < (mem.length : Int)) = false:=decide_eq_false c
       clear c hi HI
       go_wp2_with fail
       go_end0
       exact ⟨rfl,HS.o.is⟩
  rw [if_neg cm] at h
  have HIN2:=qz.mk (HIN.o false (decide_eq_false cm))
  have HI0:=qz.mk h
  clear h cm HIN
  go_wp2_with (first|(go_at_call 80;refine HIN2.o.mono ?_;rintro r w3 ⟨rfl,⟨nq,rfl⟩⟩))
  go_roundg k1
  case measure=>omega
  case rel=>exact ⟨j + 1,by first|rfl|rw [w64 aa' Ub'],⟨aa',fa'⟩,HI0,⟨HF.o.to (qd (Below.refl _ _) nq)⟩⟩
 rw [if_neg c] at h
 cases h
end Go.Proofs.YtnffimpoekjkpaaGreat.QFnExactSolve
