import Derived.Test.YtnffimpoekjkpaaGreatZFnExactSolvex113
import Derived.Test.YtnffimpoekjkpaaGreatZFnExactSolvex105g
set_option linter.all false
namespace Go.Proofs.YtnffimpoekjkpaaGreat.QFnExactSolve
open Go.RowKit Go.Proofs.YtnffimpoekjkpaaGreatW.PrintWords Go.Proofs.YtnffimpoekjkpaaGreatW.PrintLast Go.Proofs.YtnffimpoekjkpaaGreatW.PrintMore
set_option maxHeartbeats 8000000
set_option maxRecDepth 100000
attribute [local go_sem] Od' Pd' Xd' Yd' Jd' Kd' Qd' Rd'
def vg' : List S80 → Nat
 | []=>0
 | x :: l=>x.f0.length + 1 + vg' l
theorem MkG.snoc {l : List S80} {m k : Int} {ms : List Int} (h : MkG l m k) (hm : MkI ms k) (hl : ms.length ≤ 1000000) : MkG (l ++ [⟨ms,k + ms.length⟩]) m (k + ms.length + 1):=by
 induction h with
 | nil=>exact .cons hm rfl hl .nil
 | cons h hz hxl rest ih=>exact .cons h hz hxl (ih hm)
theorem pm' (P0_ : Nat → Prop) (vG : Value) (l0 : List S80) (a1 : Int) (w0 w : World) (hB : Below w0.heap.size w0 w) (ho0 : Kd.S k80 80 w w0.heap.size P0_ vG l0) (hl : l0.length ≤ 1000000) (hx : ∀ x ∈ l0,x.f0.length ≤ 1000000) (h0 : 0 ≤ a1) (h1 : a1 + vg' l0 ≤ 1000000000) :
  Calls Tryz.prog 34 #[vG,.int .i64 a1] w fun e w'=>∃ r2,e = .returned (.int .i64 (a1 + vg' l0)) ∧ MkG r2 a1 (a1 + vg' l0) ∧ Kd.S k80 80 w' w0.heap.size (fun k=>P0_ k ∨ w.heap.size ≤ k) vG r2 ∧ Below w0.heap.size w0 w' ∧ oe' w w' P0_:=by
 have hu80:=Tryz.underlying80
 have HO:=qz.mk (show Kd.S k80 80 w w0.heap.size (fun k=>P0_ k ∨ w.heap.size ≤ k) vG l0 from Kd.S_mono ho0 (fun _ hk=>.inl hk))
 have HK:=qz.mk (oe'.refl w P0_)
 have HB:=qz.mk hB
 have HL:=qz.mk (And.intro hl (And.intro h0 h1))
 have HX:=qz.mk hx
 clear hB ho0 hl h0 h1 hx
 obtain ⟨AG,cG,e_⟩:=Kd.S_slice HO.o
 subst e_
 go_enter Tryz.func34,Tryz.ntmps34
 go_wp2_with fail
 go_loopg [1,5] (l0.length + 1) (fun kq v1 v5 w'=>∃ (i : Int) (k : Int) (dn rs : List S80),v5 = .int .i64 i ∧ v1 = .int .i64 k ∧ qz (0 ≤ i ∧ i + kq = l0.length + 1 ∧ i ≤ l0.length) ∧ qz (dn.length = i.toNat ∧ dn.length + rs.length = l0.length) ∧ qz (MkG dn a1 k ∧ k + vg' rs = a1 + vg' l0 ∧ ∀ x ∈ rs,x.f0.length ≤ 1000000) ∧ qz (Kd.S k80 80 w' w0.heap.size (fun k=>P0_ k ∨ w.heap.size ≤ k) (.slice AG l0.length cG) (dn ++ rs)) ∧ qz (Below w0.heap.size w0 w') ∧ qz (oe' w w' P0_))
 case atStart=>exact ⟨0,a1,[],l0,rfl,rfl,⟨aa',aa',aa'⟩,⟨rfl,ia'⟩,⟨.nil,rfl,HX.o⟩,HO,HB,HK⟩
 clear HO HB HK
 obtain ⟨i,k,dn,rs,rfl,rfl,HI,HD,HM,HO,HB,HK⟩:=hrel
 cases gk with
 | zero =>
  exfalso
  have h1:=HI.o
  omega
 | succ k1 =>
  by_cases c : i < (l0.length : Int)
  ·have cl0 : decide (i < (l0.length : Int)) = true:=decide_eq_true c
   have HIL:=qz.mk c
   have hi0:=HI.o.1
   cases rs with
   | nil =>
    exfalso
    have h1:=HD.o
    simp only [List.length_nil] at h1
    omega
   | cons x l =>
    obtain ⟨hdn,htot,hxl⟩:=HM.o
    have hx1:=hxl x List.mem_cons_self
    have hle:=hdn.le
    have htot' : k + (x.f0.length : Int) + 1 + vg' l = a1 + vg' l0:=by rw [← htot,vg'];omega
    have HKM : qz (0 ≤ k ∧ k + (x.f0.length : Int) ≤ 1000000000):=⟨oa'⟩
    have hlen : ((dn ++ x :: l).length : Int) = l0.length:=by have:=HD.o.2;rw [List.length_append];omega
    obtain ⟨bg,cap,e_,-,-,cells,hcells⟩:=Kd.S_form HO.o fa'
    obtain rfl : AG = some ⟨bg,0,none⟩:=by injection e_
    clear e_
    obtain ⟨oki,cs,hcl,hMk,hcc,hfr,hoki,hH⟩:=Kd.S_elem HO.o z80 i hi0 c
    have hx : (dn ++ x :: l).getD i.toNat z80 = x:=by rw [List.getD_eq_getElem?_getD,← HD.o.1];simp
    rw [hx] at hMk
    obtain ⟨v0,ec,hRm⟩:=Gl' hMk
    subst ec
    obtain ⟨AM,cM,e_⟩:=Kd.R_slice hRm
    subst e_
    have hc0:=hcc 0 _ rfl
    have hc1:=hcc 1 _ rfl
    have hc0' : wr.cell? ⟨bg,i.toNat * 2,none⟩ = some (.slice AM x.f0.length cM):=hc0
    have HMI:=qz.mk (gk' oki (.slice AM x.f0.length cM) x.f0 k w0 wr HB.o hRm HKM.o.1 HKM.o.2)
    have HH:=qz.mk hH
    have HOK:=qz.mk hoki
    have HOB : qz ((P0_ bg ∨ w.heap.size ≤ bg) ∧ w0.heap.size ≤ bg):=⟨(Kd.S_R HO.o).1 bg rfl,Kd.S_base HO.o bg rfl⟩
    have HRS:=qz.mk (And.intro hdn (And.intro htot' (fun z hz=>hxl z (List.mem_cons_of_mem _ hz))))
    have HX1:=qz.mk hx1
    have HWK : qz (wrap64 (k + (x.f0.length : Int) + 1) = k + x.f0.length + 1):=⟨w1_ (by have:=HKM.o;omega) (by have:=HKM.o;omega)⟩
    have hi1 : wrap64 (i + 1) = i + 1:=w64 aa' (by have:=HL.o.1;omega)
    have p:=eq_true hi0
    have q:=eq_true c
    clear hcl hMk hcc hfr hoki hH hx hRm hc0 hc1 hdn htot htot' hxl hx1 hle HM hcells hlen c hi0
    go_wp2_with (first|(go_at_call 33;refine HMI.o.mono ?_;rintro e w2 ⟨ms,rfl,hml,hmi,hr,hb,hk⟩;have HML:=qz.mk (And.intro hml hmi);have HR2:=qz.mk hr;have HB2:=qz.mk hb;have HK2:=qz.mk hk;have HH2:=qz.mk (Kd.H_kept (Kd.H_widen HH.o) hk (fun q hq hn h=>hn (.inl h)));have hc1 : w2.cell? ⟨bg,i.toNat * 2 + 1,none⟩ = some (.int .i64 x.f1):=(Kd.H_at HH2.o HI.o.1 ga').1 1 _ rfl;have hf1 : w2.frozen? ⟨bg,i.toNat * 2 + 1,none⟩ = false:=(Kd.H_at HH2.o HI.o.1 ga').2 1;clear hr hb hk hml hmi))
    have HS3:=Kd.S_seg0 HH2.o HI.o.1 ga' (seg:=[.int .i64 (k + (x.f0.length : Int))]) (j:=1) (x':=(⟨ms,k + (x.f0.length : Int)⟩ : S80)) (okp:=fun q=>oki q ∨ (P0_ q ∨ w.heap.size ≤ q) ∧ wr.heap.size ≤ q) (show 1 + 1 ≤ 2 by decide) (Un' w2 w0.heap.size _ (⟨ms,k + (x.f0.length : Int)⟩ : S80) (Kd.R_mono HR2.o (fun q hq=>.inl hq))) (fun _ h=>h)
    have HS4:=qz.mk HS3.1
    clear HS3
    go_roundg k1
    case measure=>omega
    case rel=>exact ⟨i + 1,k + x.f0.length + 1,dn ++ [⟨ms,k + (x.f0.length : Int)⟩],l,la',by first|rfl|rw [HWK.o],⟨fa',fa',ga'⟩,⟨by rw [List.length_append,HD.o.1,List.length_singleton];have:=HI.o;omega,by have:=HD.o.2;rw [List.length_append,List.length_singleton];rw [List.length_cons] at this;omega⟩,⟨by have:=HRS.o.1.snoc HML.o.2 (by rw [HML.o.1];exact HX1.o);rw [HML.o.1] at this;exact this,HRS.o.2⟩,⟨by
     have h:=HS4.o
     rw [List.set_append_right _ _ (by have:=HD.o.1;omega),show i.toNat - dn.length = 0 by have:=HD.o.1;omega,List.set_cons_zero] at h
     rw [List.append_assoc]
     exact h⟩,⟨qp HB2.o HOB.o.2⟩,⟨oe'.setCell (HK.o.then_ HK2.o (fun q hq=>(HOK.o q hq).1)) HOB.o.1 _⟩⟩
  have hrs : rs = []:=by
   have h1:=HD.o
   have h2:=HI.o
   exact List.eq_nil_of_length_eq_zero aa'
  subst hrs
  have hk : k = a1 + vg' l0:=by have:=HM.o.2.1;rw [vg'] at this;omega
  subst hk
  have HMD:=qz.mk HM.o.1
  have HS4 : qz (Kd.S k80 80 wr w0.heap.size (fun k=>P0_ k ∨ w.heap.size ≤ k) (.slice AG l0.length cG) dn):=⟨by have:=HO.o;rwa [List.append_nil] at this⟩
  have cl0 : decide (i < (l0.length : Int)) = false:=decide_eq_false c
  clear c HM HO
  go_wp2_with fail
  go_ret
  exact ⟨dn,rfl,HMD.o,HS4.o,HB.o,HK.o⟩
theorem An' (PY PG : Nat → Prop) (vY vG : Value) (Y : List Int) (G : List S80) (a1 : Int) (w0 w : World) (hB : Below w0.heap.size w0 w) (hY : Kd.R (Kd.int .i64) 3 w w0.heap.size PY vY Y) (hG : Kd.S k80 80 w w0.heap.size PG vG G)
  (hap : ∀ q,PY q → ¬PG q) (hl : G.length ≤ 1000000) (hx : ∀ x ∈ G,x.f0.length ≤ 1000000) (h0 : 0 ≤ a1) (h1 : a1 + Y.length + vg' G ≤ 1000000000) :
  Calls Tryz.prog 13 #[.agg #[vY,vG],.int .i64 a1] w fun e w'=>∃ Y' G',e = .returned (.int .i64 (a1 + Y.length + vg' G)) ∧ Y'.length = Y.length ∧ MkI Y' a1 ∧ MkG G' (a1 + Y.length) (a1 + Y.length + vg' G) ∧ Kd.R (Kd.int .i64) 3 w' w0.heap.size (fun q=>PY q ∨ w.heap.size ≤ q) vY Y' ∧ Kd.S k80 80 w' w0.heap.size (fun q=>PG q ∨ w.heap.size ≤ q) vG G' ∧ Below w0.heap.size w0 w' ∧ oe' w w' (fun q=>PY q ∨ PG q):=by
 have hu30:=Tryz.underlying30
 have HB:=qz.mk hB
 have HY:=qz.mk (show Kd.R (Kd.int .i64) 3 w w0.heap.size (fun q=>PY q ∧ q < w.heap.size) vY Y from Kd.R_mono (Kd.R_bound hY) (fun q hq=>⟨hq.1,hq.2.2.1⟩))
 have HG:=qz.mk (show Kd.S k80 80 w w0.heap.size (fun q=>PG q ∧ q < w.heap.size) vG G from Kd.S_mono (Kd.S_bound hG) (fun q hq=>⟨hq.1,hq.2.2.1⟩))
 have HAP:=qz.mk hap
 have HL:=qz.mk (And.intro hl (And.intro hx (And.intro h0 h1)))
 clear hB hY hG hap hl hx h0 h1
 obtain ⟨AY,cY,e_⟩:=Kd.R_slice HY.o
 subst e_
 obtain ⟨AG,cG,e_⟩:=Kd.S_slice HG.o
 subst e_
 go_enter Tryz.func13,Tryz.ntmps13
 go_upto_region 1 with fail
 have BX1 : qz ((w.alloc (.cells #[.slice AY Y.length cY,.slice AG G.length cG] 30)).heap[w.heap.size]? = some (.cells #[.slice AY Y.length cY,.slice AG G.length cG] 30 (0,0))):=⟨yd' w _⟩
 have HB1 : qz (Below w.heap.size w (w.alloc (.cells #[.slice AY Y.length cY,.slice AG G.length cG] 30))):=⟨qo (Below.refl _ _) _⟩
 generalize w.alloc (.cells #[.slice AY Y.length cY,.slice AG G.length cG] 30) = W1 at *
 have HBw:=qz.mk (qy HB.o HB1.o)
 have HMI:=qz.mk (gk' (fun q=>PY q ∧ q < w.heap.size) (.slice AY Y.length cY) Y a1 w0 W1 HBw.o (Kd.R_below HY.o HB1.o) HL.o.2.2.1 (by have:=HL.o.2.2.2;omega))
 have HK1:=qz.mk (oe'.of_below HB1.o (fun q=>PY q ∨ PG q))
 generalize hgb : w.heap.size = gb at BX1 ⊢
 have hb0 : W1.cell? ⟨gb,0,none⟩ = some (.slice AY Y.length cY):=(qq BX1.o 0).trans rfl
 have hb1 : W1.cell? ⟨gb,1,none⟩ = some (.slice AG G.length cG):=(qq BX1.o 1).trans rfl
 go_upto_region 2 with (first|(go_at_call 33;refine HMI.o.mono ?_;rintro e w2 ⟨Y',rfl,hyl,hym,hr,hb,hk⟩;have HYM:=qz.mk (And.intro hyl hym);have HR2:=qz.mk hr;have HB2:=qz.mk hb;have HK2:=qz.mk hk;clear hr hb hk hyl hym))
 have BX2:=qz.mk (Xf' BX1.o HK2.o (fun h=>by have:=h.2;omega))
 have HG2:=qz.mk (Kd.S_kept (Kd.S_below HG.o HB1.o) HK2.o (fun q hq h=>HAP.o q h.1 hq.1))
 have HMG:=qz.mk (pm' (fun q=>PG q ∧ q < w.heap.size) (.slice AG G.length cG) G (a1 + Y.length) w0 w2 HB2.o HG2.o HL.o.1 HL.o.2.1 oa' HL.o.2.2.2)
 clear hb0 hb1
 have hb0 : w2.cell? ⟨gb,0,none⟩ = some (.slice AY Y.length cY):=(qq BX2.o 0).trans rfl
 have hb1 : w2.cell? ⟨gb,1,none⟩ = some (.slice AG G.length cG):=(qq BX2.o 1).trans rfl
 go_wp2_with (first|(go_at_call 34;refine HMG.o.mono ?_;rintro e w3 ⟨G',rfl,hgm,hr,hb,hk⟩;have HGM:=qz.mk hgm;have HR3:=qz.mk hr;have HB3:=qz.mk hb;have HK3:=qz.mk hk;clear hr hb hk hgm))
 go_ret
 have HSZ : qz (w.heap.size ≤ W1.heap.size ∧ W1.heap.size ≤ w2.heap.size):=⟨HB1.o.size,HK2.o.1⟩
 refine ⟨Y',G',rfl,HYM.o.1,HYM.o.2,HGM.o,Kd.R_mono (Kd.R_kept HR2.o HK3.o (fun q hq h=>?_)) (fun q hq=>.inl hq.1),Kd.S_mono HR3.o (fun q hq=>?_),HB3.o,(HK1.o.then_ HK2.o (fun q hq=>.inl (.inl hq.1))).then_ HK3.o (fun q hq=>.inl (.inr hq.1))⟩
 ·exact HAP.o q hq.1 h.1
 rcases hq with hq|hq
 ·exact .inl hq.1
 exact .inr jb'
end Go.Proofs.YtnffimpoekjkpaaGreat.QFnExactSolve
