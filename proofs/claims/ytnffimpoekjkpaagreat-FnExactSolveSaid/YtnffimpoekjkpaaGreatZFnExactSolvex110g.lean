import Derived.Test.YtnffimpoekjkpaaGreatZFnExactSolvex97g
import Derived.Shelf.GgSortMore.Stable
import Derived.Shelf.GgSortFunc.SmallK
import Derived.Shelf.SlSortFuncK.SWK
import Derived.Deep.QuietTactic
set_option linter.all false
namespace Go.Proofs.YtnffimpoekjkpaaGreat.QFnExactSolve
open Go.RowKit Go.Proofs.YtnffimpoekjkpaaGreatW.PrintWords Go.Proofs.YtnffimpoekjkpaaGreatW.PrintLast Go.Proofs.YtnffimpoekjkpaaGreatW.PrintMore
attribute [local go_sem] Od' Pd' Xd' Yd' Jd' Kd' Qd' Rd'
set_option maxHeartbeats 8000000
set_option maxRecDepth 100000
def mkC (p : Int × Int) : S58:=⟨p.1,p.2⟩
theorem mn' : (Tryz.prog.info? 58).map (fun i=>(i.zero,i.size,i.bytes)) = some (some (.agg #[(.int .i64 0),(.int .i64 0)]),2,16):=by kernel_rfl
def If' (W w' : World) (vn : Value) : Prop:=∀ b o,W.heap[b]? = some o → some b ≠ vn.ownBlock → w'.heap[b]? = some o
section
variable {w0 W W1 W2 : World} {g : Nat} {N : Int} {Ae : Option Addr} {ce : Nat} {es : List (S73)} {col : Nat → Nat} {vy vn vl va vb : Value} {s s1 : SI}
theorem If'.refl : If' W W vn:=fun _ _ h _=>h
theorem If'.trans (h : If' W W1 vn) (k : If' W1 W2 vn) : If' W W2 vn:=fun b o hb hn=>k b o (h b o hb hn) hn
theorem If'.below (h : If' W W1 vn) (k : Below W1.heap.size W1 W2) : If' W W2 vn:=fun b o hb hn=>qx (h b o hb hn) k
theorem keep_size (h1 : Sol w0 W1 g N Ae ce es col vy vn vl va vb s1) (hk : If' W W1 vn) : W.heap.size ≤ W1.heap.size:=by
 apply Decidable.byContradiction
 intro h
 have hb : W1.heap.size < W.heap.size:=by omega
 have e : W.heap[W1.heap.size]? = some W.heap[W1.heap.size]:=Array.getElem?_eq_getElem hb
 by_cases c : some W1.heap.size = vn.ownBlock
 ·obtain ⟨cells,hc⟩:=Kd.R_typed h1.rn W1.heap.size c.symm
  have:=ke' hc
  omega
 have:=ke' (hk _ _ e c)
 omega
end
theorem nh'.len {N : Int} {es : List S73} {n0 k : Nat} {nd nd1 : List S89} (h : nh' N es n0 k nd nd1) : nd.length = n0:=by
 cases h with
 | done hl _ _=>exact hl
 | more hl _ _ _ _ _=>exact hl
theorem jm' {w0 W : World} {g : Nat} {N : Int} {Ae : Option Addr} {ce : Nat} {es : List (S73)} {col : Nat → Nat} {vy vn vl va vb : Value} {s : SI} (hS : Sol w0 W g N Ae ce es col vy vn vl va vb s) (ho : EOk es s.nd.length) (hN : 0 ≤ N ∧ N ≤ s.nd.length ∧ N ≤ 1000) (hsz : s.nd.length ≤ 1000000) (k : Nat) (nd1 : List S89) (hR : nh' N es s.nd.length k s.nd nd1)
  (hm : ∀ v,0 ≤ v → v < N → (td' nd1 v).f3 = -1 ∨ inR (td' nd1 v).f3 es.length) (hl1 : nd1.length = s.nd.length) (ps : List (Int × Int)) (hp : li' es nd1 N (N.toNat + 1) 0 [] = ps) :
  Calls Tryz.prog 27 #[.pointer (some ⟨g,0,none⟩)] W fun e w'=>∃ v,e = .returned v ∧ Kd.R k58 58 w' W.heap.size (fun _=>True) v (ps.map mkC) ∧ If' W w' vn ∧ Below w0.heap.size w0 w' ∧ W.heap.size ≤ w'.heap.size:=by
 have hu87:=Tryz.underlying87
 have hu89:=Tryz.underlying89
 have hu73:=Tryz.underlying73
 have hu35:=Tryz.underlying35
 have HS:=qz.mk hS
 clear hS
 have HE:=qz.mk ho
 have HN:=qz.mk hN
 have H0:=qz.mk hsz
 have HT:=qz.mk hR
 have HM:=qz.mk hm
 have HL1:=qz.mk hl1
 have HP:=qz.mk hp
 have HKR : qz (If' W W vn):=⟨If'.refl⟩
 clear ho hN hsz hR hm hl1 hp
 go_enter Tryz.func27,Tryz.ntmps27
 go_wp2_with fail
 go_loopg [3] (k + 1) (fun kq v3 w'=>∃ (f : Bool) (nd : List S89),v3 = .bool f ∧ qz (f = true ∧ (∃ kk,kk < kq ∧ nh' N es s.nd.length kk nd nd1) ∨ f = false ∧ nd = nd1) ∧ qz (nd.length = s.nd.length) ∧ qz (Sol w0 w' g N Ae ce es col vy vn vl va vb { s with nd:=nd }) ∧ qz (If' W w' vn))
 case atStart=>exact ⟨true,s.nd,rfl,⟨.inl ⟨rfl,k,aa',HT.o⟩⟩,⟨rfl⟩,HS,HKR⟩
 clear HT HS HKR
 obtain ⟨f,nd,rfl,HT,HLN,HS,HKR⟩:=hrel
 have hc:=HS.o.cells
 have hln:=HLN.o
 rcases HT.o with ⟨rfl,kk,hkk,hR⟩|⟨rfl,rfl⟩
 ·clear HT
  obtain _|k1:=gk
  ·exact absurd hkk aa'
  have HR : qz ((rf' nd (nd.length + 1) N = -1 ∧ nd = nd1) ∨ ∃ r,WFn nd ∧ rf' nd (nd.length + 1) N = r ∧ r ≠ -1 ∧ UOk es nd r ∧ (Ed' es nd r).length = s.nd.length ∧ ∃ kk,kk < k1 ∧ nh' N es s.nd.length kk (Ed' es nd r) nd1):=by
   cases hR with
   | done hl hw h=>exact ⟨.inl ⟨h,rfl⟩⟩
   | more hl hw h hr hU rest=>exact ⟨.inr ⟨_,hw,h,hr,hU,rest.len,_,aa',rest⟩⟩
  clear hR hkk
  obtain ⟨q,hq⟩ : ∃ q,rf' nd (nd.length + 1) N = q:=⟨_,rfl⟩
  have HQ:=qz.mk hq
  have h:=HR.o
  rw [hq] at h
  have HR:=qz.mk h
  clear h hq
  obtain ⟨An,cn,e_⟩:=Kd.R_slice HS.o.rn
  have hvn : vn = .slice An s.nd.length cn:=by rw [← hln];exact e_
  clear e_
  go_wp2_with (first|fail)
  go_loopg [3,4] (s.nd.length + 1) (fun ki v3 v4 w'=>∃ (i : Int) (f : Bool),v3 = .bool f ∧ v4 = .int .i64 i ∧ qz (0 ≤ i ∧ i ≤ s.nd.length) ∧ qz ((f = false ∧ wr = w' ∧ (s.nd.length : Int) < i + ki ∧ rf' nd ki i = q) ∨ (f = true ∧ q ≠ -1 ∧ Sol w0 w' g N Ae ce es col vy vn vl va vb { s with nd:=Ed' es nd q } ∧ (Ed' es nd q).length = s.nd.length ∧ If' W w' vn)))
  case atStart=>exact ⟨N,false,rfl,rfl,⟨HN.o.1,HN.o.2.1⟩,⟨.inl ⟨rfl,rfl,by have:=HN.o.1;omega,by have:=HQ.o;rw [hln] at this;exact this⟩⟩⟩
  obtain ⟨i,f,rfl,rfl,HI,HI2⟩:=hrel
  rcases HI2.o with ⟨rfl,rfl,hki,hft⟩|⟨rfl,hq1,hS2,hL2,hK2⟩
  ·by_cases c : i < (s.nd.length : Int)
   ·cases gk with
    | zero =>
     exfalso
     omega
    | succ ki =>
     rw [rf',if_pos (by rw [hln];exact c)] at hft
     have hi0:=HI.o.1
     have HIN : qz (inR i nd.length):=⟨hi0,by rw [hln];exact c⟩
     have HIL:=qz.mk c
     have HKI:=qz.mk hki
     have cl0 : decide (i < (s.nd.length : Int)) = true:=decide_eq_true c
     have hi1 : wrap64 (i + 1) = i + 1:=w64 aa' pa'
     subst hvn
     clear c hki HI2
     cases ct1 : Dd' (td' nd i) with
     | false =>
      rw [ct1,if_neg ba'] at hft
      have HFT:=qz.mk hft
      clear hft
      go_wp2_with (first|(go_at_call 53;(with_reducible refine (me' HS.o i false HIN.o ct1).mono ?_);rintro e w7 ⟨rfl,h2⟩;replace h2:=h2.symm;subst h2))
      go_roundg ki
      case measure=>omega
      case rel=>exact ⟨i + 1,false,rfl,la',⟨aa',ga'⟩,⟨.inl ⟨rfl,rfl,Fa',HFT.o⟩⟩⟩
     | true =>
      rw [ct1,if_pos rfl] at hft
      subst hft
      obtain ⟨hq0,-⟩|⟨r,hw,hr0,hr1,hU,hUL,-⟩:=HR.o
      ·exfalso
       omega
      subst hr0
      have HEN : qz (EOk es nd.length):=⟨by rw [hln];exact HE.o⟩
      have HUC:=qz.mk (ei' HS.o hw HEN.o i HIN.o hU.mate hU.hold hU.mem hU.pos hU.lk hU.sz)
      have HUL : qz ((Ed' es nd i).length = s.nd.length):=⟨hUL⟩
      clear hw hr1 hU hUL
      go_wp2_with (first|(first|(go_at_call 53;(with_reducible refine (me' HS.o i true HIN.o ct1).mono ?_);rintro e w7 ⟨rfl,h2⟩;replace h2:=h2.symm;subst h2))|(go_at_call 54;refine HUC.o.mono ?_;rintro e w8 ⟨rfl,hs,hk⟩;have HSF:=qz.mk hs;have HKF : qz (If' W w8 (.slice An s.nd.length cn)):=⟨HKR.o.trans hk⟩;clear hs hk))
      go_roundg ki
      case measure=>omega
      case rel=>exact ⟨i + 1,true,rfl,la',⟨aa',ga'⟩,⟨.inr ⟨rfl,aa',HSF.o,HUL.o,HKF.o⟩⟩⟩
   have cl0 : decide (i < (s.nd.length : Int)) = false:=decide_eq_false c
   have hq2 : q = -1:=by
    cases gk with
    | zero=>rw [rf'] at hft;exact hft.symm
    | succ k2=>rw [rf',if_neg (by rw [hln];exact c)] at hft;exact hft.symm
   have hnd : nd = nd1:=by
    rcases HR.o with ⟨_,h⟩|⟨r,_,h1,h2,_⟩
    ·exact h
    exact absurd (h1.symm.trans hq2) h2
   subst hvn
   have HND:=qz.mk hnd
   clear c hki hft hq2 HI2 hnd
   go_wp2_with fail
   go_roundg k1
   case measure=>omega
   case rel=>exact ⟨false,nd,rfl,⟨.inr ⟨rfl,HND.o⟩⟩,HLN,HS,HKR⟩
  have h:=HR.o
  have HQ1:=qz.mk hq1
  have HS2:=qz.mk hS2
  have HL2:=qz.mk hL2
  have HK2:=qz.mk hK2
  have HRR : qz (∃ kk,kk < k1 ∧ nh' N es s.nd.length kk (Ed' es nd q) nd1):=by
   rcases h with ⟨h1,_⟩|⟨r,_,h1,_,_,_,h2⟩
   ·exact absurd h1 hq1
   rw [h1];exact ⟨h2⟩
  clear h hq1 hS2 hL2 hK2 HI2 hc
  subst hvn
  have hc:=HS2.o.cells
  obtain ⟨cl,hcl⟩ : ∃ cl,decide (i < (s.nd.length : Int)) = cl:=⟨_,rfl⟩
  cases cl <;>
  ·go_wp2_with fail
   go_roundg k1
   case measure=>omega
   case rel=>exact ⟨true,_,rfl,⟨.inl ⟨rfl,HRR.o⟩⟩,HL2,HS2,HK2⟩
 clear HT
 go_wp2_with fail
 have HSZ:=qz.mk (keep_size HS.o HKR.o)
 generalize hW3 : wr = W3 at HS HKR HSZ ⊢
 go_loopg [5,38] (N.toNat + 1) (fun kq v5 v38 w'=>∃ (i : Nat) (acc : List (Int × Int)),v38 = .int .i64 (i : Int) ∧ qz (i + kq = N.toNat + 1 ∧ i ≤ N.toNat ∧ acc.length ≤ i) ∧ qz (li' es nd N kq i acc = ps) ∧ qz (Kd.R k58 58 w' W3.heap.size (fun _=>True) v5 (acc.map mkC)) ∧ qz (Below W3.heap.size W3 w'))
 case atStart=>exact ⟨0,[],rfl,⟨aa',aa',ia'⟩,HP,⟨Kd.R_nil _ _ _ _ _⟩,⟨Below.refl _ _⟩⟩
 clear HP hc
 obtain ⟨i,acc,rfl,HI,HP,HO,HB⟩:=hrel
 have HS1:=qz.mk (HS.o.to HB.o)
 have hc:=HS1.o.cells
 have h:=HP.o
 clear HP
 cases gk with
 | zero =>
  exfalso
  have h1:=HI.o
  omega
 | succ ki =>
  rw [li'] at h
  by_cases c : (i : Int) < N
  ·rw [if_pos c] at h
   have hin : (i : Int) < ({ s with nd:=nd } : SI).nd.length:=by have:=HN.o;show (i : Int) < (nd.length : Int);omega
   have hi0 : (0 : Int) ≤ i:=by omega
   have HIL:=qz.mk c
   have cl0 : decide ((i : Int) < N) = true:=decide_eq_true c
   obtain ⟨bn,cn,e_,-⟩:=fe' HS1.o.rn (by show 0 < nd.length;have : (i : Int) < (nd.length : Int):=hin;omega)
   have e_ : vn = .slice (some ⟨bn,0,none⟩) nd.length cn:=e_
   rw [hln] at e_
   subst e_
   have HS1 : qz (Sol w0 wr g N Ae ce es col vy (.slice (some ⟨bn,0,none⟩) s.nd.length cn) vl va vb { s with nd:=nd }):=HS1
   obtain ⟨A0n,c0n,A1n,c1n,nx0,nx1,nx2,nx3,nx4,nx5,nx6,nf2,nf3,nf5,nf6,-⟩:=HS1.o.node_at i hi0 hin
   have pi:=eq_true hi0
   have hinl : (i : Int) < (s.nd.length : Int):=by rw [← hln];exact hin
   have qi:=eq_true hinl
   obtain ⟨E,hE⟩ : ∃ E,(td' nd i).f3 = E:=⟨_,rfl⟩
   have hm:=HM.o i hi0 c
   have nx3 : wr.cell? _ = some (.int .i64 (td' nd i).f3):=nx3
   simp only [Int.toNat_natCast] at nx3
   clear nx0 nx1 nx2 nx4 nx5 nx6 nf2 nf3 nf5 nf6
   rw [hE] at h hm nx3
   by_cases d : E = -1
   ·have cb : (E != -1) = false:=by simpa using d
    rw [if_neg (fun h=>h.1 d)] at h
    have HP:=qz.mk h
    clear h c d hm hE
    go_wp2_with fail
    go_roundg ki
    case measure=>omega
    case rel=>exact ⟨i + 1,acc,Dc',⟨fa',ga',fa'⟩,HP,HO,HB⟩
   have cb : (E != -1) = true:=by simpa using d
   obtain ⟨p,q⟩:=hm.resolve_left d
   obtain ⟨adE,e_,he0,he1,he2,he3,he4⟩:=of' (Kd.C_below HS1.o.he HS1.o.hb) E p q
   subst e_
   have pe:=eq_true p
   have qe:=eq_true q
   by_cases d2 : (ud' es E).f0 = i
   ·have cb2 : ((ud' es E).f0 == (i : Int)) = true:=by simpa using d2
    rw [if_pos ⟨d,d2⟩] at h
    have HP:=qz.mk h
    clear h c d d2 hE p q hm
    go_wp2_with (first|((with_reducible refine Ld' (b:=.append) (xs:=#[.tmp 64,.tmp 76]) rfl ?_);at_builtin;refine Kd.R_append k58 (w0:=W3) W3.heap.size rfl (.tmp 64) (.tmp 76) 26 58 (.agg #[(.int .i64 0),(.int .i64 0)]) 16 rfl Tryz.underlying26 mn' rfl ba' aa' u5 (acc.map mkC) (⟨(i : Int),(ud' es E).f1⟩ : S58) [.int .i64 (i : Int),.int .i64 (ud' es E).f1] (fun _=>True) (fun _=>False) rfl rfl (Lj' _ _ _ (⟨(i : Int),(ud' es E).f1⟩ : S58)) (fun _ hk=>hk.elim) ?aF ?aO ?aB ?aS ?aL ?_;(case aF=>exact (fun _ _=>trivial));(case aO=>exact Nb');(case aB=>exact ab');(case aS=>exact qv ab');(case aL=>rw [List.length_map];have:=HI.o;have:=HN.o;omega);intro v7 w7 ho hb hg hat;clear HO;have HO:=qz.mk ho;have HB7:=qz.mk hb;clear ho hb hg hat))
    go_roundg ki
    case measure=>omega
    case rel=>exact ⟨i + 1,acc ++ [((i : Int),(ud' es E).f1)],Dc',⟨fa',ga',by have:=HI.o;rw [List.length_append,List.length_singleton];omega⟩,HP,⟨by rw [List.map_append];exact HO.o⟩,HB7⟩
   have cb2 : ((ud' es E).f0 == (i : Int)) = false:=by simpa using d2
   rw [if_neg (fun h=>d2 h.2)] at h
   have HP:=qz.mk h
   clear h c d d2 hE p q hm
   go_wp2_with fail
   go_roundg ki
   case measure=>omega
   case rel=>exact ⟨i + 1,acc,Dc',⟨fa',ga',fa'⟩,HP,HO,HB⟩
  rw [if_neg c] at h
  have cl0 : decide ((i : Int) < N) = false:=decide_eq_false c
  subst h
  clear c
  go_wp2_with fail
  go_ret
  exact ⟨_,rfl,Kd.R_lower HO.o HSZ.o,HKR.o.below HB.o,HS1.o.hb,by have:=HB.o.size;have:=HSZ.o;omega⟩
end Go.Proofs.YtnffimpoekjkpaaGreat.QFnExactSolve
namespace Go.Proofs.YtnffimpoekjkpaaGreat.QFnExactSolve
open Go.RowKit Go.Proofs.YtnffimpoekjkpaaGreatW.PrintWords Go.Proofs.YtnffimpoekjkpaaGreatW.PrintLast Go.Proofs.YtnffimpoekjkpaaGreatW.PrintMore
open Go.Shelf Go.Lib Go.Sort
set_option maxHeartbeats 8000000
set_option maxRecDepth 100000
def nn' : Go.Shelf.Ren:=⟨fun|26=>98|n=>n,fun|44=>119|3=>3|0=>0|4=>4|26=>92|37=>110|n=>n,fun|n=>n⟩
theorem Gq' : Go.Proofs.LaysGg.n26 Tryz.prog nn':={
 mixed:=by kernel_rfl
 f26:=Tryz.func98.trans (congrArg some da')
 t0:=Tryz.underlying0
 a0:=Tryz.isAgg0
 z0:=Tryz.sizeOf0
 v0:=Tryz.zeroValue0
 i0:=by kernel_rfl
 t3:=Tryz.underlying3
 a3:=Tryz.isAgg3
 z3:=Tryz.sizeOf3
 v3:=Tryz.zeroValue3
 i3:=by kernel_rfl
 t4:=Tryz.underlying4
 a4:=Tryz.isAgg4
 z4:=Tryz.sizeOf4
 v4:=Tryz.zeroValue4
 i4:=by kernel_rfl
 t26:=Tryz.underlying92
 a26:=Tryz.isAgg92
 z26:=Tryz.sizeOf92
 v26:=Tryz.zeroValue92
 i26:=by kernel_rfl
 t37:=Tryz.underlying110
 a37:=Tryz.isAgg110
 z37:=Tryz.sizeOf110
 v37:=Tryz.zeroValue110
 i37:=by kernel_rfl
 t44:=Tryz.underlying119
 a44:=Tryz.isAgg119
 z44:=Tryz.sizeOf119
 v44:=Tryz.zeroValue119
 i44:=by kernel_rfl }
def uh' : Go.Shelf.Ren:=⟨fun|8=>50|13=>71|14=>72|16=>74|15=>73|29=>98|30=>99|42=>103|49=>104|n=>n,fun|20=>20|26=>92|36=>114|0=>0|38=>110|42=>119|3=>3|4=>4|47=>136|17=>17|33=>111|34=>112|89=>151|12=>12|56=>143|82=>144|5=>5|83=>145|84=>146|85=>147|86=>148|87=>149|n=>n,fun|n=>n⟩
theorem so' : Go.Proofs.LaysGt.n8 Tryz.prog uh':={
 mixed:=by kernel_rfl
 f8:=Tryz.func50.trans (congrArg some da')
 f13:=Tryz.func71.trans (congrArg some da')
 f14:=Tryz.func72.trans (congrArg some da')
 f15:=Tryz.func73.trans (congrArg some da')
 f16:=Tryz.func74.trans (congrArg some da')
 f29:=Tryz.func98.trans (congrArg some da')
 f30:=Tryz.func99.trans (congrArg some da')
 f42:=Tryz.func103.trans (congrArg some da')
 f49:=Tryz.func104.trans (congrArg some da')
 t0:=Tryz.underlying0
 a0:=Tryz.isAgg0
 z0:=Tryz.sizeOf0
 v0:=Tryz.zeroValue0
 i0:=by kernel_rfl
 t3:=Tryz.underlying3
 a3:=Tryz.isAgg3
 z3:=Tryz.sizeOf3
 v3:=Tryz.zeroValue3
 i3:=by kernel_rfl
 t4:=Tryz.underlying4
 a4:=Tryz.isAgg4
 z4:=Tryz.sizeOf4
 v4:=Tryz.zeroValue4
 i4:=by kernel_rfl
 t5:=Tryz.underlying5
 a5:=Tryz.isAgg5
 z5:=Tryz.sizeOf5
 v5:=Tryz.zeroValue5
 i5:=by kernel_rfl
 t12:=Tryz.underlying12
 a12:=Tryz.isAgg12
 z12:=Tryz.sizeOf12
 v12:=Tryz.zeroValue12
 i12:=by kernel_rfl
 t17:=Tryz.underlying17
 a17:=Tryz.isAgg17
 z17:=Tryz.sizeOf17
 v17:=Tryz.zeroValue17
 i17:=by kernel_rfl
 t20:=Tryz.underlying20
 a20:=Tryz.isAgg20
 z20:=Tryz.sizeOf20
 v20:=Tryz.zeroValue20
 i20:=by kernel_rfl
 t26:=Tryz.underlying92
 a26:=Tryz.isAgg92
 z26:=Tryz.sizeOf92
 v26:=Tryz.zeroValue92
 i26:=by kernel_rfl
 t33:=Tryz.underlying111
 a33:=Tryz.isAgg111
 z33:=Tryz.sizeOf111
 v33:=Tryz.zeroValue111
 i33:=by kernel_rfl
 t34:=Tryz.underlying112
 a34:=Tryz.isAgg112
 z34:=Tryz.sizeOf112
 v34:=Tryz.zeroValue112
 i34:=by kernel_rfl
 t36:=Tryz.underlying114
 a36:=Tryz.isAgg114
 z36:=Tryz.sizeOf114
 v36:=Tryz.zeroValue114
 i36:=by kernel_rfl
 t38:=Tryz.underlying110
 a38:=Tryz.isAgg110
 z38:=Tryz.sizeOf110
 v38:=Tryz.zeroValue110
 i38:=by kernel_rfl
 t42:=Tryz.underlying119
 a42:=Tryz.isAgg119
 z42:=Tryz.sizeOf119
 v42:=Tryz.zeroValue119
 i42:=by kernel_rfl
 t47:=Tryz.underlying136
 a47:=Tryz.isAgg136
 z47:=Tryz.sizeOf136
 v47:=Tryz.zeroValue136
 i47:=by kernel_rfl
 t56:=Tryz.underlying143
 a56:=Tryz.isAgg143
 z56:=Tryz.sizeOf143
 v56:=Tryz.zeroValue143
 i56:=by kernel_rfl
 t82:=Tryz.underlying144
 a82:=Tryz.isAgg144
 z82:=Tryz.sizeOf144
 v82:=Tryz.zeroValue144
 i82:=by kernel_rfl
 t83:=Tryz.underlying145
 a83:=Tryz.isAgg145
 z83:=Tryz.sizeOf145
 v83:=Tryz.zeroValue145
 i83:=by kernel_rfl
 t84:=Tryz.underlying146
 a84:=Tryz.isAgg146
 z84:=Tryz.sizeOf146
 v84:=Tryz.zeroValue146
 i84:=by kernel_rfl
 t85:=Tryz.underlying147
 a85:=Tryz.isAgg147
 z85:=Tryz.sizeOf147
 v85:=Tryz.zeroValue147
 i85:=by kernel_rfl
 t86:=Tryz.underlying148
 a86:=Tryz.isAgg148
 z86:=Tryz.sizeOf148
 v86:=Tryz.zeroValue148
 i86:=by kernel_rfl
 t87:=Tryz.underlying149
 a87:=Tryz.isAgg149
 z87:=Tryz.sizeOf149
 v87:=Tryz.zeroValue149
 i87:=by kernel_rfl
 t89:=Tryz.underlying151
 a89:=Tryz.isAgg151
 z89:=Tryz.sizeOf151
 v89:=Tryz.zeroValue151
 i89:=by kernel_rfl }
theorem impl_listLess.calls (k : Nat) (A0 : Option Addr) (c0 : Nat) (l0 : List Int) (A1 : Option Addr) (c1 : Nat) (l1 : List Int) (r : Bool) (w : World) (hr0 : Kd.C (Kd.int .i64) w A0 l0.length l0) (hc0 : l0.length ≤ c0) (hr1 : Kd.C (Kd.int .i64) w A1 l1.length l1) (hc1 : l1.length ≤ c1) (h : spec_l10Ahead.f k l0 l1 = some r) :
  Calls Tryz.prog 52 #[.slice A0 l0.length c0,.slice A1 l1.length c1] w fun e w'=>e = .returned (.bool r) ∧ re' w w':=by
 have HR0:=qz.mk hr0
 have HC0:=qz.mk hc0
 clear hr0 hc0
 have HR1:=qz.mk hr1
 have HC1:=qz.mk hc1
 clear hr1 hc1
 have H : (spec_l10Ahead.l0 k l0 l1 0) = some r:=h
 clear h
 have H':=qz.mk H
 clear H
 go_enter Tryz.func52,Tryz.ntmps52
 go_wp2
 repeat (go_quiet (fail);try go_wp2)
 go_loopg [5] k (fun kq v5 w'=>∃ (x5_1 : Int),v5 = .int .i64 x5_1 ∧ qz (spec_l10Ahead.l0 kq l0 l1 x5_1 = some r) ∧ qz (kq ≤ k) ∧ re' w w')
 case atStart=>exact ⟨(0),rs_,H',⟨Nat.le_refl _⟩,ma'⟩
 clear H'
 try clear c1
 try clear p2
 obtain ⟨x5_1,rfl,HA,HK1,⟨m1,rfl⟩⟩:=hrel
 obtain _|k1:=gk
 ·exact absurd HA.o (by simp [spec_l10Ahead.l0])
 have H:=HA.o
 clear HA
 simp only [spec_l10Ahead.l0] at H
 have HC3:=qz.mk H
 clear H
 go_upto_region 2 with (fail)
 repeat (go_quiet (fail);go_upto_region 2 with (fail))
 go_cut [15] (fun v15 wc=>∃ (kq : Nat) (x15_2 : Bool),v15 = .bool x15_2 ∧ qz (spec_l10Ahead.j1 kq l0 l1 x5_1 x15_2 = some r) ∧ qz (kq ≤ k1) ∧ re' w wc)
 case first =>
  have H:=HC3.o
  clear HC3
  by_cases c4 : x5_1 < (l0.length : Int)
  ·rw [if_pos c4] at H
   have c4b0 : decide (x5_1 < (l0.length : Int)) = true:=decide_eq_true c4
   clear c4
   (first|rw [c4b0]|(simp only [Bd',Cd'];rw [c4b0])|skip)
   have H':=qz.mk H
   clear H
   go_wp2
   repeat (go_quiet (fail);try go_wp2)
   go_meet
   case rel=>exact ⟨_,(decide (x5_1 < (l1.length : Int))),rs_,H',⟨Xb'⟩,ma'⟩
  rw [if_neg c4] at H
  have c4b0 : decide (x5_1 < (l0.length : Int)) = false:=decide_eq_false c4
  clear c4
  (first|rw [c4b0]|(simp only [Bd',Cd'];rw [c4b0])|skip)
  have H':=qz.mk H
  clear H
  go_wp2
  repeat (go_quiet (fail);try go_wp2)
  go_meet
  case rel=>exact ⟨_,(false),rs_,H',⟨Xb'⟩,ma'⟩
 clear HC3
 try clear c1
 try clear p2
 try clear c4
 try clear c4b0
 try clear p2
 obtain ⟨kq,x15_2,rfl,HA,HJ2,⟨mc2,rfl⟩⟩:=hcut
 obtain _|kj2:=kq
 ·exact absurd HA.o (by simp [spec_l10Ahead.j1])
 have H:=HA.o
 clear HA
 simp only [spec_l10Ahead.j1] at H
 by_cases c5 : x15_2 = true
 ·subst c5
  have H1 : (if 0 ≤ x5_1 then (if x5_1 < (l0.length : Int) then (if x5_1 < (l1.length : Int) then (if (rd l0 x5_1) = (rd l1 x5_1) then (spec_l10Ahead.l0 kj2 l0 l1 (wrap64 (x5_1 + 1))) else (some (decide ((rd l0 x5_1) < (rd l1 x5_1))))) else (none)) else (none)) else (none)) = some r:=by rw [if_pos rfl] at H;exact H
  clear H
  have H:=H1
  clear H1
  by_cases c6 : 0 ≤ x5_1
  ·rw [if_pos c6] at H
   have c6b0 : decide (0 ≤ x5_1) = true:=decide_eq_true c6
   clear c6
   by_cases c7 : x5_1 < (l0.length : Int)
   ·rw [if_pos c7] at H
    have c7b0 : decide (x5_1 < (l0.length : Int)) = true:=decide_eq_true c7
    clear c7
    by_cases c8 : x5_1 < (l1.length : Int)
    ·rw [if_pos c8] at H
     have c8b0 : decide (x5_1 < (l1.length : Int)) = true:=decide_eq_true c8
     clear c8
     by_cases c9 : (rd l0 x5_1) = (rd l1 x5_1)
     ·rw [if_pos c9] at H
      have c9b0 : ((rd l0 x5_1) == (rd l1 x5_1)) = true:=beq_iff_eq.mpr c9
      have c9b1 : ((rd l0 x5_1) != (rd l1 x5_1)) = false:=bne_eq_false_iff_eq.mpr c9
      clear c9
      have H':=qz.mk H
      clear H
      have p189 : 0 ≤ (x5_1 : Int):=dt_
      have q189 : x5_1 < (l0.length : Int):=dt_
      obtain ⟨ad189,e189,hx189_0⟩:=Kd.at_int HR0.o x5_1 p189 q189
      cases e189
      replace p189:=eq_true p189
      replace q189:=eq_true q189
      have p190 : 0 ≤ (x5_1 : Int):=dt_
      have q190 : x5_1 < (l1.length : Int):=dt_
      obtain ⟨ad190,e190,hx190_0⟩:=Kd.at_int HR1.o x5_1 p190 q190
      cases e190
      replace p190:=eq_true p190
      replace q190:=eq_true q190
      go_wp2
      repeat (go_quiet (fail);try go_wp2)
      go_roundg kj2
      case measure=>have:=HK1.o;have:=HJ2.o;omega
      case rel=>exact ⟨(wrap64 (x5_1 + 1)),rs_,H',⟨by have:=HK1.o;have:=HJ2.o;omega⟩,ma'⟩
     rw [if_neg c9] at H
     have c9b0 : ((rd l0 x5_1) == (rd l1 x5_1)) = false:=beq_eq_false_iff_ne.mpr c9
     have c9b1 : ((rd l0 x5_1) != (rd l1 x5_1)) = true:=bne_iff_ne.mpr c9
     obtain rfl:=Option.some.inj H
     have p189 : 0 ≤ (x5_1 : Int):=dt_
     have q189 : x5_1 < (l0.length : Int):=dt_
     obtain ⟨ad189,e189,hx189_0⟩:=Kd.at_int HR0.o x5_1 p189 q189
     cases e189
     replace p189:=eq_true p189
     replace q189:=eq_true q189
     have p190 : 0 ≤ (x5_1 : Int):=dt_
     have q190 : x5_1 < (l1.length : Int):=dt_
     obtain ⟨ad190,e190,hx190_0⟩:=Kd.at_int HR1.o x5_1 p190 q190
     cases e190
     replace p190:=eq_true p190
     replace q190:=eq_true q190
     have p191 : 0 ≤ (x5_1 : Int):=dt_
     have q191 : x5_1 < (l0.length : Int):=dt_
     obtain ⟨ad191,e191,hx191_0⟩:=Kd.at_int HR0.o x5_1 p191 q191
     obtain rfl : ad189 = ad191:=(by injection e191)
     replace p191:=eq_true p191
     replace q191:=eq_true q191
     have p192 : 0 ≤ (x5_1 : Int):=dt_
     have q192 : x5_1 < (l1.length : Int):=dt_
     obtain ⟨ad192,e192,hx192_0⟩:=Kd.at_int HR1.o x5_1 p192 q192
     obtain rfl : ad190 = ad192:=(by injection e192)
     replace p192:=eq_true p192
     replace q192:=eq_true q192
     go_wp2
     repeat (go_quiet (fail);try go_wp2)
     go_ret
     exact ⟨wa',ma'⟩
    rw [if_neg c8] at H
    exact absurd H ia'
   rw [if_neg c7] at H
   exact absurd H ia'
  rw [if_neg c6] at H
  exact absurd H ia'
 replace c5:=Bool.eq_false_iff.mpr c5
 subst c5
 have H1 : (some (decide ((l0.length : Int) < (l1.length : Int)))) = some r:=by rw [if_neg (show ¬ (false = true) by decide)] at H;exact H
 clear H
 have H:=H1
 clear H1
 obtain rfl:=Option.some.inj H
 go_wp2
 repeat (go_quiet (fail);try go_wp2)
 go_ret
 exact ⟨wa',ma'⟩
theorem Wp' : ∀ (n : Nat) (l m : List Int) (i : Nat),i ≤ l.length → i ≤ m.length → l.length ≤ i + n → l.length < 4611686018427387904 → m.length < 4611686018427387904 → spec_l10Ahead.l0 (2 * n + 2) l m i = some (Ve' (l.drop i) (m.drop i)):=by
 intro n
 induction n with
 | zero =>
  intro l m i h1 h2 h3 h4 h5
  have : l.length = i:=by omega
  simp only [spec_l10Ahead.l0,spec_l10Ahead.j1]
  rw [if_neg aa']
  rw [if_neg ia']
  rw [List.drop_eq_nil_of_le aa']
  rcases Nat.lt_or_ge i m.length with h|h
  ·rw [List.drop_eq_getElem_cons h]
   simp [Ve'];omega
  rw [List.drop_eq_nil_of_le h]
  simp [Ve'];omega
 | succ n ih =>
  intro l m i h1 h2 h3 h4 h5
  show spec_l10Ahead.l0 (2 * n + 3 + 1) l m i = _
  rcases Nat.lt_or_ge i l.length with hl|hl
  ·rcases Nat.lt_or_ge i m.length with hm|hm
   ·simp only [spec_l10Ahead.l0]
    rw [if_pos aa',decide_eq_true (show (i : Int) < (m.length : Int) by omega)]
    show spec_l10Ahead.j1 (2 * n + 2 + 1) _ _ _ _ = _
    simp only [spec_l10Ahead.j1]
    rw [if_pos trivial,if_pos aa',if_pos aa',if_pos aa']
    rw [List.drop_eq_getElem_cons hl,List.drop_eq_getElem_cons hm]
    have e1 : rd l (i : Int) = l[i]:=by simp [rd,hl]
    have e2 : rd m (i : Int) = m[i]:=by simp [rd,hm]
    rw [e1,e2]
    by_cases c : l[i] = m[i]
    ·rw [if_pos c,c]
     have e3 : wrap64 ((i : Int) + 1) = ((i + 1 : Nat) : Int):=by
      unfold wrap64;omega
     rw [e3,ih l m (i + 1) aa' aa' aa' h4 h5]
     simp [Ve']
    rw [if_neg c]
    simp [Ve',c]
   simp only [spec_l10Ahead.l0]
   rw [if_pos aa',decide_eq_false (show ¬ (i : Int) < (m.length : Int) by omega)]
   show spec_l10Ahead.j1 (2 * n + 2 + 1) _ _ _ _ = _
   simp only [spec_l10Ahead.j1]
   rw [if_neg ia',List.drop_eq_getElem_cons hl,List.drop_eq_nil_of_le hm]
   simp [Ve'];omega
  simp only [spec_l10Ahead.l0]
  rw [if_neg aa']
  show spec_l10Ahead.j1 (2 * n + 2 + 1) _ _ _ _ = _
  simp only [spec_l10Ahead.j1]
  rw [if_neg ia',List.drop_eq_nil_of_le hl]
  rcases Nat.lt_or_ge i m.length with hm|hm
  ·rw [List.drop_eq_getElem_cons hm]
   simp [Ve'];omega
  rw [List.drop_eq_nil_of_le hm]
  simp [Ve'];omega
theorem on' (l m : List Int) (h4 : l.length < 4611686018427387904) (h5 : m.length < 4611686018427387904) : ∃ k,spec_l10Ahead.f k l m = some (Ve' l m) :=
 ⟨_,Wp' l.length l m 0 aa' aa' aa' h4 h5⟩
theorem Qo' (bp bg n c : Nat) (A B : Option Addr) (ca cb : Nat) (l m : List Int) (W : World) (i j : Nat) (hi : i < n) (hj : j < n) (hn : n < 1000000)
  (hs : W.cell? ⟨bp,1,none⟩ = some (.slice (some ⟨bg,0,none⟩) n c))
  (hi0 : W.cell? ⟨bg,i * 2,none⟩ = some (.slice A l.length ca)) (hj0 : W.cell? ⟨bg,j * 2,none⟩ = some (.slice B m.length cb))
  (hA : Kd.C (Kd.int .i64) W A l.length l) (hB : Kd.C (Kd.int .i64) W B m.length m) (hca : l.length ≤ ca) (hcb : m.length ≤ cb) (hl : l.length < 1000000) (hm : m.length < 1000000) :
  Calls Tryz.prog 51 #[.int .i64 i,.int .i64 j,.pointer (some ⟨bp,0,none⟩)] W fun e w'=>e = .returned (.bool (Ve' l m)) ∧ ∃ q,w' = W.drewN q:=by
 obtain ⟨k,hk⟩:=on' l m aa' aa'
 have hcall : ∀ q,Calls Tryz.prog 52 #[.slice A l.length ca,.slice B m.length cb] (W.drewN q) fun e w'=>e = .returned (.bool (Ve' l m)) ∧ re' (W.drewN q) w':=fun q =>
  impl_listLess.calls k A ca l B cb m _ (W.drewN q) (Kd.C_below hA (qd (Below.refl _ _) q)) hca (Kd.C_below hB (qd (Below.refl _ _) q)) hcb hk
 clear hA hB hk
 go_enter Tryz.func51,Tryz.ntmps51
 go_wp2
 repeat (go_quiet (first|(go_at_call 52;refine (hcall _).mono ?_;rintro e w' ⟨rfl,⟨nd,rfl⟩⟩;(try first|exact ⟨rfl,_,World.drewN_drewN _ _ _⟩)));try go_wp2)
 go_ret
 exact ⟨rfl,_,rfl⟩
theorem qn' {α : Type} [Inhabited α] (enc : α → List Value) (k : Nat) (hk : ∀ x,(enc x).length = k) (lt : α → α → Bool) (g : Nat) (lb : Array Value) (sf : Nat) (sb : Array Value) (blk off : Nat) (d : Array α) (W : World)
  (eg : ∀ args w,(callFunc g args).run Tryz.prog w = .ok (.enter g args) w) (hless : LessReadsK Tryz.prog g lb enc k lt blk off d.size W) (hswap : SwapSwapsK Tryz.prog sf sb enc k blk off d.size)
  (hH : HoldsK enc k W blk off d) (hblk : blk < W.heap.size) (h20 : d.size < 20) :
  Calls Tryz.prog 73 #[.agg #[.func (.func g) #[] lb,.func (.func sf) #[] sb],.int .i64 d.size] W fun e w'=>e = .returned (.tuple #[]) ∧ ∃ n os,w' = sortWorldK enc k W blk off n (Sort.insertionSort lt d 0 d.size) os:=by
 have hSW:=(SWK.start hH).alloc (.cells #[.func (.func g) #[] lb,.func (.func sf) #[] sb] 119)
 have hc : Calls Tryz.prog 98 #[.agg #[.func (.func g) #[] lb,.func (.func sf) #[] sb],.int .i64 (0 : Nat),.int .i64 d.size] (W.alloc (.cells #[.func (.func g) #[] lb,.func (.func sf) #[] sb] 119)) fun e w'=>e = .returned (.tuple #[]) ∧ ∃ n os,w' = sortWorldK enc k (W.alloc (.cells #[.func (.func g) #[] lb,.func (.func sf) #[] sb] 119)) blk off n (Sort.insertionSort lt d 0 d.size) os :=
  Any.insertionSort_func_cells_w Gq' enc k hk lt g lb sf sb blk off 0 d.size d _ eg (hSW.lessReads hless hblk rfl) hswap (hSW.holds hblk hH rfl) (hSW.lt hblk) (Nat.zero_le _) (Nat.le_refl _) aa'
 clear hless hswap hH hSW
 go_enter Tryz.func73,Tryz.ntmps73
 go_wp2
 refine wp_loop_rounds 1 ?_
 rw [rounds_succ]
 go_wp2_with (go_at_call 98;refine hc.mono ?_;rintro e w1 ⟨rfl,n,os,rfl⟩)
 refine wp_loop_rounds 1 ?_
 rw [rounds_succ]
 go_wp2
 all_goals first|(exfalso;omega)|(go_end0;exact ⟨rfl,n,_,by unfold sortWorldK;rw [alloc_eq_grow,ahead_grow,putRowK_grow enc k (Sort.ahead W n) _ blk off _ hblk,grow_grow]⟩)
def bf' (gs : List S80) : List S80:=(Wf' (fun x y=>Ve' x.f0 y.f0) gs []).reverse
theorem ck' {α : Type} {lt : α → α → Bool} {x : α} : ∀ {l : List α},(He' lt x l).Perm (x :: l)
 | []=>List.Perm.refl _
 | z :: l=>by
  rw [He']
  split
  ·exact (List.Perm.cons z ck').trans (List.Perm.swap x z l)
  exact List.Perm.refl _
theorem dk' {α : Type} {lt : α → α → Bool} : ∀ {l o : List α},(Wf' lt l o).Perm (l ++ o)
 | [],o=>List.Perm.refl _
 | x :: l,o=>(dk' (l:=l) (o:=He' lt x o)).trans ((List.Perm.append_left l ck').trans List.perm_middle)
section
variable {W : World} {bg m : Nat} {enc : Nat → List Value} {k : Nat} {dk : Array Nat} {os : Array Obj}
theorem Li' (hbg : bg < W.heap.size) {j : Nat} (hj : j < W.heap.size) (hne : j ≠ bg) : (sortWorldK enc k W bg 0 m dk os).heap[j]? = W.heap[j]?:=by
 unfold sortWorldK
 rw [heap_grow_old _ _ (by rw [size_putRowK];exact hj)]
 unfold putRowK putRow mapBlock
 show (W.heap.modify bg _)[j]? = _
 rw [Array.getElem?_modify,if_neg (Ne.symm hne)]
theorem sw_row {cur : Array Value} {e : TypeId} (hb : W.heap[bg]? = some (.cells cur e (0,0))) : (sortWorldK enc k W bg 0 m dk os).heap[bg]? = some (.cells (putCells id 0 (flatK enc k dk) cur) e (0,0)):=by
 unfold sortWorldK
 rw [heap_grow_old _ _ (by rw [size_putRowK];exact ke' hb)]
 unfold putRowK putRow mapBlock
 show (W.heap.modify bg _)[bg]? = _
 rw [Array.getElem?_modify,if_pos rfl,hb]
 rfl
theorem to' : W.heap.size ≤ (sortWorldK enc k W bg 0 m dk os).heap.size:=by
 unfold sortWorldK
 rw [size_grow,size_putRowK]
 exact Nat.le_add_right _ _
theorem sw_kept (hbg : bg < W.heap.size) : oe' W (sortWorldK enc k W bg 0 m dk os) (fun j=>j = bg):=⟨to',fun j hj hn=>Li' hbg hj hn⟩
theorem Hq' (hbg : bg < W.heap.size) {B : Nat} (hB : B ≤ bg) : Below B W (sortWorldK enc k W bg 0 m dk os) :=
 ⟨rfl,rfl,rfl,to',fun j hj=>Li' hbg aa' aa'⟩
end
noncomputable def gT : TypeInfo := (Tryz.prog.info? 28).get da'
noncomputable def gE : TypeInfo := (Tryz.prog.info? 80).get da'
def elm (inner : List Value) (i : Nat) : List Value:=[inner.getD (i * 2) (.bool false),inner.getD (i * 2 + 1) (.bool false)]
theorem Xp' {inner : List Value} {i n : Nat} (hl : inner.length = n * 2) (hi : i < n) : (inner.drop (i * 2)).take 2 = elm inner i:=by
 have h0 : i * 2 < inner.length:=by omega
 have h1 : i * 2 + 1 < inner.length:=by omega
 rw [List.drop_eq_getElem_cons h0,List.drop_eq_getElem_cons h1,List.take_succ_cons,List.take_succ_cons,List.take_zero]
 simp [elm,List.getD_eq_getElem?_getD,h0,h1]
theorem elm_get {inner : List Value} {n j : Nat} (hl : inner.length = n * 2) (hj : j < n * 2) : (elm inner (j / 2))[j % 2]! = inner.getD j (.bool false):=by
 rcases Nat.mod_two_eq_zero_or_one j with h|h
 ·rw [h]
  show inner.getD (j / 2 * 2) _ = _
  rw [show j / 2 * 2 = j by omega]
 rw [h]
 show inner.getD (j / 2 * 2 + 1) _ = _
 rw [show j / 2 * 2 + 1 = j by omega]
theorem bm' : ∀ {l : List Nat},l.Nodup → ∀ {j x : Nat},l[j]? = some x → l.idxOf x = j
 | [],_,j,x,h=>by simp at h
 | y :: l,hn,0,x,h=>by
  rw [List.getElem?_cons_zero] at h
  cases h
  simp
 | y :: l,hn,j + 1,x,h=>by
  rw [List.getElem?_cons_succ] at h
  obtain ⟨h1,h2⟩:=List.nodup_cons.1 hn
  have hx : y ≠ x:=fun e=>h1 (e ▸ List.mem_of_getElem? h)
  rw [List.idxOf_cons,show (y == x) = false by simpa using hx]
  show l.idxOf x + 1 = j + 1
  rw [bm' h2 h]
theorem Iq' {W : World} {base : Nat} {ok : Nat → Prop} {bg cap bp : Nat} {gs : List S80} (hS : Kd.S k80 80 W base ok (.slice (some ⟨bg,0,none⟩) gs.length cap) gs) (h2 : 2 ≤ gs.length) (h20 : gs.length < 20)
  (hv : W.cell? ⟨bp,1,none⟩ = some (.slice (some ⟨bg,0,none⟩) gs.length cap)) (hne : bp ≠ bg) (hml : ∀ x ∈ gs,x.f0.length < 1000000) :
  Calls Tryz.prog 50 #[.iface 28 (.slice (some ⟨bg,0,none⟩) gs.length cap),.func (.func 51) #[] #[.pointer (some ⟨bp,0,none⟩)]] W fun e w'=>e = .returned (.tuple #[]) ∧
   Kd.S k80 80 w' base ok (.slice (some ⟨bg,0,none⟩) gs.length cap) (bf' gs) ∧ oe' W w' (fun j=>j = bg) ∧ ∀ B,B ≤ base → Below B W w':=by
 obtain ⟨f,h0,inner,ho,hr⟩:=hS
 rw [List.length_zipIdx] at ho
 obtain ⟨hl,⟨h1,_⟩|⟨bg',cap',cur,heq,hbase,hb,hnc,hcap,hcs,hct⟩⟩:=ho
 ·cases h1
 injection heq with e1 _ e3
 injection e1 with e1
 injection e1 with e1
 subst e1;subst e3
 change inner.length = gs.length * 2 at hl
 change cur.toList.take (gs.length * 2) = inner at hct
 have hbg:=ke' hb
 have hel : ∀ j x,gs[j]? = some x → k80.M W base (fun q=>(ok q ∧ q ≠ bg) ∧ f q = j) x (elm inner j):=fun j x hx=>by
  have:=hr.2 j (x,j) (Kd.zip_at hx)
  change k80.M W base (fun q=>(ok q ∧ some q ≠ some bg) ∧ f q = j) x ((inner.drop (j * 2)).take 2) at this
  rw [Xp' hl (List.getElem?_eq_some_iff.1 hx).1] at this
  exact k80.M_mono (fun q hq=>⟨⟨hq.1.1,fun e=>hq.1.2 (congrArg some e)⟩,hq.2⟩) this
 have hone : ∀ j,j < gs.length → ∀ u ∈ elm inner j,u.oneCell' = true:=fun j hj u hu=>k80.K_one (k80.K_of_M (hel j _ (List.getElem?_eq_getElem hj))) u hu
 let n:=gs.length
 let enc : Nat → List Value:=fun i=>elm inner (i % n)
 let lt : Nat → Nat → Bool:=fun i j=>Ve' (gs.getD (i % n) ⟨[],0⟩).f0 (gs.getD (j % n) ⟨[],0⟩).f0
 have hpos : 0 < n:=by show 0 < gs.length;omega
 have hmod : ∀ i,i % n < gs.length:=fun i=>Nat.mod_lt _ hpos
 have hg? : ∀ i,gs[i % n]? = some (gs.getD (i % n) ⟨[],0⟩):=fun i=>by rw [List.getD_eq_getElem?_getD,List.getElem?_eq_getElem (hmod i)];rfl
 have hflat : ∀ j,j < n * 2 → (flatK enc 2 (Array.range n))[j]! = inner.getD j (.bool false):=fun j hj=>by
  rw [get_flatK _ _ _ _ (by simpa using hj)]
  have : (Array.range n)[j / 2]! = j / 2:=by rw [getElem!_pos _ _ Ga'];simp
  rw [this]
  show (elm inner (j / 2 % n))[j % 2]! = _
  rw [Nat.mod_eq_of_lt aa']
  exact elm_get hl hj
 have hH : HoldsK enc 2 W bg 0 (Array.range n):=fun j hj=>by
  have hj' : j < n * 2:=by simpa using hj
  rw [hflat j hj',Nat.zero_add]
  refine ⟨?_,?_⟩
  ·rw [qq hb,← Array.getElem?_toList]
   have e : inner[j]? = cur.toList[j]?:=by rw [← hct,List.getElem?_take,if_pos hj']
   rw [← e,List.getD_eq_getElem?_getD,List.getElem?_eq_getElem (by rw [hl];exact hj')]
   rfl
  simp [World.frozen?,hb]
 have hkc : ∀ x,(enc x).length = 2:=fun _=>rfl
 have hless : LessReadsK Tryz.prog 51 #[.pointer (some ⟨bp,0,none⟩)] enc 2 lt bg 0 (Array.range n).size W:=by
  intro m os dk hs i j hi hj
  rw [Array.size_range] at hs hi hj
  have hHk : HoldsK enc 2 (sortWorldK enc 2 W bg 0 m dk os) bg 0 dk:=holdsK_sortWorldK enc 2 W bg 0 m (Array.range n) dk os hbg hH (by rw [hs,Array.size_range])
  have rd1 : ∀ t,t < n → ∃ A c l,(elm inner (dk[t]! % n)) = [.slice A l.length c,.int .i64 (gs.getD (dk[t]! % n) ⟨[],0⟩).f1] ∧ l = (gs.getD (dk[t]! % n) ⟨[],0⟩).f0 ∧ l.length ≤ c ∧ Kd.C (Kd.int .i64) (sortWorldK enc 2 W bg 0 m dk os) A l.length l ∧ (sortWorldK enc 2 W bg 0 m dk os).cell? ⟨bg,t * 2,none⟩ = some (.slice A l.length c):=fun t ht=>by
   obtain ⟨v0,ev,hR⟩:=Gl' (hel _ _ (hg? dk[t]!))
   obtain ⟨A,c,e1,e2,e3⟩:=Kd.R_reads (Kd.R_step hR (w1:=sortWorldK enc 2 W bg 0 m dk os) (fun q hq hlt=>Li' hbg hlt hq.1.2))
   refine ⟨A,c,_,by rw [ev,e1],rfl,e2,e3,?_⟩
   have:=(hHk.cell (i:=t) (c:=0) aa' aa').1
   rw [Nat.zero_add,Nat.add_zero] at this
   rw [this]
   show some (elm inner (dk[t]! % n))[0]! = _
   rw [ev,e1];rfl
  obtain ⟨A,ca,l,-,rfl,hca,hA,hi0⟩:=rd1 i hi
  obtain ⟨B,cb,l',-,rfl,hcb,hB,hj0⟩:=rd1 j hj
  refine Qo' bp bg n cap A B ca cb _ _ _ i j hi hj aa' ?_ hi0 hj0 hA hB hca hcb (hml _ (List.mem_of_getElem? (hg? _))) (hml _ (List.mem_of_getElem? (hg? _)))
  have hlt:=World.block_lt_of_cell? W _ hv
  have:=Li' (enc:=enc) (k:=2) (m:=m) (dk:=dk) (os:=os) hbg hlt hne
  rw [← hv]
  unfold World.cell?
  rw [this]
 have h1c : ∀ x,∀ v ∈ enc x,v.oneCell' = true:=fun x v hv=>hone _ (hmod x) v hv
 have hK9 : swapperK n (gE) 25 = 9:=by
  have a : gE.hasPointers = true:=by kernel_rfl
  have b : gE.bytes = 32:=by kernel_rfl
  have c : (n == 0) = false:=by simp;omega
  have d : (n == 1) = false:=by simp;omega
  simp [swapperK,a,b,c,d]
 have hsz : (Array.range n).size = n:=Array.size_range
 have hmain:=Any.sort_SliceStable_of_stable so' 28 80 gT gE da' da' da' da' 25 (fun _=>by kernel_rfl) (some ⟨bg,0,none⟩) n cap aa' 97 (by rw [hK9];kernel_rfl) (.func 51) #[] #[.pointer (some ⟨bp,0,none⟩)] W
  (fun w'=>∃ m os,w' = sortWorldK enc 2 W bg 0 m (Sort.insertionSort lt (Array.range n) 0 n) os) ?_
 ·refine hmain.mono ?_
  rintro e w' ⟨rfl,m,os,rfl⟩
  have hrange : Array.range n = (List.range n).toArray:=by apply Array.ext <;> simp
  obtain ⟨sl,hsl⟩ : ∃ sl,sl = (Wf' lt (List.range n) []).reverse:=⟨_,rfl⟩
  have hins : Sort.insertionSort lt (Array.range n) 0 n = sl.toArray:=by
   have:=xk' (lt:=lt) (List.range n) Ga'
   rw [List.length_range] at this
   rw [hrange,this,hsl]
  rw [hins]
  have hperm : sl.Perm (List.range n):=by
   have:=dk' (lt:=lt) (l:=List.range n) (o:=[])
   rw [List.append_nil] at this
   rw [hsl]
   exact (List.reverse_perm _).trans this
  have hlen : sl.length = n:=by rw [hperm.length_eq,List.length_range]
  have hnd : sl.Nodup:=hperm.nodup_iff.2 List.nodup_range
  have hlt : ∀ x ∈ sl,x < n:=fun x hx=>List.mem_range.1 (hperm.mem_iff.1 hx)
  have hG : bf' gs = sl.map (fun i=>gs.getD (i % n) ⟨[],0⟩):=by
   have e : (List.range n).map (fun i=>gs.getD (i % n) ⟨[],0⟩) = gs:=by
    apply List.ext_getElem (by simp [n])
    intro i h1 h2
    simp only [List.getElem_map,List.getElem_range]
    rw [Nat.mod_eq_of_lt h2,List.getD_eq_getElem?_getD,List.getElem?_eq_getElem h2]
    rfl
   have:=cj' (f:=fun i=>gs.getD (i % n) ⟨[],0⟩) (lt:=lt) (lt2:=fun x y=>Ve' x.f0 y.f0) (fun _ _=>rfl) (l:=List.range n) (o:=[])
   rw [e] at this
   rw [hsl,List.map_reverse,this]
   rfl
  have hGl : (bf' gs).length = n:=by rw [hG,List.length_map,hlen]
  have hfl : ∀ j,j < n → elm (flatK enc 2 sl.toArray).toList j = elm inner (sl.getD j 0):=fun j hj=>by
   have hj2 : sl.toArray.size = n:=by rw [List.size_toArray,hlen]
   have hmo : sl.getD j 0 % n = sl.getD j 0:=by
    apply Nat.mod_eq_of_lt
    apply hlt
    rw [List.getD_eq_getElem?_getD,List.getElem?_eq_getElem aa']
    exact List.getElem_mem _
   have g : ∀ t,t < n * 2 → (flatK enc 2 sl.toArray).toList.getD t (.bool false) = (elm inner (sl.getD (t / 2) 0 % n))[t % 2]!:=fun t ht=>by
    have:=get_flatK enc 2 sl.toArray t (by rw [hj2];exact ht)
    rw [List.getD_eq_getElem?_getD,Array.getElem?_toList,Array.getElem?_eq_getElem (by rw [size_flatK,hj2];exact ht)]
    rw [getElem!_pos _ t (by rw [size_flatK,hj2];exact ht)] at this
    show _ = _
    rw [Option.getD_some,this]
    show (elm inner (sl.toArray[t / 2]! % n))[t % 2]! = _
    rw [getElem!_pos _ (t / 2) (by rw [hj2];omega),List.getD_eq_getElem?_getD,List.getElem?_eq_getElem aa']
    rfl
   unfold elm
   rw [g (j * 2) aa',g (j * 2 + 1) aa',show j * 2 / 2 = j by omega,show (j * 2 + 1) / 2 = j by omega,hmo,show j * 2 % 2 = 0 by omega,show (j * 2 + 1) % 2 = 1 by omega]
   rfl
  have hFl : (flatK enc 2 sl.toArray).toList.length = n * 2:=by rw [Array.length_toList,size_flatK,List.size_toArray,hlen]
  refine ⟨rfl,⟨fun q=>sl.idxOf (f q),h0,(flatK enc 2 sl.toArray).toList,?_,?_,?_⟩,sw_kept hbg,fun B hB=>Hq' hbg aa'⟩
  ·rw [List.length_zipIdx,hGl]
   refine ⟨hFl,.inr ⟨bg,cap,putCells id 0 (flatK enc 2 sl.toArray) cur,rfl,hbase,sw_row hb,hnc,hcap,?_,?_⟩⟩
   ·unfold putCells
    rw [Array.size_mapIdx]
    exact hcs
   change cur.size = cap * 2 at hcs
   show (putCells id 0 (flatK enc 2 sl.toArray) cur).toList.take (n * 2) = _
   apply List.ext_getElem?
   intro j
   rw [List.getElem?_take]
   by_cases hj : j < n * 2
   ·rw [if_pos hj,Array.getElem?_toList,Array.getElem?_toList]
    have hjc : j < cur.size:=by have : n ≤ cap:=hnc;omega
    have hjF : j < (flatK enc 2 sl.toArray).size:=by rw [size_flatK,List.size_toArray,hlen];exact hj
    unfold putCells
    rw [Array.getElem?_mapIdx,Array.getElem?_eq_getElem hjc,Option.map_some,if_pos ⟨aa',aa'⟩,Nat.sub_zero,getElem!_pos _ j hjF,Array.getElem?_eq_getElem hjF]
    rfl
   rw [if_neg hj,List.getElem?_eq_none aa']
  ·rw [List.length_zipIdx,hGl]
   exact hFl
  intro j p hj
  rw [List.getElem?_zipIdx,Nat.zero_add] at hj
  obtain ⟨x,hx,rfl⟩:=Option.map_eq_some_iff.1 hj
  have hjn : j < n:=by have:=(List.getElem?_eq_some_iff.1 hx).1;omega
  show k80.M _ base (fun q=>(ok q ∧ some q ≠ some bg) ∧ sl.idxOf (f q) = j) x (((flatK enc 2 sl.toArray).toList.drop (j * 2)).take 2)
  rw [Xp' hFl hjn,hfl j hjn]
  have hs : sl[j]? = some (sl.getD j 0):=by rw [List.getD_eq_getElem?_getD,List.getElem?_eq_getElem aa'];rfl
  have hsn : sl.getD j 0 < n:=hlt _ (List.mem_of_getElem? hs)
  rw [hG,List.getElem?_map,hs,Option.map_some,Nat.mod_eq_of_lt hsn] at hx
  have hx' : gs[sl.getD j 0]? = some x:=by
   rw [← Option.some.inj hx]
   clear hx
   generalize sl.getD j 0 = q at hsn ⊢
   rw [List.getD_eq_getElem?_getD,List.getElem?_eq_getElem hsn]
   rfl
  refine k80.M_mono (fun q hq=>⟨⟨hq.1.1,fun e=>hq.1.2 (Option.some.inj e)⟩,?_⟩) (Kd.M_step (hel _ x hx') (fun q hq hlt=>Li' hbg hlt hq.1.2))
  rw [hq.2]
  exact bm' hnd hs
 have hB : sliceBound Tryz.prog 80 gE 25 (some ⟨bg,0,none⟩) n cap = #[.slice (some ⟨bg,0,none⟩) n cap,typeHandle Tryz.prog 80]:=by
  unfold sliceBound;rw [if_neg (swapperK_gt _ _ _ h2)]
 have hW : stableWorld Tryz.prog uh' 28 (some ⟨bg,0,none⟩) n cap W = grow W #[.cells #[.slice (some ⟨bg,0,none⟩) n cap] 28,.cells #[.pointer (some ⟨Tryz.prog.globals.size,28,none⟩),.pointer (some ⟨W.heap.size,0,none⟩),.int .u64 151] (uh'.t 36)]:=by
  unfold stableWorld;rw [alloc_eq_grow,alloc_eq_grow,grow_grow];rfl
 generalize (#[.cells #[.slice (some ⟨bg,0,none⟩) n cap] 28,.cells #[.pointer (some ⟨Tryz.prog.globals.size,28,none⟩),.pointer (some ⟨W.heap.size,0,none⟩),.int .u64 151] (uh'.t 36)] : Array Obj) = os0 at hW
 rw [hB,hW]
 have hp:=qn' enc 2 hkc lt 51 #[.pointer (some ⟨bp,0,none⟩)] 97 _ bg 0 (Array.range n) (grow W os0) (enters_of Tryz.func51 da' rfl) (hless.grow hbg os0)
  (swapSwapsK_of_literal false 97 (fun args W=>run_callFunc_extern Tryz.func97 da' da' da' (e:=Extern.ReflectliteSwapper.swap false) da' args W) 80 gE da' enc 2 hkc da' (fun _=>by kernel_rfl) h1c bg 0 (Array.range n).size cap) (holdsK_grow enc 2 W _ bg 0 _ hbg hH) (by rw [size_grow];omega) (by rw [hsz];exact h20)
 rw [hsz] at hp
 refine hp.mono ?_
 rintro e w' ⟨rfl,m,os,rfl⟩
 exact ⟨rfl,m,_,by unfold sortWorldK;rw [ahead_grow,putRowK_grow enc 2 (Sort.ahead W m) _ bg 0 _ hbg,grow_grow]⟩
theorem Ro' {W : World} {base bp : Nat} {ok : Nat → Prop} {v : Value} {gs : List S80} (hS : Kd.S k80 80 W base ok v gs) (h20 : gs.length < 20) (hbs : base ≤ W.heap.size)
  (hv : W.cell? ⟨bp,1,none⟩ = some v) (hne : some bp ≠ v.ownBlock) (hml : ∀ x ∈ gs,x.f0.length < 1000000) :
  Calls Tryz.prog 50 #[.iface 28 v,.func (.func 51) #[] #[.pointer (some ⟨bp,0,none⟩)]] W fun e w'=>e = .returned (.tuple #[]) ∧
   Kd.S k80 80 w' base ok v (bf' gs) ∧ oe' W w' (fun j=>some j = v.ownBlock) ∧ ∀ B,B ≤ base → Below B W w':=by
 rcases Nat.lt_or_ge gs.length 2 with h|h
 ·obtain ⟨A,c,rfl⟩:=Kd.S_slice hS
  have hgs : bf' gs = gs:=by
   rcases gs with _|⟨x,_|⟨y,l⟩⟩
   ·rfl
   ·rfl
   exact absurd h (by simp only [List.length_cons];omega)
  rw [hgs]
  have h1 : swapperK gs.length gE 25 = gs.length + 1:=by
   rcases gs with _|⟨x,_|⟨y,l⟩⟩
   ·rfl
   ·rfl
   exact absurd h (by simp only [List.length_cons];omega)
  obtain ⟨f, hf⟩ : ∃ f, Tryz.prog.funcs.findIdx? (·.name == "internal/reflectlite" ++ ".Swapper$" ++ toString (swapperK gs.length gE 25)) = some f := by
   rw [h1]
   generalize gs.length = q at h
   rcases q with _|_|q
   ·exact ⟨89,da'⟩
   ·exact ⟨90,da'⟩
   omega
  have ht:=Any.sort_SliceStable_tiny so' 28 80 gT gE da' da' da' da' 25 (fun _=>by kernel_rfl) A gs.length c aa' f hf (.func 51) #[] #[.pointer (some ⟨bp,0,none⟩)] W
  refine ht.mono ?_
  rintro e w' ⟨rfl,os,rfl⟩
  have hb : ∀ B,B ≤ W.heap.size → Below B W (grow W os):=fun B hB=>⟨rfl,rfl,rfl,by rw [size_grow];omega,fun j hj=>heap_grow_old W os aa'⟩
  exact ⟨rfl,Kd.S_below hS (hb _ (Nat.le_refl _)),oe'.of_below (hb _ (Nat.le_refl _)) _,fun B hB=>hb B aa'⟩
 obtain ⟨bg,c,rfl,-,-,-⟩:=Kd.S_form hS aa'
 refine (Iq' hS h h20 hv (fun e=>hne (by rw [e];rfl)) hml).mono ?_
 rintro e w' ⟨rfl,h1,h2,h3⟩
 exact ⟨rfl,h1,h2.mono (fun j hj=>by rw [hj];rfl),h3⟩
end Go.Proofs.YtnffimpoekjkpaaGreat.QFnExactSolve
