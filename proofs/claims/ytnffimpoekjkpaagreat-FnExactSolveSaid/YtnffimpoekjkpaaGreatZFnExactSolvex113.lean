import Derived.Test.YtnffimpoekjkpaaGreatZFnExactSolvex110g
set_option linter.all false
namespace Go.Proofs.YtnffimpoekjkpaaGreat.QFnExactSolve
open Go.RowKit Go.Proofs.YtnffimpoekjkpaaGreatW.PrintWords Go.Proofs.YtnffimpoekjkpaaGreatW.PrintLast Go.Proofs.YtnffimpoekjkpaaGreatW.PrintMore
set_option maxHeartbeats 8000000
set_option maxRecDepth 100000
attribute [local go_sem] Od' Pd' Xd' Yd' Jd' Kd' Qd' Rd'
def mkG (p : List Int × Int) : S80:=⟨p.1,p.2⟩
theorem Ij' : ∀ q,q ∈ 80 :: k80.E → q ≠ 30:=by
 intro q hq
 have hq : q ∈ ([80,3] : List Nat):=hq
 simp only [List.mem_cons,List.not_mem_nil,or_false] at hq
 rcases hq with rfl|rfl <;> decide
theorem ej' {B : Nat} {w W : World} {g j : Nat} {v : Value} (h : Below B w W) (hg : B ≤ g) : Below B w (W.setCell ⟨g,j,none⟩ v):=h.setCell hg v
theorem On' {w0 W : World} {g : Nat} {N : Int} {Ae : Option Addr} {ce : Nat} {es : List (S73)} {col : Nat → Nat} {vy vn vl va vb : Value} {s : SI} (hS : Sol w0 W g N Ae ce es col vy vn vl va vb s) (hw : WFn s.nd) (hN : 0 ≤ N ∧ N ≤ s.nd.length ∧ N ≤ 1000) (hsz : s.nd.length ≤ 1000000) (hy : s.y.length ≤ 1000000) (gs : List (List Int × Int)) (hg : Gf' s.nd N (s.nd.length + 1) N [] = gs) (h20 : gs.length < 20) :
  Calls Tryz.prog 26 #[.pointer (some ⟨g,0,none⟩)] W fun e w'=>∃ b vY vG,e = .returned (.agg #[vY,vG]) ∧ W.heap.size ≤ b ∧ Kd.R (Kd.int .i64) 3 w' W.heap.size (fun k=>k < b) vY s.y ∧ Kd.S k80 80 w' b (fun _=>True) vG (bf' (gs.map mkG)) ∧ Below W.heap.size W w':=by
 have hu30:=Tryz.underlying30
 have hu80:=Tryz.underlying80
 have hu87:=Tryz.underlying87
 have hu89:=Tryz.underlying89
 have hu73:=Tryz.underlying73
 have hu35:=Tryz.underlying35
 have HS:=qz.mk hS
 clear hS
 have HW:=qz.mk hw
 have HN:=qz.mk hN
 have H0:=qz.mk hsz
 have HG:=qz.mk hg
 have HG20:=qz.mk h20
 have hc:=HS.o.cells
 clear hw hN hsz hg h20
 obtain ⟨Ay,cy,e_⟩:=Kd.R_slice HS.o.ry
 subst e_
 go_enter Tryz.func26,Tryz.ntmps26
 go_upto_region 1 with fail
 have BX1 : qz ((W.alloc (.cells #[.slice none 0 0,.slice none 0 0] 30)).heap[W.heap.size]? = some (.cells #[.slice none 0 0,.slice none 0 0] 30 (0,0))):=⟨yd' W _⟩
 have HB1 : qz (Below W.heap.size W (W.alloc (.cells #[.slice none 0 0,.slice none 0 0] 30))):=⟨qo (Below.refl _ _) _⟩
 generalize W.alloc (.cells #[.slice none 0 0,.slice none 0 0] 30) = W1 at *
 have HS1:=qz.mk (HS.o.to HB1.o)
 generalize hgr : W.heap.size = gr at BX1 ⊢
 have hc:=HS1.o.cells
 have HCP:=qz.mk (impl_copyInts.calls Ay cy s.y s.y W1 (Kd.R_reads' HS1.o.ry).2.2 (Kd.R_reads' HS1.o.ry).2.1 (by rw [impl_copyInts.f,if_pos (by show 0 + s.y.length < _;omega)];rfl))
 go_upto_region 2 with (first|(go_at_call 48;refine HCP.o.mono ?_;rintro e w2 ⟨vY,rfl,hY,hb⟩;obtain ⟨AY,cY,e_⟩:=Kd.R_slice hY;subst e_;have HY:=qz.mk hY;have HBC:=qz.mk hb;clear hY hb))
 have BX2 : qz ((w2.alloc (.cells #[.slice AY s.y.length cY,.slice none 0 0] 30)).heap[w2.heap.size]? = some (.cells #[.slice AY s.y.length cY,.slice none 0 0] 30 (0,0))):=⟨yd' w2 _⟩
 have HB2 : qz (Below w2.heap.size w2 (w2.alloc (.cells #[.slice AY s.y.length cY,.slice none 0 0] 30))):=⟨qo (Below.refl _ _) _⟩
 generalize w2.alloc (.cells #[.slice AY s.y.length cY,.slice none 0 0] 30) = W2 at *
 have HS2:=qz.mk (HS1.o.to HBC.o)
 generalize hgp : w2.heap.size = gp at BX2 ⊢
 have BB2 : qz (Below gp w2 W2):=⟨hgp ▸ HB2.o⟩
 have HGP : qz (w2.heap.size = gp):=⟨hgp⟩
 have HR1 : qz (w2.heap[gr]? = some (.cells #[.slice none 0 0,.slice none 0 0] 30 (0,0))):=⟨qx BX1.o HBC.o⟩
 have hc:=(HS2.o.to HB2.o).cells
 have HC0 : qz (Below W.heap.size W w2):=⟨qy HB1.o HBC.o⟩
 have HB1s : qz (W.heap.size ≤ W1.heap.size):=⟨HB1.o.size⟩
 clear HS HS1 HCP BX1 hgp HB1 HBC
 go_wp2_with fail
 go_loopg [4] (s.nd.length + 1) (fun kq v4 w'=>∃ (i : Int) (acc : List (List Int × Int)) (vG : Value),v4 = .int .i64 i ∧ qz (0 ≤ i ∧ (acc.length : Int) ≤ i ∧ ∀ p ∈ acc,p.1.length ≤ N.toNat) ∧ qz (Gf' s.nd N kq i acc = gs ∧ (s.nd.length : Int) < i + kq) ∧ qz (w'.heap[gp]? = some (.cells #[.slice AY s.y.length cY,vG] 30 (0,0))) ∧ qz (Kd.S k80 80 w' gp (fun _=>True) vG (acc.map mkG)) ∧ qz (Below gp w2 w'))
 case atStart=>exact ⟨N,[],.slice none 0 0,rfl,⟨HN.o.1,HN.o.1,ia'⟩,⟨HG.o,sa'⟩,BX2,⟨Kd.S_nil _ _ _ _ _⟩,BB2⟩
 clear HG hc BX2 BB2 HB2
 obtain ⟨i,acc,vG,rfl,HI,HG,BP,HO,HB⟩:=hrel
 have HBw : qz (Below w2.heap.size w2 wr):=⟨HGP.o ▸ HB.o⟩
 have HS1:=qz.mk (HS2.o.to HBw.o)
 have hc:=HS1.o.cells
 obtain ⟨h,hki⟩:=HG.o
 clear HG
 by_cases c : i < (s.nd.length : Int)
 ·cases gk with
  | zero =>
   exfalso
   omega
  | succ k1 =>
   rw [Gf',if_pos c] at h
   have hi0:=HI.o.1
   have HIL:=qz.mk c
   have HKI:=qz.mk hki
   have cl0 : decide (i < (s.nd.length : Int)) = true:=decide_eq_true c
   have hi1 : wrap64 (i + 1) = i + 1:=w64 aa' pa'
   obtain ⟨bn,cn,e_,-⟩:=fe' HS1.o.rn (by show 0 < s.nd.length;omega)
   have e_ : vn = .slice (some ⟨bn,0,none⟩) s.nd.length cn:=e_
   subst e_
   obtain ⟨A0n,c0n,A1n,c1n,nx0,nx1,nx2,nx3,nx4,nx5,nx6,nf2,nf3,nf5,nf6,-⟩:=HS1.o.node_at i hi0 c
   have pi:=eq_true hi0
   have qi:=eq_true c
   obtain ⟨X,hX⟩ : ∃ X,td' s.nd i = X:=⟨_,rfl⟩
   rw [hX] at nx0 nx1 nx2 nx3 nx4 nx5 nx6 h
   clear nx0 nx1 nx2 nx3 nx4 nf2 nf3 nf5 nf6 c hki
   cases c6 : X.f6 with
   | true =>
    rw [if_pos (.inl c6)] at h
    rw [c6] at nx6
    have HG:=qz.mk h
    clear h c6 hX
    go_wp2_with fail
    go_roundg k1
    case measure=>omega
    case rel=>exact ⟨i + 1,acc,vG,la',⟨aa',hc',HI.o.2.2⟩,⟨HG.o,Fa'⟩,BP,HO,HB⟩
   | false =>
    rw [c6] at nx6
    by_cases c5 : X.f5 ≤ 0
    ·rw [if_pos (.inr c5)] at h
     have cl5 : decide (X.f5 ≤ 0) = true:=decide_eq_true c5
     have HG:=qz.mk h
     clear h c6 hX c5
     go_wp2_with fail
     go_roundg k1
     case measure=>omega
     case rel=>exact ⟨i + 1,acc,vG,la',⟨aa',hc',HI.o.2.2⟩,⟨HG.o,Fa'⟩,BP,HO,HB⟩
    rw [if_neg gd'] at h
    have cl5 : decide (X.f5 ≤ 0) = false:=decide_eq_false c5
    have HG:=qz.mk h
    clear h c6 c5
    go_upto_region 7 with fail
    have BXX : qz ((wr.alloc (.cells #[.slice none 0 0,.int .i64 X.f5] 80)).heap[wr.heap.size]? = some (.cells #[.slice none 0 0,.int .i64 X.f5] 80 (0,0))):=⟨yd' wr _⟩
    have HBX : qz (Below wr.heap.size wr (wr.alloc (.cells #[.slice none 0 0,.int .i64 X.f5] 80))):=⟨qo (Below.refl _ _) _⟩
    generalize wr.alloc (.cells #[.slice none 0 0,.int .i64 X.f5] 80) = W3 at *
    have HS3:=qz.mk (HS1.o.to HBX.o)
    have hc:=HS3.o.cells
    have HOG : qz (Kd.S k80 80 wr gp (fun _=>True) vG (acc.map mkG)):=HO
    generalize hgx : wr.heap.size = gx at BXX ⊢
    have HGX : qz (wr.heap.size = gx):=⟨hgx⟩
    have HB3 : qz (Below gx wr W3):=⟨hgx ▸ HBX.o⟩
    obtain ⟨mem,hmem⟩ : ∃ m,ig' s.nd i N (N.toNat + 1) 0 [] = m:=⟨_,rfl⟩
    have HMM:=qz.mk hmem
    rw [hmem] at HG
    clear hgx HBX HO nx5 nx6 hX HB hc HS1
    generalize wr = W5 at *
    have hc:=HS3.o.cells
    go_wp2_with fail
    go_loopg [60] (N.toNat + 1) (fun kq v60 w'=>∃ (v : Nat) (l : List Int) (vM : Value),v60 = .int .i64 (v : Int) ∧ qz (v + kq = N.toNat + 1 ∧ v ≤ N.toNat ∧ l.length ≤ v) ∧ qz (ig' s.nd i N kq v l = mem) ∧ qz (w'.heap[gx]? = some (.cells #[vM,.int .i64 X.f5] 80 (0,0))) ∧ qz (Kd.R (Kd.int .i64) 3 w' gx (fun _=>True) vM l) ∧ qz (Below gx W5 w'))
    case atStart=>exact ⟨0,[],.slice none 0 0,rfl,⟨aa',aa',ia'⟩,HMM,BXX,⟨Kd.R_nil _ _ _ _ _⟩,HB3⟩
    clear HMM BXX HB3 hc
    obtain ⟨v,l,vM,rfl,HJ,HMM,BX,HM,HB4⟩:=hrel
    have HB5 : qz (Below W5.heap.size W5 wr):=⟨HGX.o.symm ▸ HB4.o⟩
    have HS4:=qz.mk (HS2.o.to (qy HBw.o HB5.o))
    have hc:=HS4.o.cells
    have h:=HMM.o
    clear HMM
    cases gk with
    | zero =>
     exfalso
     have h1:=HJ.o
     omega
    | succ k2 =>
     rw [ig'] at h
     by_cases c : (v : Int) < N
     ·rw [if_pos c] at h
      have HVL:=qz.mk c
      have cl1 : decide ((v : Int) < N) = true:=decide_eq_true c
      have hv1 : wrap64 ((v : Int) + 1) = ((v + 1 : Nat) : Int):=by rw [w64 aa' sa'];omega
      have HQ:=qz.mk (yh' HW.o i (v:=(v : Int)) (.inr ⟨aa',sa'⟩))
      clear c
      cases b : Ad' s.nd i v with
      | true =>
       rw [b,if_pos rfl] at h
       rw [b] at HQ
       have HMM:=qz.mk h
       clear h b
       obtain ⟨AM,cM,e_⟩:=Kd.R_slice HM.o
       subst e_
       have hb0 : wr.cell? ⟨gx,0,none⟩ = some (.slice AM l.length cM):=(qq BX.o 0).trans rfl
       go_wp2_with (first|(go_at_call 49;(with_reducible refine (Qg' HS4.o _ _ _ true HQ.o).mono ?_);rintro e w3 ⟨rfl,h2⟩;replace h2:=h2.symm;subst h2)|((with_reducible refine Ld' (b:=.append) (xs:=#[.tmp 68,.tmp 70]) rfl ?_);at_builtin;refine Kd.R_append (Kd.int .i64) (w0:=W5) gx rfl (.tmp 68) (.tmp 70) 27 3 (.int .i64 0) 8 rfl Tryz.underlying27 Ud' rfl ba' aa' (.slice AM l.length cM) l (v : Int) [.int .i64 (v : Int)] (fun _=>True) (fun _=>False) rfl rfl rfl (fun _ hk=>hk.elim) (fun _ _=>trivial) HM.o HB4.o (by have:=HB5.o.size;have:=HGX.o;omega) Ec' ?_;intro v7 w7 ho hb hg hat;obtain ⟨A7,c7,e_⟩:=Kd.R_slice ho;rw [List.length_append,List.length_singleton] at e_;subst e_;have BX7:=qz.mk (le' BX.o hg (Kd.R_ne HM.o BX.o ba'));have HM7:=qz.mk ho;have HB7:=qz.mk hb;have hb7 : w7.cell? ⟨gx,0,none⟩ = some (.slice AM l.length cM):=(qq BX7.o 0).trans rfl;have hf7 : w7.frozen? ⟨gx,0,none⟩ = false:=qu BX7.o 0;clear ho hb hg hat))
       go_roundg k2
       case measure=>omega
       case rel=>exact ⟨v + 1,l ++ [(v : Int)],_,ic',⟨Ja',Db',id'⟩,HMM,⟨jd'⟩,⟨Kd.R_set HM7.o BX7.o (by intro q hq;obtain rfl : q = 3:=List.mem_singleton.1 hq;decide) _ _⟩,⟨ej' HB7.o (Nat.le_refl _)⟩⟩
      | false =>
       rw [b,if_neg ba'] at h
       rw [b] at HQ
       have HMM:=qz.mk h
       clear h b
       go_wp2_with (first|(go_at_call 49;(with_reducible refine (Qg' HS4.o _ _ _ false HQ.o).mono ?_);rintro e w3 ⟨rfl,h2⟩;replace h2:=h2.symm;subst h2))
       go_roundg k2
       case measure=>omega
       case rel=>exact ⟨v + 1,l,vM,ic',⟨Ja',Db',Ja'⟩,HMM,BX,HM,HB4⟩
     rw [if_neg c] at h
     have cl1 : decide ((v : Int) < N) = false:=decide_eq_false c
     subst h
     clear c
     obtain ⟨AM,cM,e_⟩:=Kd.R_slice HM.o
     subst e_
     obtain ⟨AG,cG,e_⟩:=Kd.S_slice HOG.o
     rw [List.length_map] at e_
     subst e_
     have hb0 : wr.cell? ⟨gx,0,none⟩ = some (.slice AM l.length cM):=(qq BX.o 0).trans rfl
     have hb1 : wr.cell? ⟨gx,1,none⟩ = some (.int .i64 X.f5):=(qq BX.o 1).trans rfl
     have BP6:=qz.mk (qx BP.o HB5.o)
     have hp1 : wr.cell? ⟨gp,1,none⟩ = some (.slice AG acc.length cG):=(qq BP6.o 1).trans rfl
     have HLE : qz (gp ≤ gx):=⟨by have:=HBw.o.size;have:=HGP.o;have:=HGX.o;omega⟩
     have HB6 : qz (Below gp w2 wr):=⟨HGP.o ▸ qy HBw.o HB5.o⟩
     go_wp2_with (first|((with_reducible refine Ld' (b:=.append) (xs:=#[.tmp 75,.tmp 77]) rfl ?_);at_builtin;refine Kd.S_append k80 (w0:=w2) (W:=wr) gp rfl (.tmp 75) (.tmp 77) 28 80 (.agg #[.slice none 0 0,.int .i64 0]) 32 rfl Tryz.underlying28 Ek' rfl ba' aa' (.slice AG acc.length cG) (acc.map mkG) (⟨l,X.f5⟩ : S80) [.slice AM l.length cM,.int .i64 X.f5] (fun _=>True) (fun k=>gx ≤ k) rfl rfl (Un' wr gp (fun k=>gx ≤ k) (⟨l,X.f5⟩ : S80) (Kd.R_lower (Kd.R_mono (Kd.R_bound HM.o) (fun k hk=>hk.2.1)) HLE.o)) (fun k hk=>⟨trivial,fun e=>by have:=Kd.S_lt HOG.o k e.symm;have:=HGX.o;omega⟩) (fun _ _=>trivial) (Kd.S_mono (Kd.S_old HOG.o HB5.o) (fun k hk=>⟨trivial,by have:=hk.2;have:=HGX.o;omega⟩)) HB6.o (by have:=HB5.o.size;have:=HGX.o;have:=HLE.o;omega) (by rw [List.length_map];have:=HI.o.2.1;have:=H0.o;have:=HIL.o;omega) ?_;intro v8 w8 ho hb hg hat;obtain ⟨A8,c8,e_⟩:=Kd.S_slice ho;subst e_;have BP8:=qz.mk (le' BP6.o hg (Kd.S_ne (Kd.S_below HOG.o HB5.o) BP6.o ba'));have HO8:=qz.mk ho;have HB8:=qz.mk hb;have hb8 : w8.cell? ⟨gp,1,none⟩ = some (.slice AG acc.length cG):=(qq BP8.o 1).trans rfl;have hf8 : w8.frozen? ⟨gp,1,none⟩ = false:=qu BP8.o 1;clear ho hb hg hat))
     go_roundg k1
     case measure=>omega
     case rel=>exact ⟨i + 1,acc ++ [(l,X.f5)],.slice A8 (acc.map mkG ++ [(⟨l,X.f5⟩ : S80)]).length c8,la',⟨aa',by have:=HI.o.2.1;rw [List.length_append,List.length_singleton];omega,fun p hp=>(List.mem_append.1 hp).elim (HI.o.2.2 p) (fun h=>by rw [List.mem_singleton.1 h];have:=HJ.o;show l.length ≤ _;omega)⟩,⟨HG.o,Fa'⟩,⟨by have:=be' BP8.o 1 (.slice A8 (acc.map mkG ++ [(⟨l,X.f5⟩ : S80)]).length c8);simpa using this⟩,⟨by rw [List.map_append];exact Kd.S_set HO8.o BP8.o Ij' _ _⟩,⟨ej' HB8.o (Nat.le_refl _)⟩⟩
 have hacc : acc = gs:=by
  cases gk with
  | zero=>exact h
  | succ k1=>rw [Gf',if_neg c] at h;exact h
 subst hacc
 have cl0 : decide (i < (s.nd.length : Int)) = false:=decide_eq_false c
 have hp1 : wr.cell? ⟨gp,1,none⟩ = some vG:=(qq BP.o 1).trans rfl
 have HSC:=qz.mk (Ro' HO.o (by rw [List.length_map];exact HG20.o) (by have:=HB.o.size;have:=HGP.o;omega) hp1 (Kd.S_ne HO.o BP.o ba') (by
  intro x hx
  obtain ⟨p,hp,rfl⟩:=List.mem_map.1 hx
  have:=HI.o.2.2 p hp
  have:=HN.o
  show p.1.length < _
  omega))
 obtain ⟨AG,cG,e_⟩:=Kd.S_slice HO.o
 rw [List.length_map] at e_
 subst e_
 obtain ⟨An,cn,e_⟩:=Kd.R_slice HS1.o.rn
 have e_ : vn = .slice An s.nd.length cn:=e_
 subst e_
 clear c h hki
 go_wp2_with (first|(go_at_call 50;refine HSC.o.mono ?_;rintro e w3 ⟨rfl,hs3,hk3,hb3⟩;have HS8:=qz.mk hs3;have HB8:=qz.mk (hb3 gp (Nat.le_refl _));have BP8:=qz.mk (Xf' BP.o hk3 (Kd.S_ne HO.o BP.o ba'));have BR8:=qz.mk (Xf' (qx HR1.o HBw.o) hk3 (Kd.S_ne HO.o (qx HR1.o HBw.o) ba'));have hp2 : w3.cell? ⟨gp,0,none⟩ = some (.slice AY s.y.length cY):=(qq BP8.o 0).trans rfl;have hp3 : w3.cell? ⟨gp,1,none⟩ = some (.slice AG acc.length cG):=(qq BP8.o 1).trans rfl;have hr2 : w3.cell? ⟨gr,0,none⟩ = some (.slice none 0 0):=(qq BR8.o 0).trans rfl;have hr3 : w3.cell? ⟨gr,1,none⟩ = some (.slice none 0 0):=(qq BR8.o 1).trans rfl;have fr2 : w3.frozen? ⟨gr,0,none⟩ = false:=qu BR8.o 0;have fr3 : w3.frozen? ⟨gr,1,none⟩ = false:=qu BR8.o 1;clear hs3 hk3 hb3))
 have BR9 : qz (((w3.setCell ⟨gr,0,none⟩ (.slice AY s.y.length cY)).setCell ⟨gr,1,none⟩ (.slice AG acc.length cG)).heap[gr]? = some (.cells #[.slice AY s.y.length cY,.slice AG acc.length cG] 30 (0,0))):=⟨by simpa using be' (be' BR8.o 0 (.slice AY s.y.length cY)) 1 (.slice AG acc.length cG)⟩
 have t30_3 : ∀ q,q ∈ 3 :: (Kd.int .i64).E → q ≠ 30:=by intro q hq;obtain rfl : q = 3:=List.mem_singleton.1 hq;decide
 have HR9:=qz.mk (be' BR8.o 0 (.slice AY s.y.length cY))
 have HY3 : qz (Kd.R (Kd.int .i64) 3 w3 W1.heap.size (fun k=>k < gp) (.slice AY s.y.length cY) s.y):=⟨Kd.R_below (Kd.R_mono (Kd.R_bound HY.o) (fun k hk=>by have:=hk.2.2.1;have:=HGP.o;omega)) (HBw.o.trans (HGP.o ▸ HB8.o))⟩
 have HY9:=qz.mk (Kd.R_set (Kd.R_set HY3.o BR8.o t30_3 0 (.slice AY s.y.length cY)) HR9.o t30_3 1 (.slice AG acc.length cG))
 have HG9:=qz.mk (Kd.S_set (Kd.S_set HS8.o BR8.o Ij' 0 (.slice AY s.y.length cY)) HR9.o Ij' 1 (.slice AG acc.length cG))
 have HLE : qz (W.heap.size ≤ gr ∧ W.heap.size ≤ gp ∧ W.heap.size ≤ W1.heap.size):=⟨by have:=HC0.o.size;have h1:=hgr;have h2:=HGP.o;have h3:=HB1s.o;omega⟩
 have HBF : qz (Below W.heap.size W ((w3.setCell ⟨gr,0,none⟩ (.slice AY s.y.length cY)).setCell ⟨gr,1,none⟩ (.slice AG acc.length cG))):=⟨qp (qp ((HC0.o.trans (HBw.o.mono (HGP.o ▸ HLE.o.2.1))).trans (HB8.o.mono HLE.o.2.1)) HLE.o.1) HLE.o.1⟩
 generalize (w3.setCell ⟨gr,0,none⟩ (.slice AY s.y.length cY)).setCell ⟨gr,1,none⟩ (.slice AG acc.length cG) = w9 at *
 try simp only [Exit.inBlock,Exit.then]
 refine bodyPost_ret (il' rfl (.cell gr 30 #[.slice AY s.y.length cY,.slice AG acc.length cG] (0,0) _ rfl BR9.o hu30 rfl da' .nil)) rfl ?_
 exact ⟨gp,_,_,rfl,HLE.o.2.1,Kd.R_lower HY9.o HLE.o.2.2,HG9.o,HBF.o⟩
end Go.Proofs.YtnffimpoekjkpaaGreat.QFnExactSolve
