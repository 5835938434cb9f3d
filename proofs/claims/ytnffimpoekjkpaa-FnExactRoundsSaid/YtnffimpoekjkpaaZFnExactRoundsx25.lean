/- The program's solver: way, flip. -/
import Derived.Test.YtnffimpoekjkpaaZFnExactRoundsx24
namespace Go.Proofs.Ytnffimpoekjkpaa.QFnExactRounds
open Go.RowKit Go.Proofs.YtnffimpoekjkpaaW.PrintWords Go.Proofs.YtnffimpoekjkpaaW.PrintLast Go.Proofs.YtnffimpoekjkpaaW.PrintMore
attribute [local go_sem] max2_int min2_int max_two min_two max_three min_three max_four min_four
set_option linter.unusedVariables false
set_option linter.unusedSimpArgs false
section
variable {w0 W : World} {g : Nat} {N : Int} {Ae : Option Addr} {ce : Nat} {es : List (S51)} {col : Nat → Nat} {vy vn vl va vb : Value} {s : SI}
theorem add_blk (b k : Nat) : (⟨b,0,none⟩ : Addr).add k = ⟨b,k,none⟩:=by
 unfold Addr.add
 split
 ·rename_i h
  subst h
  rfl
 simp
/-- A row of numbers at its block: what stands there, and that it may be stored to. -/
theorem int_at {W : World} {base b n c : Nat} {ok : Nat → Prop} {xs : List Int} (h : Kd.R (Kd.int .i64) 3 W base ok (.slice (some ⟨b,0,none⟩) n c) xs) (i : Int) (h0 : 0 ≤ i) (h1 : i < (xs.length : Int)) :
  W.cell? ⟨b,i.toNat,none⟩ = some (.int .i64 (rd xs i)) ∧ W.frozen? ⟨b,i.toNat,none⟩ = false:=by
 have hn:=(Kd.R_reads' h).1
 obtain ⟨ad,e,hx⟩:=Kd.at_int (Kd.R_reads' h).2.2 i h0 (by omega)
 obtain rfl:=Option.some.inj e
 obtain ⟨ds,hd⟩:=row_blk h
 refine ⟨?_,qs hd _⟩
 simpa only [add_blk] using hx
/-- A node at its block. -/
theorem Sol.node_at {b c n : Nat} (h : Sol w0 W g N Ae ce es col vy (.slice (some ⟨b,0,none⟩) n c) vl va vb s) (i : Int) (h0 : 0 ≤ i) (h1 : i < (s.nd.length : Int)) :
  ∃ A0 c0 A1 c1,W.cell? ⟨b,i.toNat * 7,none⟩ = some (.slice A0 (rd_T60 s.nd i).f0.length c0) ∧ W.cell? ⟨b,i.toNat * 7 + 1,none⟩ = some (.slice A1 (rd_T60 s.nd i).f1.length c1) ∧ W.cell? ⟨b,i.toNat * 7 + 2,none⟩ = some (.int .i64 (rd_T60 s.nd i).f2) ∧ W.cell? ⟨b,i.toNat * 7 + 3,none⟩ = some (.int .i64 (rd_T60 s.nd i).f3) ∧ W.cell? ⟨b,i.toNat * 7 + 4,none⟩ = some (.int .i64 (rd_T60 s.nd i).f4) ∧ W.cell? ⟨b,i.toNat * 7 + 5,none⟩ = some (.int .i64 (rd_T60 s.nd i).f5) ∧ W.cell? ⟨b,i.toNat * 7 + 6,none⟩ = some (.bool (rd_T60 s.nd i).f6) ∧ W.frozen? ⟨b,i.toNat * 7 + 2,none⟩ = false ∧ W.frozen? ⟨b,i.toNat * 7 + 3,none⟩ = false ∧ W.frozen? ⟨b,i.toNat * 7 + 5,none⟩ = false ∧ W.frozen? ⟨b,i.toNat * 7 + 6,none⟩ = false ∧
   (rd_T60 s.nd i).f0.length ≤ c0 ∧ Kd.C (Kd.int .i64) W A0 (rd_T60 s.nd i).f0.length (rd_T60 s.nd i).f0 ∧ (rd_T60 s.nd i).f1.length ≤ c1 ∧ Kd.C (Kd.int .i64) W A1 (rd_T60 s.nd i).f1.length (rd_T60 s.nd i).f1:=by
 have hn:=(Kd.R_reads' h.rn).1
 obtain ⟨ad,A0,c0,A1,c1,e,x0,x1,x2,x3,x4,x5,x6,q0,k0,q1,k1⟩:=at_T60 (Kd.R_reads' h.rn).2.2 i h0 (by omega)
 obtain rfl:=Option.some.inj e
 obtain ⟨ds,hd⟩:=row_blk h.rn
 refine ⟨A0,c0,A1,c1,?_,?_,?_,?_,?_,?_,?_,qs hd _,qs hd _,qs hd _,qs hd _,q0,k0,q1,k1⟩
 ·simpa only [add_blk] using x0
 ·simpa only [add_blk] using x1
 ·simpa only [add_blk] using x2
 ·simpa only [add_blk] using x3
 ·simpa only [add_blk] using x4
 ·simpa only [add_blk] using x5
 simpa only [add_blk] using x6
end
def wayF (ah : List Int) : Nat → Int → Option (List Int)
 | 0,_=>none
 | k + 1,n=>if n = -1 then some [] else if inR n ah.length then (wayF ah k (rd ah n)).map (n :: ·) else none
set_option maxHeartbeats 8000000 in
set_option maxRecDepth 100000 in
theorem way_calls {w0 W : World} {g : Nat} {N : Int} {Ae : Option Addr} {ce : Nat} {es : List (S51)} {col : Nat → Nat} {vy vn vl va vb : Value} {s : SI} (hS : Sol w0 W g N Ae ce es col vy vn vl va vb s) (k : Nat) (hk : k ≤ 1000000) (n : Int) (l : List Int) (h : wayF s.ah k n = some l) :
  Calls Try.prog 55 #[.pointer (some ⟨g,0,none⟩),.int .i64 n] W fun e w'=>∃ v,e = .returned v ∧ Kd.R (Kd.int .i64) 3 w' W.heap.size (fun _=>True) v l ∧ Below W.heap.size W w':=by
 have hu47:=Try.underlying47
 have hu60:=Try.underlying60
 have hu51:=Try.underlying51
 have hu29:=Try.underlying29
 have HS:=qy.mk hS
 clear hS
 have hu35:=Try.underlying35
 have HT:=qy.mk h
 have HK:=qy.mk hk
 clear h hk
 obtain ⟨Aa,ca,e_⟩:=Kd.R_slice HS.out.ra
 subst e_
 go_enter Try.func55,Try.ntmps55
 go_wp2_with fail
 go_loopg [1,5] k (fun kq v1 v5 w'=>∃ (n : Int) (acc rest : List Int),v1 = .int .i64 n ∧ qy (Kd.R (Kd.int .i64) 3 w' W.heap.size (fun _=>True) v5 acc) ∧ qy (wayF s.ah kq n = some rest) ∧ qy (acc ++ rest = l ∧ acc.length + kq = k) ∧ qy (Below W.heap.size W w'))
 case atStart=>exact ⟨n,[],l,rfl,⟨Kd.R_nil _ _ _ _ _⟩,HT,⟨rfl,by simp⟩,⟨Below.refl _ _⟩⟩
 clear HT
 obtain ⟨n,acc,rest,rfl,HO,HT,HL,HB⟩:=hrel
 have HS1:=qy.mk (HS.out.to HB.out)
 have h:=HT.out
 clear HT
 obtain _|k1:=gk
 ·cases h
 rw [wayF] at h
 by_cases cn : n = -1
 ·rw [if_pos cn] at h
  obtain rfl:=Option.some.inj h
  have cb : (n != -1) = false:=by simpa using cn
  have hl:=HL.out.1
  rw [List.append_nil] at hl
  subst hl
  clear cn h
  go_wp2_with fail
  go_ret
  exact ⟨_,rfl,HO.out,HB.out⟩
 rw [if_neg cn] at h
 have cb : (n != -1) = true:=by simpa using cn
 clear cn
 by_cases c : inR n s.ah.length
 ·rw [if_pos c] at h
  obtain ⟨rest1,h1,rfl⟩:=Option.map_eq_some_iff.mp h
  have HT:=qy.mk h1
  clear h h1
  obtain ⟨p,q⟩:=c
  obtain ⟨ada,e_,-⟩:=Kd.at_int (Kd.R_reads' HS1.out.ra).2.2 n p q
  subst e_
  replace p:=eq_true p
  replace q:=eq_true q
  go_wp2_with (first|((with_reducible refine gate_builtin (b:=.append) (xs:=#[.tmp 15,.tmp 17]) rfl ?_);at_builtin;refine Kd.R_append (Kd.int .i64) (w0:=W) W.heap.size rfl (.tmp 15) (.tmp 17) 35 3 (.int .i64 0) 8 rfl Try.underlying35 info3 rfl (by decide) (by omega) u5 acc n [.int .i64 n] (fun _=>True) (fun _=>False) rfl rfl ?aP (fun _ hk=>hk.elim) ?aF ?aO ?aB ?aS ?aL ?_;(case aP=>exact rfl);(case aF=>exact (fun _ _=>trivial));(case aO=>exact (by (with_reducible repeat (first|apply Kd.R_alloc|apply Kd.R_drewN|apply Kd.R_drew));exact HO.out));(case aB=>exact (by repeat (first|exact HB.out|apply qo|apply qd|apply qh)));(case aS=>exact qu (by repeat (first|exact HB.out|apply qo|apply qd|apply qh)));(case aL=>have:=HL.out.2;have:=HK.out;omega);intro v7 w7 ho hb hg hat;clear HO HB;have HO:=qy.mk ho;have HB:=qy.mk hb;clear ho hb hg hat HS1;have HS1:=qy.mk (HS.out.to HB.out);have hc:=HS1.out.cells;obtain ⟨_,e1_,hxa⟩:=Kd.at_int (Kd.R_reads' HS1.out.ra).2.2 n (of_eq_true p) (of_eq_true q);obtain rfl:=Option.some.inj e1_))
  go_roundg k1
  case measure=>omega
  case rel=>exact ⟨_,_,rest1,rfl,HO,HT,⟨by rw [List.append_assoc];exact HL.out.1,by have:=HL.out.2;rw [List.length_append,List.length_singleton];omega⟩,HB⟩
 rw [if_neg c] at h
 cases h
/-- A node with another mate edge. -/
def mateAt (nd : List (S60)) (n e : Int) : List (S60):=nd.set n.toNat { rd_T60 nd n with f3:=e }
def flipF (ah bk : List Int) : Nat → Int → Int → List (S60) → Option (List (S60))
 | 0,_,_,_=>none
 | k + 1,n,e,nd =>
  if n = -1 then some nd
  else if inR n nd.length ∧ inR n ah.length then
   if rd ah n = -1 then some (mateAt nd n e)
   else if inR (rd ah n) nd.length ∧ inR (rd ah n) ah.length ∧ inR (rd ah n) bk.length then
    flipF ah bk k (rd ah (rd ah n)) (rd bk (rd ah n)) (mateAt (mateAt nd n e) (rd ah n) (rd bk (rd ah n)))
   else none
  else none
set_option maxHeartbeats 8000000 in
set_option maxRecDepth 100000 in
theorem flip_calls {w0 W : World} {g : Nat} {N : Int} {Ae : Option Addr} {ce : Nat} {es : List (S51)} {col : Nat → Nat} {vy vn vl va vb : Value} {s : SI} (hS : Sol w0 W g N Ae ce es col vy vn vl va vb s) (k : Nat) (n e : Int) (nd' : List (S60)) (hn : 0 < s.nd.length) (h : flipF s.ah s.bk k n e s.nd = some nd') :
  Calls Try.prog 37 #[.pointer (some ⟨g,0,none⟩),.int .i64 n,.int .i64 e] W fun r w'=>r = .returned (.tuple #[]) ∧ nd'.length = s.nd.length ∧ Sol w0 w' g N Ae ce es col vy vn vl va vb { s with nd:=nd' }:=by
 have hz:=Try.underlying47
 have hu47:=Try.underlying47
 have hu60:=Try.underlying60
 have hu51:=Try.underlying51
 have hu29:=Try.underlying29
 have HS:=qy.mk hS
 clear hS
 obtain ⟨bn,cn,e_,-⟩:=row_at HS.out.rn hn
 subst e_
 have HT:=qy.mk h
 clear h
 obtain ⟨Aa,ca,e_⟩:=Kd.R_slice HS.out.ra
 subst e_
 obtain ⟨Ab,cbk,e_⟩:=Kd.R_slice HS.out.rb
 subst e_
 go_enter Try.func37,Try.ntmps37
 go_wp2_with fail
 go_loopg [1,2] k (fun kq v1 v2 w'=>∃ (n e : Int) (nd : List (S60)),v1 = .int .i64 n ∧ v2 = .int .i64 e ∧ qy (flipF s.ah s.bk kq n e nd = some nd') ∧ qy (nd.length = s.nd.length) ∧ qy (Sol w0 w' g N Ae ce es col vy (.slice (some ⟨bn,0,none⟩) s.nd.length cn) vl (.slice Aa s.ah.length ca) (.slice Ab s.bk.length cbk) { s with nd:=nd }))
 case atStart=>exact ⟨n,e,s.nd,rfl,rfl,HT,⟨rfl⟩,HS⟩
 clear HT HS
 obtain ⟨n,e,nd,rfl,rfl,HT,HL,HS⟩:=hrel
 have h:=HT.out
 clear HT
 have hc:=HS.out.cells
 obtain _|k1:=gk
 ·cases h
 rw [flipF] at h
 by_cases c1 : n = -1
 ·rw [if_pos c1] at h
  obtain rfl:=Option.some.inj h
  have cb : (n != -1) = false:=by simpa using c1
  clear c1 h
  go_wp2_with fail
  go_end0
  exact ⟨rfl,HL.out,HS.out⟩
 rw [if_neg c1] at h
 have cb : (n != -1) = true:=by simpa using c1
 clear c1
 by_cases c2 : inR n nd.length ∧ inR n s.ah.length
 ·rw [if_pos c2] at h
  obtain ⟨⟨p,q⟩,⟨p',q'⟩⟩:=c2
  obtain ⟨A0n,c0n,A1n,c1n,nx0,nx1,nx2,nx3,nx4,nx5,nx6,nf2,nf3,nf5,nf6,-⟩:=HS.out.node_at n p q
  have HS2:=qy.mk (HS.out.sn n p q 3 (.int .i64 e) { rd_T60 nd n with f3:=e } (by decide) (fun _ _=>rfl) ⟨rfl,rfl⟩)
  replace p:=eq_true p
  rw [HL.out] at q
  replace q:=eq_true q
  go_upto_region 2 with fail
  clear nx0 nx1 nx2 nx3 nx4 nx5 nx6 nf2 nf3 nf5 nf6 hc HS
  generalize wr.setCell _ _ = W2 at HS2 ⊢
  have hc:=HS2.out.cells
  obtain ⟨ada,e_,ha1⟩:=Kd.at_int (Kd.R_reads' HS2.out.ra).2.2 n p' q'
  subst e_
  replace p':=eq_true p'
  replace q':=eq_true q'
  by_cases c3 : rd s.ah n = -1
  ·rw [if_pos c3] at h
   obtain rfl:=Option.some.inj h
   have cb : (rd s.ah n == -1) = true:=by simpa using c3
   clear c3 h
   go_wp2_with fail
   (try simp only [Exit.inBlock,Exit.then])
   refine bodyPost_ret (results_none rfl _ _ _) rfl ?_
   exact ⟨rfl,by rw [mateAt,List.length_set];exact HL.out,HS2.out⟩
  rw [if_neg c3] at h
  have cb : (rd s.ah n == -1) = false:=by simpa using c3
  clear c3
  by_cases c4 : inR (rd s.ah n) nd.length ∧ inR (rd s.ah n) s.ah.length ∧ inR (rd s.ah n) s.bk.length
  ·rw [if_pos c4] at h
   have HT:=qy.mk h
   clear h
   obtain ⟨⟨p1,q1⟩,⟨p2,q2⟩,⟨p3,q3⟩⟩:=c4
   obtain ⟨adb,e_,hb1⟩:=Kd.at_int (Kd.R_reads' HS2.out.rb).2.2 _ p3 q3
   subst e_
   have HL2 : qy ((mateAt nd n e).length = s.nd.length):=⟨by rw [mateAt,List.length_set];exact HL.out⟩
   have q1' : rd s.ah n < ((mateAt nd n e).length : Int):=by rw [HL2.out,← HL.out];exact q1
   obtain ⟨A0n,c0n,A1n,c1n,nx0,nx1,nx2,nx3,nx4,nx5,nx6,nf2,nf3,nf5,nf6,-⟩:=HS2.out.node_at (rd s.ah n) p1 q1'
   have HS3:=qy.mk (HS2.out.sn (rd s.ah n) p1 q1' 3 (.int .i64 (rd s.bk (rd s.ah n))) { rd_T60 (mateAt nd n e) (rd s.ah n) with f3:=rd s.bk (rd s.ah n) } (by decide) (fun _ _=>rfl) ⟨rfl,rfl⟩)
   rw [HL.out] at q1
   clear q1'
   replace p1:=eq_true p1
   replace q1:=eq_true q1
   have p2':=eq_true p2
   have q2':=eq_true q2
   replace p3:=eq_true p3
   replace q3:=eq_true q3
   go_upto_region 6 with fail
   clear nx0 nx1 nx2 nx3 nx4 nx5 nx6 nf2 nf3 nf5 nf6 hc HS2 ha1 hb1
   generalize W2.setCell _ _ = W3 at HS3 ⊢
   have hc:=HS3.out.cells
   obtain ⟨_,e_,ha2⟩:=Kd.at_int (Kd.R_reads' HS3.out.ra).2.2 (rd s.ah n) p2 q2
   obtain rfl:=Option.some.inj e_
   go_wp2_with fail
   go_roundg k1
   case measure=>omega
   case rel=>exact ⟨_,_,_,rfl,rfl,HT,⟨by rw [mateAt,List.length_set];exact HL2.out⟩,HS3⟩
  rw [if_neg c4] at h
  cases h
 rw [if_neg c2] at h
 cases h
end Go.Proofs.Ytnffimpoekjkpaa.QFnExactRounds
