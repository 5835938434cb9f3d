import Derived.Test.YtnffimpoekjkpaaGreatZFnExactSolvex58
set_option linter.all false
namespace Go.Proofs.YtnffimpoekjkpaaGreat.QFnExactSolve
open Go.RowKit Go.Proofs.YtnffimpoekjkpaaGreatW.PrintWords Go.Proofs.YtnffimpoekjkpaaGreatW.PrintLast Go.Proofs.YtnffimpoekjkpaaGreatW.PrintMore
section
variable {w0 W w1 : World} {g : Nat} {N : Int} {Ae : Option Addr} {ce : Nat} {es : List (S73)} {col col' : Nat → Nat} {vy vn vm : Value} {s : RI} {row : Option Nat}
abbrev RnF (w0 W : World) (g : Nat) (N : Int) (Ae : Option Addr) (ce : Nat) (es : List (S73)) (col : Nat → Nat) (vy vn vm : Value) (s : RI) : Prop:=Rn w0 W (fun _=>False) w0 g N Ae ce es col vy vn vm s
theorem Rn.grown (h : RnF w0 W g N Ae ce es col vy vn vm s) (hb : Below w0.heap.size w0 w1) (hg : W.grownBy w1 row) (hne : some g ≠ row) (hc : ∀ k,row = some k → 4 ≤ col k) : RnF w0 w1 g N Ae ce es col vy vn vm s:=by
 have hn : ∀ {c : Nat},c < 4 → ∀ k,col k = c → some k ≠ row:=fun hl k hk e=>by have:=hc k e.symm;omega
 exact ⟨le' h.blk hg hne,h.ge,hb,h.he,h.hec,Kd.R_grown h.ry hg (hn ba'),Kd.R_grown h.rn hg (hn ba'),Kd.R_grown h.rm hg (hn ba'),fun _ h=>h.elim⟩
theorem Rn.mono (h : RnF w0 W g N Ae ce es col vy vn vm s) (hc : ∀ k,col k < 4 → col' k = col k) : RnF w0 W g N Ae ce es col' vy vn vm s:=by
 have hn : ∀ {c : Nat},c < 4 → ∀ k,col k = c → col' k = c:=fun hl k hk=>by rw [hc k aa'];exact hk
 exact ⟨h.blk,h.ge,h.hb,h.he,h.hec,Kd.R_mono h.ry (hn ba'),Kd.R_mono h.rn (hn ba'),Kd.R_mono h.rm (hn ba'),fun _ h=>h.elim⟩
end
structure Sh (w0 W : World) (g : Nat) (N : Int) (Ae : Option Addr) (ce : Nat) (es : List (S73)) (col : Nat → Nat) (vy vn vm : Value) (s : RI) (gt : Nat) (vl va vr : Value) (t : TI) (ge : Nat) (X : S73) (v8 v9 v10 v11 v12 : Value) (ws us ring : List Int) (lk inn : List S56) : Prop where
 S : RnF w0 W g N Ae ce es col vy vn vm s
 T : Tp W w0.heap.size gt col vl va vr t
 be : W.heap[ge]? = some (.cells #[.int .i64 X.f0,.int .i64 X.f1,.int .i64 X.f2,.int .i64 X.f3,.int .i64 X.f4] 73 (0,0))
 r8 : Kd.R (Kd.int .i64) 3 W w0.heap.size (fun k=>col k = 8) v8 ws
 r9 : Kd.R (Kd.int .i64) 3 W w0.heap.size (fun k=>col k = 9) v9 us
 r10 : Kd.R (Kd.int .i64) 3 W w0.heap.size (fun k=>col k = 10) v10 ring
 r11 : Kd.R k56 56 W w0.heap.size (fun k=>col k = 11) v11 lk
 r12 : Kd.R k56 56 W w0.heap.size (fun k=>col k = 12) v12 inn
section
variable {w0 W w1 : World} {g : Nat} {N : Int} {Ae : Option Addr} {ce : Nat} {es : List (S73)} {col col' : Nat → Nat} {vy vn vm : Value} {s : RI} {gt : Nat} {vl va vr : Value} {t : TI} {ge : Nat} {X : S73} {v8 v9 v10 v11 v12 v : Value} {ws us ring l : List Int} {lk inn m : List S56}
theorem Sh.to (h : Sh w0 W g N Ae ce es col vy vn vm s gt vl va vr t ge X v8 v9 v10 v11 v12 ws us ring lk inn) (hb : Below W.heap.size W w1) : Sh w0 w1 g N Ae ce es col vy vn vm s gt vl va vr t ge X v8 v9 v10 v11 v12 ws us ring lk inn :=
 ⟨h.S.to hb,h.T.to hb,qx h.be hb,Kd.R_below h.r8 hb,Kd.R_below h.r9 hb,Kd.R_below h.r10 hb,Kd.R_below h.r11 hb,Kd.R_below h.r12 hb⟩
theorem Sh.recol (h : Sh w0 W g N Ae ce es col vy vn vm s gt vl va vr t ge X v8 v9 v10 v11 v12 ws us ring lk inn) (hc : ∀ k,k < W.heap.size → col' k = col k) : Sh w0 W g N Ae ce es col' vy vn vm s gt vl va vr t ge X v8 v9 v10 v11 v12 ws us ring lk inn :=
 ⟨h.S.recol hc,h.T.recol hc,h.be,ve' h.r8 hc,ve' h.r9 hc,ve' h.r10 hc,ve' h.r11 hc,ve' h.r12 hc⟩
theorem Sh.ahead (h : Sh w0 W g N Ae ce es col vy vn vm s gt vl va vr t ge X v8 v9 v10 v11 v12 ws us ring lk inn) (c : Nat) : Sh w0 W g N Ae ce es (fun k=>if W.heap.size ≤ k then c else col k) vy vn vm s gt vl va vr t ge X v8 v9 v10 v11 v12 ws us ring lk inn :=
 h.recol fun k hk=>by rw [if_neg aa']
theorem Sh.g10 (h : Sh w0 W g N Ae ce es col vy vn vm s gt vl va vr t ge X v8 v9 v10 v11 v12 ws us ring lk inn) (ho : Kd.R (Kd.int .i64) 3 w1 w0.heap.size (fun k=>col k = 10) v l) (hb : Below w0.heap.size w0 w1) (hg : W.grownBy w1 v10.ownBlock) : Sh w0 w1 g N Ae ce es col vy vn vm s gt vl va vr t ge X v8 v9 v v11 v12 ws us l lk inn:=by
 have hr : ∀ k,v10.ownBlock = some k → col k = 10:=fun k e=>h.r10.1 k e
 have hne : ∀ {c : Nat},c ≠ 10 → ∀ k,col k = c → some k ≠ v10.ownBlock:=fun hc k hk e=>hc tc'
 exact ⟨h.S.grown hb hg (Kd.R_ne h.r10 h.S.blk ba') (fun k e=>by have:=hr k e;omega),h.T.grown hg (fun k e=>by have:=hr k e;omega),le' h.be hg (Kd.R_ne h.r10 h.be ba'),Kd.R_grown h.r8 hg (hne ba'),Kd.R_grown h.r9 hg (hne ba'),ho,Kd.R_grown h.r11 hg (hne ba'),Kd.R_grown h.r12 hg (hne ba')⟩
theorem Sh.g11 (h : Sh w0 W g N Ae ce es col vy vn vm s gt vl va vr t ge X v8 v9 v10 v11 v12 ws us ring lk inn) (ho : Kd.R k56 56 w1 w0.heap.size (fun k=>col k = 11) v m) (hb : Below w0.heap.size w0 w1) (hg : W.grownBy w1 v11.ownBlock) : Sh w0 w1 g N Ae ce es col vy vn vm s gt vl va vr t ge X v8 v9 v10 v v12 ws us ring m inn:=by
 have hr : ∀ k,v11.ownBlock = some k → col k = 11:=fun k e=>h.r11.1 k e
 have hne : ∀ {c : Nat},c ≠ 11 → ∀ k,col k = c → some k ≠ v11.ownBlock:=fun hc k hk e=>hc tc'
 exact ⟨h.S.grown hb hg (Kd.R_ne h.r11 h.S.blk ba') (fun k e=>by have:=hr k e;omega),h.T.grown hg (fun k e=>by have:=hr k e;omega),le' h.be hg (Kd.R_ne h.r11 h.be ba'),Kd.R_grown h.r8 hg (hne ba'),Kd.R_grown h.r9 hg (hne ba'),Kd.R_grown h.r10 hg (hne ba'),ho,Kd.R_grown h.r12 hg (hne ba')⟩
theorem Sh.g12 (h : Sh w0 W g N Ae ce es col vy vn vm s gt vl va vr t ge X v8 v9 v10 v11 v12 ws us ring lk inn) (ho : Kd.R k56 56 w1 w0.heap.size (fun k=>col k = 12) v m) (hb : Below w0.heap.size w0 w1) (hg : W.grownBy w1 v12.ownBlock) : Sh w0 w1 g N Ae ce es col vy vn vm s gt vl va vr t ge X v8 v9 v10 v11 v ws us ring lk m:=by
 have hr : ∀ k,v12.ownBlock = some k → col k = 12:=fun k e=>h.r12.1 k e
 have hne : ∀ {c : Nat},c ≠ 12 → ∀ k,col k = c → some k ≠ v12.ownBlock:=fun hc k hk e=>hc tc'
 exact ⟨h.S.grown hb hg (Kd.R_ne h.r12 h.S.blk ba') (fun k e=>by have:=hr k e;omega),h.T.grown hg (fun k e=>by have:=hr k e;omega),le' h.be hg (Kd.R_ne h.r12 h.be ba'),Kd.R_grown h.r8 hg (hne ba'),Kd.R_grown h.r9 hg (hne ba'),Kd.R_grown h.r10 hg (hne ba'),Kd.R_grown h.r11 hg (hne ba'),ho⟩
theorem Sh.n10 {x : Int} (h : Sh w0 W g N Ae ce es col vy vn vm s gt vl va vr t ge X v8 v9 v10 v11 v12 ws us ring lk inn) : Sh w0 (W.alloc (.cells #[.int .i64 x] 3)) g N Ae ce es (fun k=>if W.heap.size ≤ k then 10 else col k) vy vn vm s gt vl va vr t ge X v8 v9 (.slice (some ⟨W.heap.size,0,none⟩) 1 1) v11 v12 ws us [x] lk inn:=by
 have h2:=(h.ahead 10).to (qo (Below.refl _ _) (.cells #[.int .i64 x] 3))
 exact ⟨h2.S,h2.T,h2.be,h2.r8,h2.r9,one_R h.S.hb.size (yd' W _) (if_pos (Nat.le_refl _)),h2.r11,h2.r12⟩
theorem Sh.n11 (h : Sh w0 W g N Ae ce es col vy vn vm s gt vl va vr t ge X v8 v9 v10 v11 v12 ws us ring lk inn) : Sh w0 (W.alloc (.cells #[] 56)) g N Ae ce es (fun k=>if W.heap.size ≤ k then 11 else col k) vy vn vm s gt vl va vr t ge X v8 v9 v10 (.slice (some ⟨W.heap.size,0,none⟩) 0 0) v12 ws us ring [] inn:=by
 have h2:=(h.ahead 11).to (qo (Below.refl _ _) (.cells #[] 56))
 exact ⟨h2.S,h2.T,h2.be,h2.r8,h2.r9,h2.r10,Oh' k56 h.S.hb.size (yd' W _) (if_pos (Nat.le_refl _)),h2.r12⟩
theorem Sh.n12 (h : Sh w0 W g N Ae ce es col vy vn vm s gt vl va vr t ge X v8 v9 v10 v11 v12 ws us ring lk inn) : Sh w0 (W.alloc (.cells #[] 56)) g N Ae ce es (fun k=>if W.heap.size ≤ k then 12 else col k) vy vn vm s gt vl va vr t ge X v8 v9 v10 v11 (.slice (some ⟨W.heap.size,0,none⟩) 0 0) ws us ring lk []:=by
 have h2:=(h.ahead 12).to (qo (Below.refl _ _) (.cells #[] 56))
 exact ⟨h2.S,h2.T,h2.be,h2.r8,h2.r9,h2.r10,h2.r11,Oh' k56 h.S.hb.size (yd' W _) (if_pos (Nat.le_refl _))⟩
theorem Sh.join (h : Sh w0 W g N Ae ce es col vy vn vm s gt vl va vr t ge X v8 v9 v10 v11 v12 ws us ring lk inn) : ∃ col',RnF w0 (W.setCell ⟨g,4,none⟩ v12) g N Ae ce es col' vy vn v12 { s with mt:=inn } ∧ (∀ k,(W.setCell ⟨g,4,none⟩ v12).heap.size ≤ k → col' k = 2) ∧ Kd.R (Kd.int .i64) 3 (W.setCell ⟨g,4,none⟩ v12) w0.heap.size (fun k=>col' k = 2 ∧ some k ≠ vn.ownBlock) v10 ring ∧ Kd.R k56 56 (W.setCell ⟨g,4,none⟩ v12) w0.heap.size (fun k=>col' k = 2 ∧ some k ≠ vn.ownBlock) v11 lk:=by
 have hn : ∀ {c : Nat},c ≠ 2 → ∀ k,col k = c → some k ≠ vn.ownBlock:=fun hl k hk e=>hl (by rw [← hk];exact h.S.rn.1 k e.symm)
 have hS:=(h.S.mono (col':=fun k=>if col k < 4 then col k else if col k = 12 then 3 else 2) (fun k hk=>if_pos hk)).ahead 2
 refine ⟨fun k=>if W.heap.size ≤ k then 2 else if col k < 4 then col k else if col k = 12 then 3 else 2,hS.fm (Kd.R_mono (Kd.R_bound h.r12) ?_),fun k hk=>if_pos (by simpa using hk),Kd.R_set (Kd.R_mono (Kd.R_bound h.r10) ?_) h.S.blk lg' _ _,Kd.R_set (Kd.R_mono (Kd.R_bound h.r11) ?_) h.S.blk zh' _ _⟩
 ·rintro k ⟨h1,_,h2,_⟩
  try dsimp only
  rw [if_neg aa',if_neg aa',if_pos h1]
 ·rintro k ⟨h1,_,h2,_⟩
  exact ⟨Yc',hn ba' k h1⟩
 rintro k ⟨h1,_,h2,_⟩
 exact ⟨Yc',hn ba' k h1⟩
end
end Go.Proofs.YtnffimpoekjkpaaGreat.QFnExactSolve
