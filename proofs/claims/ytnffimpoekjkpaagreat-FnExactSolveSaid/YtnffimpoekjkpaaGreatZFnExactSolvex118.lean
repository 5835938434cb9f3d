import Derived.Test.YtnffimpoekjkpaaGreatZFnExactSolvex116
import Derived.Test.YtnffimpoekjkpaaGreatZFnExactSolvex117
import Derived.Test.YtnffimpoekjkpaaGreatZFnExactSolvex1
set_option linter.all false
namespace Go.Proofs.YtnffimpoekjkpaaGreat.QFnExactSolve
open Go.RowKit Go.Proofs.YtnffimpoekjkpaaGreatW.PrintWords Go.Proofs.YtnffimpoekjkpaaGreatW.PrintLast Go.Proofs.YtnffimpoekjkpaaGreatW.PrintMore
attribute [local go_sem] Od' Pd' Xd' Yd' Jd' Kd' Qd' Rd'
structure SpS (w W : World) (hi gw : Nat) (vC vY vG : Value) (C : List S58) (Y : List Int) (G : List S80) : Prop where
 c : Kd.R k58 58 W w.heap.size (fun q=>q < hi) vC C
 y : Kd.R (Kd.int .i64) 3 W w.heap.size (fun q=>q < hi) vY Y
 g : Kd.N k80 80 W w.heap.size (fun q=>q < hi) vG G
 b : W.heap[gw]? = some (.cells #[vY,vG] 30 (0,0))
 lt : gw < hi
structure ImS (w W : World) (lo b gg : Nat) (vC vY vG : Value) (C : List S58) (Y : List Int) (G : List S80) : Prop where
 c : Kd.R k58 58 W w.heap.size (fun q=>lo ≤ q) vC C
 y : Kd.R (Kd.int .i64) 3 W w.heap.size (fun q=>lo ≤ q ∧ q < b) vY Y
 g : Kd.S k80 80 W w.heap.size (fun q=>lo ≤ q ∧ b ≤ q) vG G
 b : W.heap[gg]? = some (.cells #[vY,vG] 30 (0,0))
 lt : lo ≤ gg
section
variable {w W W1 : World} {hi gw lo b gg : Nat} {vC vY vG : Value} {C : List S58} {Y : List Int} {G : List S80} {P : Nat → Prop}
theorem SpS.to (h : SpS w W hi gw vC vY vG C Y G) (hb : Below W.heap.size W W1:=by repeat (first|exact Below.refl _ _|apply qo|apply qd|apply qh)) : SpS w W1 hi gw vC vY vG C Y G :=
 ⟨Kd.R_below h.c hb,Kd.R_below h.y hb,Kd.N_below h.g hb,qx h.b hb,h.lt⟩
theorem SpS.kept (h : SpS w W hi gw vC vY vG C Y G) (hk : oe' W W1 P) (hP : ∀ q,P q → hi ≤ q) : SpS w W1 hi gw vC vY vG C Y G :=
 ⟨Kd.R_kept h.c hk (fun q hq hp=>by have:=hP q hp;omega),Kd.R_kept h.y hk (fun q hq hp=>by have:=hP q hp;omega),Kd.N_kept h.g hk (fun q hq hp=>by have:=hP q hp;omega),Xf' h.b hk (fun hp=>by have:=hP _ hp;have:=h.lt;omega),h.lt⟩
theorem ImS.to (h : ImS w W lo b gg vC vY vG C Y G) (hb : Below W.heap.size W W1:=by repeat (first|exact Below.refl _ _|apply qo|apply qd|apply qh)) : ImS w W1 lo b gg vC vY vG C Y G :=
 ⟨Kd.R_below h.c hb,Kd.R_below h.y hb,Kd.S_below h.g hb,qx h.b hb,h.lt⟩
theorem ImS.kept (h : ImS w W lo b gg vC vY vG C Y G) (hk : oe' W W1 P) (hP : ∀ q,P q → q < lo) : ImS w W1 lo b gg vC vY vG C Y G :=
 ⟨Kd.R_kept h.c hk (fun q hq hp=>by have:=hP q hp;omega),Kd.R_kept h.y hk (fun q hq hp=>by have:=hP q hp;omega),Kd.S_kept h.g hk (fun q hq hp=>by have:=hP q hp;omega),Xf' h.b hk (fun hp=>by have:=hP _ hp;have:=h.lt;omega),h.lt⟩
end
structure LB (w W : World) (n0 : Int) (An : Option Addr) (ln cn hi gw lo b gg : Nat) (vC vY vG uC uY uG : Value) (C : List S58) (Y : List Int) (G : List S80) (C' : List S58) (Y' : List Int) (G' : List S80) : Prop where
 a : W.heap[w.heap.size]? = some (.cells #[.int .i64 n0,.slice An ln cn] 24 (0,0))
 hb : Below w.heap.size w W
 sp : SpS w W hi gw vC vY vG C Y G
 im : ImS w W lo b gg uC uY uG C' Y' G'
 le : w.heap.size < hi ∧ hi ≤ lo
section
variable {w W W1 : World} {n0 : Int} {An : Option Addr} {ln cn hi gw lo b gg : Nat} {vC vY vG uC uY uG : Value} {C : List S58} {Y : List Int} {G : List S80} {C' : List S58} {Y' : List Int} {G' : List S80}
theorem LB.to (h : LB w W n0 An ln cn hi gw lo b gg vC vY vG uC uY uG C Y G C' Y' G') (hb : Below W.heap.size W W1:=by repeat (first|exact Below.refl _ _|apply qo|apply qd|apply qh)) : LB w W1 n0 An ln cn hi gw lo b gg vC vY vG uC uY uG C Y G C' Y' G' :=
 ⟨qx h.a hb,qy h.hb hb,h.sp.to hb,h.im.to hb,h.le⟩
theorem LB.cells (h : LB w W n0 An ln cn hi gw lo b gg vC vY vG uC uY uG C Y G C' Y' G') : W.cell? ⟨w.heap.size,0,none⟩ = some (.int .i64 n0) ∧ W.cell? ⟨w.heap.size,1,none⟩ = some (.slice An ln cn) ∧ W.cell? ⟨gw,0,none⟩ = some vY ∧ W.cell? ⟨gw,1,none⟩ = some vG ∧ W.cell? ⟨gg,0,none⟩ = some uY ∧ W.cell? ⟨gg,1,none⟩ = some uG :=
 ⟨(qq h.a 0).trans rfl,(qq h.a 1).trans rfl,(qq h.sp.b 0).trans rfl,(qq h.sp.b 1).trans rfl,(qq h.im.b 0).trans rfl,(qq h.im.b 1).trans rfl⟩
end
structure LD (w W : World) (n0 : Int) (An : Option Addr) (ln cn hi gw gg : Nat) (vC vY vG uC uY uG : Value) (C : List S58) (Y : List Int) (G : List S80) (C' : List S58) (Y' : List Int) (G' : List S80) : Prop where
 a : W.heap[w.heap.size]? = some (.cells #[.int .i64 n0,.slice An ln cn] 24 (0,0))
 hb : Below w.heap.size w W
 sp : SpS w W hi gw vC vY vG C Y G
 c : Kd.R k58 58 W w.heap.size (fun _=>True) uC C'
 y : Kd.R (Kd.int .i64) 3 W w.heap.size (fun _=>True) uY Y'
 g : Kd.S k80 80 W w.heap.size (fun _=>True) uG G'
 b : W.heap[gg]? = some (.cells #[uY,uG] 30 (0,0))
def PT (W : World) (ts : List Nat) (q : Nat) : Prop:=∃ t,t ∈ ts ∧ ∃ cells,W.heap[q]? = some (.cells cells t (0,0))
theorem pt_no {W : World} {q : Nat} {ts us : List Nat} (h : PT W ts q) (h2 : PT W us q) (hd : ∀ t,t ∈ ts → t ∉ us) : False:=by
 obtain ⟨t,ht,cs,h⟩:=h
 obtain ⟨t2,ht2,cs2,h2⟩:=h2
 rw [h] at h2
 injection h2 with h2
 injection h2 with _ h2
 exact hd t ht (h2 ▸ ht2)
theorem vo' {α : Type} {d : Kd α} {e base : Nat} {ok P : Nat → Prop} {v : Value} {xs : List α} {W W1 : World} {ts : List Nat} (h : d.R e W base ok v xs) (hk : oe' W W1 P) (hP : ∀ q,P q → PT W ts q) (ht : ∀ t,t ∈ e :: d.E → t ∉ ts) : d.R e W1 base ok v xs :=
 Kd.R_mono (Kd.R_kept (Kd.R_bound h) hk (fun q hq hp=>pt_no hq.2.2.2 (hP q hp) ht)) (fun _ h=>h.1)
theorem S_keptT {α : Type} {d : Kd α} {e base : Nat} {ok P : Nat → Prop} {v : Value} {xs : List α} {W W1 : World} {ts : List Nat} (h : Kd.S d e W base ok v xs) (hk : oe' W W1 P) (hP : ∀ q,P q → PT W ts q) (ht : ∀ t,t ∈ e :: d.E → t ∉ ts) : Kd.S d e W1 base ok v xs :=
 Kd.S_mono (Kd.S_kept (Kd.S_bound h) hk (fun q hq hp=>pt_no hq.2.2.2 (hP q hp) ht)) (fun _ h=>h.1)
theorem dm' {g t : Nat} {cs : Array Value} {P : Nat → Prop} {W W1 : World} {ts : List Nat} (hb : W.heap[g]? = some (.cells cs t (0,0))) (hk : oe' W W1 P) (hP : ∀ q,P q → PT W ts q) (ht : t ∉ ts) : W1.heap[g]? = some (.cells cs t (0,0)) :=
 Xf' hb hk (fun hp=>pt_no ⟨t,List.mem_singleton.2 rfl,cs,hb⟩ (hP g hp) (fun t' h'=>by rw [List.mem_singleton.1 h'];exact ht))
section
variable {w W W1 : World} {n0 : Int} {An : Option Addr} {ln cn hi gw lo b gg : Nat} {vC vY vG uC uY uG : Value} {C : List S58} {Y : List Int} {G : List S80} {C' : List S58} {Y' : List Int} {G' : List S80} {P : Nat → Prop} {C2 : List S58} {Y2 : List Int} {G2 : List S80}
theorem LB.kept_graph (h : LB w W n0 An ln cn hi gw lo b gg vC vY vG uC uY uG C Y G C' Y' G') (hk : oe' W W1 P) (hb : Below w.heap.size w W1) (hP : ∀ q,P q → hi ≤ q ∧ q < lo) : LB w W1 n0 An ln cn hi gw lo b gg vC vY vG uC uY uG C Y G C' Y' G' :=
 ⟨Xf' h.a hk (fun hp=>by have:=hP _ hp;have:=h.le;omega),hb,h.sp.kept hk (fun q hp=>(hP q hp).1),h.im.kept hk (fun q hp=>(hP q hp).2),h.le⟩
theorem LB.lo_le (h : LB w W n0 An ln cn hi gw lo b gg vC vY vG uC uY uG C Y G C' Y' G') : lo ≤ W.heap.size:=by have:=ke' h.im.b;have:=h.im.lt;omega
theorem LB.mark_c (h : LB w W n0 An ln cn hi gw lo b gg vC vY vG uC uY uG C Y G C' Y' G') (hk : oe' W W1 P) (hb : Below w.heap.size w W1) (hP : ∀ q,P q → lo ≤ q ∧ PT W [58] q) (hr : Kd.R k58 58 W1 w.heap.size (fun q=>P q ∨ W.heap.size ≤ q) uC C2) : LB w W1 n0 An ln cn hi gw lo b gg vC vY vG uC uY uG C Y G C2 Y' G' :=
 ⟨Xf' h.a hk (fun hp=>by have:=(hP _ hp).1;have:=h.le;omega),hb,h.sp.kept hk (fun q hp=>by have:=(hP q hp).1;have:=h.le;omega),
  ⟨Kd.R_mono hr (fun q hq=>hq.elim (fun h=>(hP q h).1) (fun h2=>Nat.le_trans h.lo_le h2)),vo' h.im.y hk (fun q hp=>(hP q hp).2) (by intro t ht;obtain rfl : t = 3:=List.mem_singleton.1 ht;decide),S_keptT h.im.g hk (fun q hp=>(hP q hp).2) (by
   intro t ht
   have ht : t ∈ ([80,3] : List Nat):=ht
   simp only [List.mem_cons,List.not_mem_nil,or_false] at ht
   rcases ht with rfl|rfl <;> decide),dm' h.im.b hk (fun q hp=>(hP q hp).2) ba',h.im.lt⟩,h.le⟩
theorem LB.mark_p (h : LB w W n0 An ln cn hi gw lo b gg vC vY vG uC uY uG C Y G C' Y' G') (hk : oe' W W1 P) (hb : Below w.heap.size w W1) (hP : ∀ q,P q → lo ≤ q ∧ PT W [3,80] q) (hy : Kd.R (Kd.int .i64) 3 W1 w.heap.size (fun _=>True) uY Y2) (hg : Kd.S k80 80 W1 w.heap.size (fun _=>True) uG G2) : LD w W1 n0 An ln cn hi gw gg vC vY vG uC uY uG C Y G C' Y2 G2 :=
 ⟨Xf' h.a hk (fun hp=>by have:=(hP _ hp).1;have:=h.le;omega),hb,h.sp.kept hk (fun q hp=>by have:=(hP q hp).1;have:=h.le;omega),
  Kd.R_mono (vo' h.im.c hk (fun q hp=>(hP q hp).2) (by intro t ht;have ht : t ∈ ([58] : List Nat):=ht;obtain rfl : t = 58:=List.mem_singleton.1 ht;decide)) (fun _ _=>trivial),hy,hg,dm' h.im.b hk (fun q hp=>(hP q hp).2) ba'⟩
theorem LD.to (h : LD w W n0 An ln cn hi gw gg vC vY vG uC uY uG C Y G C' Y' G') (hb : Below W.heap.size W W1:=by repeat (first|exact Below.refl _ _|apply qo|apply qd|apply qh)) : LD w W1 n0 An ln cn hi gw gg vC vY vG uC uY uG C Y G C' Y' G' :=
 ⟨qx h.a hb,qy h.hb hb,h.sp.to hb,Kd.R_below h.c hb,Kd.R_below h.y hb,Kd.S_below h.g hb,qx h.b hb⟩
theorem LD.cells (h : LD w W n0 An ln cn hi gw gg vC vY vG uC uY uG C Y G C' Y' G') : W.cell? ⟨w.heap.size,0,none⟩ = some (.int .i64 n0) ∧ W.cell? ⟨w.heap.size,1,none⟩ = some (.slice An ln cn) ∧ W.cell? ⟨gw,0,none⟩ = some vY ∧ W.cell? ⟨gw,1,none⟩ = some vG ∧ W.cell? ⟨gg,0,none⟩ = some uY ∧ W.cell? ⟨gg,1,none⟩ = some uG :=
 ⟨(qq h.a 0).trans rfl,(qq h.a 1).trans rfl,(qq h.sp.b 0).trans rfl,(qq h.sp.b 1).trans rfl,(qq h.b 0).trans rfl,(qq h.b 1).trans rfl⟩
end
def AnsS (N : Int) (es : List S73) (b : Bool) (C : List S58) (Y : List Int) (G : List S80) : Prop :=
 (es.length ≤ 1048576 ∧ gkB N es = b) ∧ (b = false → C = [] ∧ Y = [] ∧ G = []) ∧ (b = true → (0 ≤ N ∧ N ≤ 1000) ∧
  (∃ (kr : Nat) (s : SI) (gs : List (List Int × Int)) (kc : Nat) (nd1 : List S89) (ps : List (Int × Int)),Oi' N es kr (newI N es) s ∧ WFn s.nd ∧ EOk es s.nd.length ∧ N ≤ s.nd.length ∧ s.nd.length ≤ 1000000 ∧ s.y.length ≤ 1000000 ∧ Gf' s.nd N (s.nd.length + 1) N [] = gs ∧ gs.length < 20 ∧
   nh' N es s.nd.length kc s.nd nd1 ∧ (∀ v,0 ≤ v → v < N → (td' nd1 v).f3 = -1 ∨ inR (td' nd1 v).f3 es.length) ∧ nd1.length = s.nd.length ∧ li' es nd1 N (N.toNat + 1) 0 [] = ps ∧ ps.map mkC = C ∧ s.y = Y ∧ bf' (gs.map mkG) = G) ∧
  (∃ (kr : Nat) (s : RI) (gs : List (List Int × Int)) (s2 : RI) (ps : List (Int × Int)),Rh' N es kr (newS N es) s ∧ WFn (cvs s.nd) ∧ N ≤ s.nd.length ∧ s.nd.length ≤ 1000000 ∧ s.y.length ≤ 1000000 ∧ oh' s.nd N (s.nd.length + 1) N [] = gs ∧ Tg' N s.nd.length s.nd.length s s2 ∧ s2.mt.length ≤ 1000000 ∧
   aj' s2.mt N (N.toNat + 1) 0 [] = ps ∧ ps.length ≤ 1000000 ∧ ps.map mkC = C ∧ s.y = Y ∧ gs.map mkG = G))
theorem aq' {N : Int} {es : List S73} {b : Bool} {C : List S58} {Y : List Int} {G : List S80} (h : AnsS N es b C Y G) :
  (∀ (w : World) (A : Option Addr) (c : Nat),Kd.C k73 w A es.length es → es.length ≤ c → Calls Tryz.prog 5 #[.agg #[.int .i64 N,.slice A es.length c]] w fun e w'=>∃ vY vG vC,e = .returned (.tuple #[vC,.agg #[vY,vG],.bool b]) ∧ Kd.R (Kd.int .i64) 3 w' w.heap.size (fun _=>True) vY Y ∧ Kd.N k80 80 w' w.heap.size (fun _=>True) vG G ∧ Kd.R k58 58 w' w.heap.size (fun _=>True) vC C ∧ Below w.heap.size w w') ∧
  (∀ (w : World) (A : Option Addr) (c : Nat),Kd.C k73 w A es.length es → es.length ≤ c → Calls Tryz.prog 7 #[.agg #[.int .i64 N,.slice A es.length c]] w fun e w'=>∃ bb vY vG vC,e = .returned (.tuple #[vC,.agg #[vY,vG],.bool b]) ∧ w.heap.size ≤ bb ∧ Kd.R (Kd.int .i64) 3 w' w.heap.size (fun q=>q < bb) vY Y ∧ Kd.S k80 80 w' bb (fun _=>True) vG G ∧ Kd.R k58 58 w' w.heap.size (fun _=>True) vC C ∧ Below w.heap.size w w'):=by
 obtain ⟨h1,h3,h4⟩:=h
 cases b with
 | false =>
  obtain ⟨rfl,rfl,rfl⟩:=h3 rfl
  refine ⟨fun w A c hC hc=>(lm' w N A c es hC hc h1).mono ?_,fun w A c hC hc=>(km' w N A c es hC hc h1).mono ?_⟩
  ·rintro e w' ⟨vC,rfl,hr,hb⟩
   exact ⟨_,_,vC,rfl,Kd.R_nil _ _ _ _ _,Kd.N_nil _ _ _ _ _,hr,hb⟩
  rintro e w' ⟨rfl,hb⟩
  exact ⟨w.heap.size,_,_,_,rfl,Nat.le_refl _,Kd.R_nil _ _ _ _ _,Kd.S_nil _ _ _ _ _,Kd.R_nil _ _ _ _ _,hb⟩
 | true =>
  obtain ⟨hN,⟨kr,s,gs,kc,nd1,ps,a1,a2,a3,a4,a5,a6,a7,a8,a9,a10,a11,a12,a13,a14,a15⟩,⟨kr',s',gs',s2,ps',b1,b2,b3,b4,b5,b6,b7,b8,b9,b10,b11,b12,b13⟩⟩:=h4 rfl
  subst a13;subst a14;subst a15
  refine ⟨fun w A c hC hc=>?_,fun w A c hC hc=>zl' w N A c es hC hc h1 hN kr s a1 a2 a3 a4 a5 a6 gs a7 a8 kc nd1 a9 a10 a11 ps a12⟩
  have:=Al' w N A c es hC hc h1 hN kr' s' b1 b2 b3 b4 b5 gs' b6 s2 b7 b8 ps' b9 b10
  rw [b11,b12,b13] at this
  exact this
def LawS (k : Nat) (n : Int) (l : List S84) : Prop :=
 ∃ r,laws_szGraph.f n l 1048576 = some r ∧ (r < 0 ∨ (0 ≤ r ∧ ∃ (N : Int) (es : List S73),laws_toGraph.f k n l = some (N,es) ∧ es.length ≤ 1048576 ∧
  ∃ (b : Bool) (C : List S58) (Y : List Int) (G : List S80),AnsS N es b C Y G ∧ C.length ≤ 1000 ∧ Y.length ≤ 1000 ∧ G.length ≤ 1000 ∧ ∀ x ∈ G,x.f0.length ≤ 1000))
theorem wo' : ∀ {G : List S80},(∀ x ∈ G,x.f0.length ≤ 1000) → vg' G ≤ 1001 * G.length
 | [],_=>Nat.zero_le _
 | x :: l,h=>by
  have h1:=h x List.mem_cons_self
  have:=wo' (G:=l) (fun z hz=>h z (List.mem_cons_of_mem _ hz))
  rw [vg',List.length_cons]
  omega
end Go.Proofs.YtnffimpoekjkpaaGreat.QFnExactSolve
