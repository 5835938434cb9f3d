import Derived.Test.YtnffimpoekjkpaaGreatZFnExactSolvex35
import Derived.Test.YtnffimpoekjkpaaGreatZFnExactSolvex79g
import Derived.Test.YtnffimpoekjkpaaGreatZFnExactSolvex64
import Derived.Sort.Defs
set_option linter.all false
namespace Go.Proofs.YtnffimpoekjkpaaGreat.QFnExactSolve
open Go.RowKit Go.Proofs.YtnffimpoekjkpaaGreatW.PrintWords Go.Proofs.YtnffimpoekjkpaaGreatW.PrintLast Go.Proofs.YtnffimpoekjkpaaGreatW.PrintMore
def rf' (nd : List (S89)) : Nat → Int → Int
 | 0,_=>-1
 | k + 1,i=>if i < (nd.length : Int) then (if Dd' (td' nd i) = true then i else rf' nd k (i + 1)) else -1
inductive nh' (N : Int) (es : List S73) (n0 : Nat) : Nat → List S89 → List S89 → Prop
 | done {nd : List S89} (hl : nd.length = n0) (hw : WFn nd) (h : rf' nd (nd.length + 1) N = -1) : nh' N es n0 1 nd nd
 | more {k : Nat} {nd nd' : List S89} {r : Int} (hl : nd.length = n0) (hw : WFn nd) (h : rf' nd (nd.length + 1) N = r) (hr : r ≠ -1) (hU : UOk es nd r) (rest : nh' N es n0 k (Ed' es nd r) nd') : nh' N es n0 (k + 1) nd nd'
def li' (es : List S73) (nd : List (S89)) (N : Int) : Nat → Int → List (Int × Int) → List (Int × Int)
 | 0,_,l=>l
 | k + 1,v,l=>if v < N then li' es nd N k (v + 1) (if (td' nd v).f3 ≠ -1 ∧ (ud' es (td' nd v).f3).f0 = v then l ++ [(v,(ud' es (td' nd v).f3).f1)] else l) else l
def ig' (nd : List (S89)) (i N : Int) : Nat → Int → List Int → List Int
 | 0,_,l=>l
 | k + 1,v,l=>if v < N then ig' nd i N k (v + 1) (if Ad' nd i v = true then l ++ [v] else l) else l
def Gf' (nd : List (S89)) (N : Int) : Nat → Int → List (List Int × Int) → List (List Int × Int)
 | 0,_,l=>l
 | k + 1,i,l=>if i < (nd.length : Int) then Gf' nd N k (i + 1) (if (td' nd i).f6 = true ∨ (td' nd i).f5 ≤ 0 then l else l ++ [(ig' nd i N (N.toNat + 1) 0 [],(td' nd i).f5)]) else l
def Ve' : List Int → List Int → Bool
 | [],[]=>false
 | [],_ :: _=>true
 | _ :: _,[]=>false
 | a :: l,b :: m=>if a = b then Ve' l m else decide (a < b)
def z0 (x : S89) : S89:={ x with f5:=0 }
def zr (nd : List S89) : List S89:=nd.map z0
def e0 (x : S73) : S73:={ x with f2:=0,f3:=0,f4:=0 }
def er (es : List S73) : List S73:=es.map e0
def s0 (x : S77) : S77:={ x with f3:=0 }
def sr (rn : List S77) : List S77:=rn.map s0
section
variable {nd : List S89} {es : List S73} {rn : List S77} {mts : List S56}
theorem ye' : (zr nd).length = nd.length:=List.length_map ..
theorem Ch' : (er es).length = es.length:=List.length_map ..
theorem Ki' : (sr rn).length = rn.length:=List.length_map ..
theorem ee' (i : Int) : td' (zr nd) i = z0 (td' nd i):=by
 unfold td' zr
 rw [show z89 = z0 z89 from rfl]
 simp only [List.getD_eq_getElem?_getD,List.getElem?_map]
 cases nd[i.toNat]? <;> rfl
theorem gh' (i : Int) : ud' (er es) i = e0 (ud' es i):=by
 unfold ud' er
 rw [show z73 = e0 z73 from rfl]
 simp only [List.getD_eq_getElem?_getD,List.getElem?_map]
 cases es[i.toNat]? <;> rfl
theorem wi' (i : Int) : wd' (sr rn) i = s0 (wd' rn i):=by
 unfold wd' sr
 rw [show z77 = s0 z77 from rfl]
 simp only [List.getD_eq_getElem?_getD,List.getElem?_map]
 cases rn[i.toNat]? <;> rfl
theorem lo' : ∀ (k : Nat) (n : Int),Qf' (zr nd) k n = Qf' nd k n
 | 0,_=>rfl
 | k + 1,n=>by rw [Qf',Qf',ye',ee',lo' k];rfl
theorem Kf' (n : Int) : topI (zr nd) n = topI nd n:=by unfold topI;rw [ye',lo']
theorem mo' (a : Int) : ∀ (k : Nat) (n : Int),Rf' (zr nd) a k n = Rf' nd a k n
 | 0,_=>rfl
 | k + 1,n=>by rw [Rf',Rf',ye',ee',mo' a k];rfl
theorem Ag' (a n : Int) : Ad' (zr nd) a n = Ad' nd a n:=by unfold Ad';rw [ye',mo']
theorem no' (n : Int) : ue' (zr nd) (er es) n = ue' nd es n:=by
 unfold ue'
 rw [ee',gh',Ag']
 rfl
theorem cn' (v : Int) : ∀ (l : List Int) (k a : Int),atF (zr nd) v l k a = atF nd v l k a
 | [],_,_=>rfl
 | m :: l,k,a=>by rw [atF,atF,Ag',cn' v l]
theorem dn' (i : Nat) (x : S89) : zr (nd.set i x) = (zr nd).set i (z0 x):=by unfold zr;rw [List.map_set]
theorem xi' {nd : List S89} (n e : Int) : zr (mateAt nd n e) = mateAt (zr nd) n e:=by
 unfold mateAt
 rw [dn',ee']
 rfl
theorem inAt_zr {nd : List S89} (n e : Int) : zr (inAt nd n e) = inAt (zr nd) n e:=by
 unfold inAt
 rw [dn',ee']
 rfl
theorem Np' {nd : List S89} (n : Int) : zr (di' nd n) = di' (zr nd) n:=by
 unfold di'
 rw [dn',ee']
 rfl
theorem Zl' : ∀ (l : List Int) (nd : List S89),zr (wf' l nd) = wf' l (zr nd)
 | [],_=>rfl
 | m :: l,nd=>by rw [wf',wf',Zl' l,xi',inAt_zr]
theorem en' (mem lk : List Int) (a size : Int) : ∀ (f : Nat) (k : Int) (nd : List S89),zr (Sf' mem lk a size f k nd) = Sf' mem lk a size f k (zr nd)
 | 0,_,_=>rfl
 | f + 1,k,nd=>by
  rw [Sf',Sf']
  split
  ·rw [en' mem lk a size f,xi',xi']
  rfl
theorem Hj' (n : Int) : zr (Ed' es nd n) = Ed' (er es) (zr nd) n:=by
 unfold Ed' atI
 rw [Np',en',xi',Zl',no',cn',ee']
 rfl
theorem bl' : cvs (sr rn) = zr (cvs rn):=by
 unfold cvs sr zr
 rw [List.map_map,List.map_map]
 rfl
theorem fn' (t : Int) : ∀ (l : List S56),Fe' (cvs (sr rn)) t l = Fe' (cvs rn) t l
 | []=>rfl
 | x :: l=>by rw [Fe',Fe',bl',Kf',Kf',← bl',fn' t l]
theorem gn' (t : Int) : xe' (sr rn) mts t = xe' rn mts t:=by
 unfold xe'
 rw [fn',wi']
 rfl
theorem Op' (i : Nat) (x : S77) : sr (rn.set i x) = (sr rn).set i (s0 x):=by unfold sr;rw [List.map_set]
theorem upAt_sr {rn : List S77} (n e : Int) : sr (Di' rn n e) = Di' (sr rn) n e:=by
 unfold Di'
 rw [Op',wi']
 rfl
theorem Pp' {rn : List S77} (n : Int) : sr (xf' rn n) = xf' (sr rn) n:=by
 unfold xf'
 rw [Op',wi']
 rfl
theorem oo' (u : Int) : ∀ (l : List Int) (rn : List S77),sr (Me' u l rn) = Me' u l (sr rn)
 | [],_=>rfl
 | m :: l,rn=>by rw [Me',Me',oo' u l,upAt_sr]
theorem Fq' (y y2 : List Int) (n n2 : Int) (b b2 : Bool) (r : Int) : nf' ⟨y2,sr rn,mts,n2,b2⟩ r = ⟨y2,sr (nf' ⟨y,rn,mts,n,b⟩ r).nd,(nf' ⟨y,rn,mts,n,b⟩ r).mt,n2,b2⟩:=by
 unfold nf' atS
 show RI.mk y2 (xf' (Me' (-1) (wd' (sr rn) r).f0 (sr rn)) r) (linkF (wd' (sr rn) r).f1 (atF (cvs (sr rn)) (xe' (sr rn) mts r) (wd' (sr rn) r).f0 0 0) (wd' (sr rn) r).f0.length ((wd' (sr rn) r).f0.length + 1) 1 mts) n2 b2 = RI.mk y2 (sr (xf' (Me' (-1) (wd' rn r).f0 rn) r)) (linkF (wd' rn r).f1 (atF (cvs rn) (xe' rn mts r) (wd' rn r).f0 0 0) (wd' rn r).f0.length ((wd' rn r).f0.length + 1) 1 mts) n2 b2
 rw [Pp',oo',gn',bl',cn',wi']
 rfl
end
section
variable {N most : Int} {es : List S73} {D : Int} {y y' : List Int} {nd nd' nd2 : List S89} {rn rn' : List S77} {mts : List S56} {r a j d : Int}
theorem zsum_zr (a b : Int) : Qe' (zr nd) a b = 0:=qg' fun i h0 h1=>by
 unfold zOf
 rw [ee']
 split <;> rfl
theorem Gph.zero (g : Gph N most es) : Gph N 0 (er es):=⟨g.n0,g.n9,⟨Int.le_refl 0,aa'⟩,fun i hi=>by
 rw [Ch'] at hi
 have x:=g.e i hi
 rw [gh']
 exact ⟨x.a,x.ab,x.b,⟨Int.le_refl 0,Cc'⟩,⟨Int.le_refl 0,Cc'⟩,⟨Int.le_refl 0,Cc'⟩⟩⟩
theorem sf' {i : Int} : Top (zr nd) i ↔ Top nd i:=by
 constructor
 ·intro h
  have u:=h.u
  have o:=h.o
  rw [ee'] at u o
  exact ⟨by have:=h.i;rw [ye'] at this;exact this,u,o⟩
 intro h
 exact ⟨by rw [ye'];exact h.i,by rw [ee'];exact h.u,by rw [ee'];exact h.o⟩
theorem Xh' {n : Nat} (v : Int) : rd (List.replicate n 0) v = 0:=by
 unfold rd
 rw [List.getD_eq_getElem?_getD,List.getElem?_replicate]
 split <;> rfl
theorem hn' {n : Nat} (e : Int) : slE (List.replicate n 0) (zr nd) (ud' (er es) e) = 0:=by
 unfold slE
 rw [zsum_zr,Xh',Xh',gh']
 rfl
theorem Inv.zero (g : Gph N most es) (hi : Inv N most es D y nd) : Inv N 0 (er es) 0 (List.replicate y.length 0) (zr nd):=by
 have hyl : (List.replicate y.length (0 : Int)).length = y.length:=List.length_replicate
 refine ⟨by rw [hyl];exact hi.yl,by rw [ye'];exact hi.nn,by rw [ye'];exact hi.sz,fun i hn=>?_,fun i h0 h1=>?_,fun i hn ho=>?_,fun m hn hu=>?_,fun i h0 h1 ho=>?_,fun i ht hm=>?_,fun i ht hm=>?_,fun i hn=>?_,fun v hv=>?_,⟨Int.le_refl 0,Int.le_refl 0⟩,fun e he=>?_,fun u v hu hv e=>?_⟩
 ·rw [ye'] at hn ⊢
  rw [ee']
  exact hi.wf i hn
 ·rw [ee']
  have:=hi.ver i h0 h1
  exact ⟨this.1,rfl,this.2.2⟩
 ·rw [ye'] at hn
  rw [ee'] at ho ⊢
  exact hi.opn i hn ho
 ·rw [ye'] at hn
  rw [ee'] at hu ⊢
  have:=hi.par m hn hu
  exact ⟨this.1,by rw [ee'];exact this.2.1,by rw [ee'];exact this.2.2⟩
 ·rw [ye'] at h1
  rw [ee'] at ho
  have R:=hi.ring i h0 h1 ho
  have f0 : (td' (zr nd) i).f0 = (td' nd i).f0:=by rw [ee'];rfl
  have f1 : (td' (zr nd) i).f1 = (td' nd i).f1:=by rw [ee'];rfl
  refine ⟨by rw [f0];exact R.odd,by rw [f0];exact R.three,by rw [f0,f1];exact R.lkl,by rw [f0];exact R.nod,?_,?_⟩
  ·rw [f0]
   intro m hm
   have:=R.mem m hm
   exact ⟨by rw [ye'];exact this.1,by rw [ee'];exact this.2⟩
  rw [f0,f1]
  intro k hk
  obtain ⟨k1,k2,k3⟩:=R.lnk k hk
  refine ⟨by rw [Ch'];exact k1,hn' _,?_⟩
  unfold yg' at k3 ⊢
  rw [gh',Ag',Ag',Ag',Ag']
  exact k3
 ·have ht2:=sf'.1 ht
  have e3 : (td' (zr nd) i).f3 = (td' nd i).f3:=by rw [ee'];rfl
  rw [e3] at hm
  have M:=hi.mate i ht2 hm
  have e0' : (ud' (er es) (td' nd i).f3).f0 = (ud' es (td' nd i).f3).f0:=by rw [gh'];rfl
  have e1' : (ud' (er es) (td' nd i).f3).f1 = (ud' es (td' nd i).f3).f1:=by rw [gh'];rfl
  refine ⟨by rw [e3,Ch'];exact M.ei,hn' _,?_,?_,?_,?_⟩ <;> rw [e3]
  ·rw [e0',e1',Kf',Kf'];exact M.ne
  ·rw [e0',e1',Kf',Kf'];exact M.tt
  ·rw [e0',Kf',ee'];exact M.m0
  rw [e1',Kf',ee'];exact M.m1
 ·have ht2:=sf'.1 ht
  have e3 : (td' (zr nd) i).f3 = (td' nd i).f3:=by rw [ee'];rfl
  have e4 : (td' (zr nd) i).f4 = (td' nd i).f4:=by rw [ee'];rfl
  rw [e3] at hm
  have F:=hi.free i ht2 hm
  refine ⟨by rw [e4];exact F.v,by rw [e4,Ag'];exact F.h,fun q hq k=>?_,by rw [Xh'];rfl⟩
  rw [ye'] at hq
  rw [e4,Ag'] at k
  rw [e4,ee']
  exact F.b q hq k
 ·rw [ee']
  exact ⟨Int.le_refl 0,rfl,Int.le_refl 0⟩
 ·rw [Xh']
  exact ⟨Int.le_refl 0,Int.le_refl 0⟩
 ·rw [hn']
  exact Int.le_refl 0
 rw [Xh',Xh']
structure Fin (N : Int) (es : List S73) (nd : List S89) (rn : List S77) (mts : List S56) : Prop where
 inv : Inv N 0 (er es) 0 (List.replicate N.toNat 0) (zr nd)
 rel : pe' (er es) (zr nd) (sr rn)
 mrel : ff' (er es) (zr nd) mts
 nod : mts.Nodup
 brel : ag' (zr nd) (sr rn)
 nrev : eh' mts
theorem StR.fin (g : Gph N most es) (h : StR N most es D y nd rn mts) : Fin N es nd rn mts:=by
 have I:=h.inv.zero g
 have e : y.length = N.toNat:=by have:=h.inv.yl;omega
 rw [e] at I
 refine ⟨I,⟨by rw [Ki',ye'];exact h.rel.l,fun i hn=>?_⟩,⟨fun l hl=>?_,fun t ht hm=>?_⟩,h.nod,fun t ht h3 i hn k=>?_,h.nrev⟩
 ·rw [ye'] at hn
  have X:=h.rel.n i hn
  rw [ee',wi']
  refine ⟨X.mem,X.ll,fun k hk=>?_,rfl,X.up,X.op⟩
  have q:=X.lk k hk
  unfold ie' at q ⊢
  rw [gh']
  exact q
 ·obtain ⟨e,e1,e2,e3,e4,e5⟩:=h.mrel.a l hl
  refine ⟨e,by rw [Ch'];exact e1,?_,by rw [Kf',Kf'];exact e3,by rw [Kf',ee'];exact e4,by rw [Kf',ee'];exact e5⟩
  unfold ie' at e2 ⊢
  rw [gh']
  exact e2
 ·have e3 : (td' (zr nd) t).f3 = (td' nd t).f3:=by rw [ee'];rfl
  rw [e3] at hm ⊢
  obtain ⟨l,l1,l2⟩:=h.mrel.b t (sf'.1 ht) hm
  refine ⟨l,l1,?_⟩
  unfold ie' at l2 ⊢
  rw [gh']
  exact l2
 have e3 : (td' (zr nd) t).f3 = (td' nd t).f3:=by rw [ee'];rfl
 have e4 : (td' (zr nd) t).f4 = (td' nd t).f4:=by rw [ee'];rfl
 rw [e3] at h3
 rw [ye'] at hn
 rw [e4,Ag'] at k
 rw [e4,wi']
 exact h.brel t (sf'.1 ht) h3 i hn k
theorem uok_zr {r : Int} (h : UOk (er es) (zr nd) r) : UOk es nd r:=by
 have e : td' (zr nd) r = z0 (td' nd r):=ee' r
 refine ⟨?_,?_,?_,?_,?_,?_⟩
 ·have:=h.mate;rw [e,Ch'] at this;exact this
 ·have:=h.hold;rw [no',ye'] at this;exact this
 ·have:=h.mem;rw [e,ye'] at this;exact this
 ·have:=h.pos;rw [e] at this;exact this
 ·have:=h.lk;rw [e] at this;exact this
 have:=h.sz;rw [e] at this;exact this
theorem uoks_sr {y y2 : List Int} {n n2 : Int} {b b2 : Bool} {r : Int} (h : Ei' ⟨y2,sr rn,mts,n2,b2⟩ r) : Ei' ⟨y,rn,mts,n,b⟩ r:=by
 have e : wd' (sr rn) r = s0 (wd' rn r):=wi' r
 refine ⟨?_,h.sz,?_,?_,?_,?_,?_,?_⟩
 ·have : ∀ x ∈ mts,inR x.f0 (sr rn).length ∧ inR x.f1 (sr rn).length:=h.m
  rw [Ki'] at this;exact this
 ·have : inR r (sr rn).length:=h.ni
  rw [Ki'] at this;exact this
 ·have : xe' (sr rn) mts r = -1 ∨ inR (xe' (sr rn) mts r) (sr rn).length:=h.b
  rw [gn',Ki'] at this;exact this
 ·have : ∀ m ∈ (wd' (sr rn) r).f0,inR m (sr rn).length:=h.mem
  rw [e,Ki'] at this;exact this
 ·have : 0 < (wd' (sr rn) r).f0.length:=h.pos
  rw [e] at this;exact this
 ·have : (wd' (sr rn) r).f0.length ≤ (wd' (sr rn) r).f1.length:=h.lk
  rw [e] at this;exact this
 have : (wd' (sr rn) r).f0.length ≤ 1000000:=h.szf
 rw [e] at this;exact this
theorem Fin.open (g : Gph N most es) (F : Fin N es nd rn mts) (ht : Top nd r) (hN : N ≤ r) (y : List Int) (n : Int) (b : Bool) :
  UOk es nd r ∧ Ei' ⟨y,rn,mts,n,b⟩ r ∧ ∃ a rn' mts',nf' ⟨y,rn,mts,n,b⟩ r = ⟨y,rn',mts',n,b⟩ ∧ Fin N es (Ed' es nd r) rn' mts' ∧ inR a (td' (zr nd) r).f0.length ∧ se' (zr nd) (zr (Ed' es nd r)) r a ∧ atI (zr nd) (er es) r = a:=by
 have g0:=g.zero
 have t0:=sf'.2 ht
 have hz : (td' (zr nd) r).f5 = 0:=by rw [ee'];rfl
 obtain ⟨U1,U2,a,rn',mts',b1,b2,b3,b4,b5,b6,b7,b8,b9⟩:=Ej' g0 F.inv F.rel F.mrel F.nod F.brel t0 hN hz 0 false
 have hv:=Fj' g0 F.inv F.rel F.mrel F.nrev F.brel t0 hN hz 0 false
 rw [Fq' y _ n 0 b false r] at b1 hv
 injection b1 with c1 c2 c3
 have R:=F.inv.ring r hN t0.i.2 t0.o
 obtain ⟨hv1,hv2⟩:=F.inv.hold_v g0 t0
 obtain ⟨a2,ha2,hh2,hat2⟩:=F.inv.place t0.i R (F.inv.vtx hv1.1 hv1.2) hv2 aa'
 have O2:=Bh' (es:=er es) t0 R ha2 hat2
 rw [← Hj'] at b4 b5 b6 b8 O2
 refine ⟨uok_zr U1,uoks_sr U2,a2,(nf' ⟨y,rn,mts,n,b⟩ r).nd,(nf' ⟨y,rn,mts,n,b⟩ r).mt,rfl,⟨b4,?_,?_,?_,?_,hv⟩,ha2,O2,hat2⟩
 ·rw [c2];exact b5
 ·rw [c3];exact b6
 ·rw [c3];exact b7
 rw [c2];exact b8
end
theorem Po' {l m : List S89} (hl : l.length = m.length) (h : ∀ i,inR i l.length → td' l i = td' m i) : l = m:=by
 refine List.ext_getElem hl fun i h1 h2=>?_
 have:=h i ⟨aa',aa'⟩
 unfold td' at this
 rw [List.getD_eq_getElem?_getD,List.getD_eq_getElem?_getD,Int.toNat_natCast,List.getElem?_eq_getElem h1,List.getElem?_eq_getElem h2] at this
 exact this
inductive Ops (N : Int) (es : List S73) : List S89 → List S89 → Prop
 | done {nd : List S89} : Ops N es nd nd
 | opn {nd nd' : List S89} {r : Int} (h : Top nd r) (hN : N ≤ r) (rest : Ops N es (Ed' es nd r) nd') : Ops N es nd nd'
def Bg' (N : Int) (nd : List S89) : Prop:=∀ r,N ≤ r → ¬Top nd r
theorem Ops.trans {N : Int} {es : List S73} {a b c : List S89} (h : Ops N es a b) (k : Ops N es b c) : Ops N es a c:=by
 induction h with
 | done=>exact k
 | opn h hN rest ih=>exact .opn h hN (ih k)
section
variable {N most : Int} {es : List S73} {D : Int} {y y' : List Int} {nd nd' nd1 nd2 : List S89} {rn rn' : List S77} {mts : List S56} {r q a j d : Int}
theorem cg' (g : Gph N most es) (hi : Inv N most es D y nd) (hz : ∀ i,inR i nd.length → (td' nd i).f5 = 0) (ht : Top nd r) (hN : N ≤ r) : ∃ a,inR a (td' nd r).f0.length ∧ se' nd (Ed' es nd r) r a ∧ atI nd es r = a ∧ Inv N most es D y (Ed' es nd r) ∧ (∀ i,inR i (Ed' es nd r).length → (td' (Ed' es nd r) i).f5 = 0) ∧ cnt (alv (Ed' es nd r)) (Ed' es nd r).length < cnt (alv nd) nd.length:=by
 have R:=hi.ring r hN ht.i.2 ht.o
 obtain ⟨hv1,hv2⟩:=hi.hold_v g ht
 obtain ⟨a,ha,hh,hat⟩:=hi.place ht.i R (hi.vtx hv1.1 hv1.2) hv2 aa'
 have O:=Bh' (es:=es) ht R ha hat
 refine ⟨a,ha,O,hat,O.inv g hi ht hN (hz r ht.i) R ha hh,fun i hn=>?_,?_⟩
 ·rw [O.l] at hn
  rw [(O.f hi ht R ha hn).2.2.2.1]
  exact hz i hn
 rw [O.l]
 refine fh' (j:=r) (fun i h0 h1 h=>?_) ht.i.1 ht.i.2 ?_ ?_
 ·have hn : inR i nd.length:=⟨h0,h1⟩
  by_cases c : i = r
  ·subst c
   unfold alv at h
   rw [O.rr] at h
   cases h
  unfold alv at h ⊢
  rw [(O.f hi ht R ha hn).2.2.2.2.1 c] at h
  exact h
 ·unfold alv
  rw [ht.o]
  rfl
 unfold alv
 rw [O.rr]
 rfl
theorem jn' (g : Gph N most es) (hi : Inv N most es D y nd) (hz : ∀ i,inR i nd.length → (td' nd i).f5 = 0) (hr : Top nd r) (hNr : N ≤ r) (hq : Top nd q) (hNq : N ≤ q) (hne : r ≠ q) :
  Top (Ed' es nd r) q ∧ Ed' es (Ed' es nd r) q = Ed' es (Ed' es nd q) r:=by
 obtain ⟨a,ha,Oa,ea,Ia,za,-⟩:=cg' g hi hz hr hNr
 obtain ⟨b,hb,Ob,eb,Ib,zb,-⟩:=cg' g hi hz hq hNq
 have Rr:=hi.ring r hNr hr.i.2 hr.o
 have Rq:=hi.ring q hNq hq.i.2 hq.o
 have tq : Top (Ed' es nd r) q:=(Oa.tops hi hr Rr ha).2 (.inl ⟨hq,fun z=>hne z.symm⟩)
 have tr : Top (Ed' es nd q) r:=(Ob.tops hi hq Rq hb).2 (.inl ⟨hr,hne⟩)
 obtain ⟨b',hb',Ob',eb',-⟩:=cg' g Ia za tq hNq
 obtain ⟨a',ha',Oa',ea',-⟩:=cg' g Ib zb tr hNr
 have nm : ∀ {s t : Int},Top nd s → Mg' es y nd t → t ≠ -1 → s ∉ (td' nd t).f0:=fun {s t} hs R ht z=>by
  have:=(R.mem s z).2
  rw [hs.u] at this
  exact ht this.symm
 have r1 : r ≠ -1:=by have:=hr.i.1;omega
 have q1 : q ≠ -1:=by have:=hq.i.1;omega
 have rq : td' (Ed' es nd r) q = td' nd q:=Oa.o q hq.i (fun z=>hne z.symm) (nm hq Rr r1)
 have qr : td' (Ed' es nd q) r = td' nd r:=Ob.o r hr.i hne (nm hr Rq q1)
 have dis : ∀ m,m ∈ (td' nd r).f0 → m ∈ (td' nd q).f0 → False:=fun m h k=>hne ((Rr.mem m h).2.symm.trans (Rq.mem m k).2)
 have ho : ∀ {s t : Int} {nd' : List S89} {a : Int},Top nd s → Top nd t → N ≤ s → N ≤ t → s ≠ t → se' nd nd' s a → inR a (td' nd s).f0.length → td' nd' t = td' nd t → atI nd' es t = atI nd es t:=fun {s t nd' a} hs ht hNs hNt hst O hin e=>by
  have Rs:=hi.ring s hNs hs.i.2 hs.o
  have Rt:=hi.ring t hNt ht.i.2 ht.o
  have t1 : t ≠ -1:=by have:=ht.i.1;omega
  obtain ⟨hv1,hv2⟩:=hi.hold_v g ht
  have hold : ue' nd' es t = ue' nd es t:=by
   unfold ue'
   rw [e]
   by_cases c : (td' nd t).f3 = -1
   ·rw [if_pos c,if_pos c]
   rw [if_neg c,if_neg c,O.has hi hs Rs hin (Ne.symm hst) t1 _ (hi.edge g (hi.mate t ht c).ei).1]
  unfold atI
  rw [hold,e]
  refine ui' fun m hm=>?_
  have M:=Rt.mem m hm
  refine O.has hi hs Rs hin (fun z=>?_) (by have:=M.1.1;omega) _ (hi.vtx hv1.1 hv1.2)
  rw [z,hs.u] at M
  exact t1 M.2.symm
 have eqb : b' = b:=by rw [← eb',← eb];exact ho hr hq hNr hNq hne Oa ha rq
 have eqa : a' = a:=by rw [← ea',← ea];exact ho hq hr hNq hNr (Ne.symm hne) Ob hb qr
 subst eqb eqa
 refine ⟨tq,Po' (by rw [Ob'.l,Oa.l,Oa'.l,Ob.l]) fun i hn=>?_⟩
 rw [Ob'.l,Oa.l] at hn
 have hnA : inR i (Ed' es nd r).length:=by rw [Oa.l];exact hn
 have hnB : inR i (Ed' es nd q).length:=by rw [Ob.l];exact hn
 have mem : ∀ {s t : Int} {n1 n2 n12 : List S89} {a : Int},Top nd s → N ≤ s → inR a (td' nd s).f0.length → se' nd n1 s a → se' n2 n12 s a → td' n2 s = td' nd s → (∀ m ∈ (td' nd s).f0,td' n2 m = td' nd m) → ∀ m ∈ (td' nd s).f0,td' n12 m = td' n1 m:=fun {s t n1 n2 n12 a} hs hNs hin O1 O2 es1 em m hm=>by
  have Rs:=hi.ring s hNs hs.i.2 hs.o
  have hL : (0 : Int) < (td' nd s).f0.length:=by have:=Rs.three;omega
  obtain ⟨p,p1,p2⟩:=wj' hm
  obtain ⟨k,k1,k2,k3⟩:=dh' hL hin p1
  have m0:=O2.m0
  have ms:=O2.ms
  rw [es1] at m0 ms
  by_cases c : k = 0
  ·rw [c,Int.add_zero,Int.emod_eq_of_lt hin.1 hin.2] at k3
   rw [← p2,← k3,m0,O1.m0,em _ (Vd' _ _ hin.1 hin.2)]
  rw [← p2,← k3,ms k aa' k2,O1.ms k aa' k2,em _ (Rs.at_in (a:=a) (i:=k)).2]
 by_cases c1 : i = r
 ·subst c1
  rw [Ob'.o i hnA hne (by rw [rq];exact nm hr Rq q1),Oa.rr,Oa'.rr,qr]
 by_cases c2 : i = q
 ·subst c2
  rw [Ob'.rr,rq,Oa'.o i hnB c1 (by rw [qr];exact nm hq Rr r1),Ob.rr]
 by_cases c3 : i ∈ (td' nd r).f0
 ·rw [Ob'.o i hnA c2 (by rw [rq];exact fun z=>dis i c3 z)]
  exact (mem (t:=q) hr hNr ha Oa Oa' qr (fun m hm=>Ob.o m (Rr.mem m hm).1 (fun z=>by
   have:=(Rr.mem m hm).2
   rw [z,hq.u] at this
   exact r1 this.symm) (fun z=>dis m hm z)) i c3).symm
 by_cases c4 : i ∈ (td' nd q).f0
 ·rw [Oa'.o i hnB c1 (by rw [qr];exact c3)]
  exact mem (t:=r) hq hNq hb Ob Ob' rq (fun m hm=>Oa.o m (Rq.mem m hm).1 (fun z=>by
   have:=(Rq.mem m hm).2
   rw [z,hr.u] at this
   exact q1 this.symm) (fun z=>dis m z hm)) i c4
 rw [Ob'.o i hnA c2 (by rw [rq];exact c4),Oa.o i hn c1 c3,Oa'.o i hnB c1 (by rw [qr];exact c3),Ob.o i hn c2 c4]
theorem Qp' (g : Gph N most es) : ∀ (m : Nat) (nd : List S89),cnt (alv nd) nd.length < m → Inv N most es D y nd → (∀ i,inR i nd.length → (td' nd i).f5 = 0) → ∃ nd',Ops N es nd nd' ∧ Bg' N nd'
 | 0,nd,hc,_,_=>absurd hc aa'
 | m + 1,nd,hc,hi,hz=>by
  by_cases c : ∃ r,N ≤ r ∧ Top nd r
  ·obtain ⟨r,hN,ht⟩:=c
   obtain ⟨a,-,-,-,I,z,lt⟩:=cg' g hi hz ht hN
   obtain ⟨nd',o,n⟩:=Qp' g m _ aa' I z
   exact ⟨nd',.opn ht hN o,n⟩
  exact ⟨nd,.done,fun r hN ht=>c ⟨r,hN,ht⟩⟩
theorem Zi' (g : Gph N most es) : ∀ (m : Nat) (nd a b : List S89),cnt (alv nd) nd.length < m → Inv N most es D y nd → (∀ i,inR i nd.length → (td' nd i).f5 = 0) → Ops N es nd a → Ops N es nd b → Bg' N a → Bg' N b → a = b
 | 0,nd,a,b,hc,_,_,_,_,_,_=>absurd hc aa'
 | m + 1,nd,a,b,hc,hi,hz,ha,hb,na,nb=>by
  cases ha with
  | done =>
   cases hb with
   | done=>rfl
   | opn h hN rest=>exact absurd h (na _ hN)
  | @opn _ _ r h hN rest =>
   cases hb with
   | done=>exact absurd h (nb _ hN)
   | @opn _ _ q h2 hN2 rest2 =>
    obtain ⟨_,-,-,-,I1,z1,l1⟩:=cg' g hi hz h hN
    obtain ⟨_,-,-,-,I2,z2,l2⟩:=cg' g hi hz h2 hN2
    by_cases c : r = q
    ·subst c
     exact Zi' g m _ a b aa' I1 z1 rest rest2 na nb
    obtain ⟨t1,e1⟩:=jn' g hi hz h hN h2 hN2 c
    obtain ⟨t2,e2⟩:=jn' g hi hz h2 hN2 h hN (Ne.symm c)
    obtain ⟨_,-,-,-,I3,z3,l3⟩:=cg' g I1 z1 t1 hN2
    obtain ⟨x,ox,nx⟩:=Qp' g (cnt (alv (Ed' es (Ed' es nd r) q)) (Ed' es (Ed' es nd r) q).length + 1) _ (Nat.lt_succ_self _) I3 z3
    have p1:=Zi' g m _ a x aa' I1 z1 rest (.opn t1 hN2 ox) na nx
    have p2:=Zi' g m _ b x aa' I2 z2 rest2 (.opn t2 hN (by rw [e2];exact ox)) nb nx
    rw [p1,p2]
end
def Jh' (x : List Int) (out : List (List Int × Int)) : Nat → Int → Int
 | 0,k=>k
 | f + 1,k=>if 0 < k ∧ Ve' x (out.getD (k - 1).toNat ([],0)).1 = true then Jh' x out f (k - 1) else k
def insF (x : List Int × Int) (out : List (List Int × Int)) : List (List Int × Int) :=
 out.take (Jh' x.1 out (out.length + 1) out.length).toNat ++ [x] ++ out.drop (Jh' x.1 out (out.length + 1) out.length).toNat
def oh' (nd : List (S77)) (N : Int) : Nat → Int → List (List Int × Int) → List (List Int × Int)
 | 0,_,l=>l
 | k + 1,i,l=>if i < (nd.length : Int) then oh' nd N k (i + 1) (if (wd' nd i).f5 = true ∨ (wd' nd i).f3 ≤ 0 then l else insF (ig' (cvs nd) i N (N.toNat + 1) 0 [],(wd' nd i).f3) l) else l
inductive yi' (N : Int) : Int → RI → RI → Prop
 | done {i : Int} {s : RI} (h : ¬i < (s.nd.length : Int)) (hw : WFn (cvs s.nd)) : yi' N i s s
 | skip {i : Int} {s s' : RI} (h : i < (s.nd.length : Int)) (hw : WFn (cvs s.nd)) (ht : Ce' (wd' s.nd i) = false) (rest : yi' N (i + 1) s s') : yi' N i s s'
 | opn {i : Int} {s s' : RI} (h : i < (s.nd.length : Int)) (hw : WFn (cvs s.nd)) (ht : Ce' (wd' s.nd i) = true) (hU : Ei' s i) (rest : yi' N (i + 1) (nf' s i) s') : yi' N i s s'
inductive Tg' (N : Int) (n0 : Nat) : Nat → RI → RI → Prop
 | done {s : RI} (hl : s.nd.length = n0) : Tg' N n0 0 s s
 | more {k : Nat} {s s1 s' : RI} (hl : s.nd.length = n0) (h : yi' N N s s1) (rest : Tg' N n0 k s1 s') : Tg' N n0 (k + 1) s s'
def cplV (v : Int) : List S56 → List (Int × Int) → List (Int × Int)
 | [],l=>l
 | x :: xs,l=>cplV v xs (if x.f1 = v ∧ v < x.f0 then (if x.f0 = v ∧ v < x.f1 then l ++ [(v,x.f1)] else l) ++ [(v,x.f0)] else (if x.f0 = v ∧ v < x.f1 then l ++ [(v,x.f1)] else l))
def aj' (mts : List S56) (N : Int) : Nat → Int → List (Int × Int) → List (Int × Int)
 | 0,_,l=>l
 | k + 1,v,l=>if v < N then aj' mts N k (v + 1) (cplV v mts l) else l
section
variable {N most : Int} {es : List S73} {D : Int} {y y' : List Int} {nd nd' nd1 nd2 : List S89} {rn rn' : List S77} {mts : List S56} {r q a j d : Int}
theorem Yj' : ∀ (k : Nat) (i : Int),0 ≤ i → (nd.length : Int) < i + k → (rf' nd k i = -1 ∧ ∀ j,i ≤ j → j < nd.length → Dd' (td' nd j) = true → False) ∨ (i ≤ rf' nd k i ∧ inR (rf' nd k i) nd.length ∧ Dd' (td' nd (rf' nd k i)) = true)
 | 0,i,h0,hk=>.inl ⟨rfl,fun j h1 h2=>by omega⟩
 | k + 1,i,h0,hk=>by
  rw [rf']
  by_cases c : i < (nd.length : Int)
  ·rw [if_pos c]
   by_cases q : Dd' (td' nd i) = true
   ·rw [if_pos q]
    exact .inr ⟨Int.le_refl _,⟨h0,c⟩,q⟩
   rw [if_neg q]
   rcases Yj' k (i + 1) aa' aa' with ⟨h1,h2⟩|⟨h1,h2⟩
   ·refine .inl ⟨h1,fun j j1 j2 j3=>?_⟩
    by_cases e : j = i
    ·subst e;exact q j3
    exact h2 j aa' j2 j3
   exact .inr ⟨aa',h2⟩
  rw [if_neg c]
  exact .inl ⟨rfl,fun j h1 h2=>by omega⟩
theorem Fin.wf (F : Fin N es nd rn mts) : WFn nd:=fun i hn=>by
 have:=F.inv.wf i (by rw [ye'];exact hn)
 rw [ee',ye'] at this
 exact this
theorem Fin.len (F : Fin N es nd rn mts) : rn.length = nd.length:=by
 have:=F.rel.l
 rw [Ki',ye'] at this
 exact this
theorem Fin.wfs (F : Fin N es nd rn mts) : WFn (cvs rn):=fun i hn=>by
 have w:=F.rel.wf F.inv.wf
 rw [bl'] at w
 have:=w i (by rw [ye'];exact hn)
 rw [ee',ye'] at this
 exact this
theorem Fin.top5 (F : Fin N es nd rn mts) {i : Int} (hn : inR i nd.length) : Ce' (wd' rn i) = Dd' (td' nd i):=by
 have:=si' F.inv F.rel (j:=i) (by rw [ye'];exact hn)
 rw [wi',ee'] at this
 exact this
theorem Rp' (n : Nat) : cnt (alv (zr nd)) n = cnt (alv nd) n:=by
 have e : alv (zr nd) = alv nd:=by
  funext i
  unfold alv
  rw [ee']
  rfl
 rw [e]
theorem Fin.zeros (F : Fin N es nd rn mts) : ∀ i,inR i (zr nd).length → (td' (zr nd) i).f5 = 0:=fun i _=>by rw [ee'];rfl
theorem Fin.opn (g : Gph N most es) (F : Fin N es nd rn mts) (ht : Top nd r) (hN : N ≤ r) (y : List Int) (n : Int) (b : Bool) :
  UOk es nd r ∧ Ei' ⟨y,rn,mts,n,b⟩ r ∧ ∃ rn' mts',nf' ⟨y,rn,mts,n,b⟩ r = ⟨y,rn',mts',n,b⟩ ∧ Fin N es (Ed' es nd r) rn' mts' ∧ (Ed' es nd r).length = nd.length ∧ cnt (alv (Ed' es nd r)) nd.length < cnt (alv nd) nd.length ∧ ∀ i,Top nd i → i ≠ r → Top (Ed' es nd r) i:=by
 obtain ⟨U1,U2,a,rn',mts',b1,b2,b3,b4,b5⟩:=F.open g ht hN y n b
 have t0:=sf'.2 ht
 obtain ⟨a2,-,-,-,-,-,lt⟩:=cg' g.zero F.inv F.zeros t0 hN
 have R:=F.inv.ring r hN t0.i.2 t0.o
 have l : (Ed' es nd r).length = nd.length:=by
  have:=b4.l
  rw [ye',ye'] at this
  exact this
 rw [← Hj',ye',ye',Rp',Rp',l] at lt
 exact ⟨U1,U2,rn',mts',b1,b2,l,lt,fun i hi hne=>sf'.1 ((b4.tops F.inv t0 R b3).2 (.inl ⟨sf'.2 hi,hne⟩))⟩
theorem Sp' {a b : List S89} (h : Ops N es a b) : Ops N (er es) (zr a) (zr b):=by
 induction h with
 | done=>exact .done
 | @opn nd nd' r h hN rest ih =>
  rw [Hj'] at ih
  exact .opn (sf'.2 h) hN ih
theorem Tp' (g : Gph N most es) (y : List Int) (n : Int) (b : Bool) : ∀ (m : Nat) (nd : List S89) (rn : List S77) (mts : List S56),cnt (alv nd) nd.length < m → Fin N es nd rn mts → ∃ k nd' rn' mts',nh' N es nd.length k nd nd' ∧ Ops N es nd nd' ∧ Bg' N nd' ∧ Fin N es nd' rn' mts' ∧ nd'.length = nd.length
 | 0,nd,rn,mts,hc,_=>absurd hc aa'
 | m + 1,nd,rn,mts,hc,F=>by
  have fS:=Yj' (nd:=nd) (nd.length + 1) N g.n0 Ba'
  by_cases z : rf' nd (nd.length + 1) N = -1
  ·refine ⟨1,nd,rn,mts,.done rfl F.wf z,.done,fun r hN ht=>?_,F,rfl⟩
   rcases fS with ⟨_,h⟩|⟨h,_⟩
   ·exact h r hN ht.i.2 ((Be' ht.i).2 ht)
   have:=g.n0;omega
  obtain ⟨q1,q2,q3⟩:=fS.resolve_left fun w=>z w.1
  obtain ⟨r,hr⟩ : ∃ r,rf' nd (nd.length + 1) N = r:=⟨_,rfl⟩
  rw [hr] at q1 q2 q3 z
  have ht:=(Be' q2).1 q3
  obtain ⟨U1,U2,rn2,mts2,b1,b2,b3,b4,-⟩:=F.opn g ht q1 y n b
  obtain ⟨k,nd3,rn3,mts3,c1,c2,c3,c4,c5⟩:=Tp' g y n b m _ rn2 mts2 (by rw [b3];omega) b2
  rw [b3] at c1 c5
  exact ⟨k + 1,nd3,rn3,mts3,.more rfl F.wf hr z U1 c1,.opn ht q1 c2,c3,c4,c5⟩
theorem yl' (g : Gph N most es) (y : List Int) (n : Int) (b : Bool) : ∀ (k : Nat) (i : Int) (nd : List S89) (rn : List S77) (mts : List S56),N ≤ i → (nd.length : Int) < i + k → Fin N es nd rn mts →
  ∃ nd' rn' mts',yi' N i ⟨y,rn,mts,n,b⟩ ⟨y,rn',mts',n,b⟩ ∧ Ops N es nd nd' ∧ Fin N es nd' rn' mts' ∧ nd'.length = nd.length ∧ cnt (alv nd') nd.length ≤ cnt (alv nd) nd.length ∧ ((∃ r,i ≤ r ∧ Top nd r) → cnt (alv nd') nd.length < cnt (alv nd) nd.length)
 | 0,i,nd,rn,mts,hN,hk,F=>⟨nd,rn,mts,.done (by show ¬i < (rn.length : Int);rw [F.len];omega) F.wfs,.done,F,rfl,Nat.le_refl _,fun ⟨r,h1,h2⟩=>by have:=h2.i.2;omega⟩
 | k + 1,i,nd,rn,mts,hN,hk,F=>by
  by_cases c : i < (nd.length : Int)
  ·have hn : inR i nd.length:=⟨Ba',c⟩
   by_cases t : Dd' (td' nd i) = true
   ·have ht:=(Be' hn).1 t
    obtain ⟨U1,U2,rn2,mts2,b1,b2,b3,b4,b5⟩:=F.opn g ht hN y n b
    obtain ⟨nd3,rn3,mts3,c1,c2,c3,c4,c5,c6⟩:=yl' g y n b k (i + 1) _ rn2 mts2 aa' (by rw [b3];omega) b2
    rw [b3] at c4 c5 c6
    exact ⟨nd3,rn3,mts3,.opn fd' F.wfs (by show Ce' (wd' rn i) = true;rw [F.top5 hn];exact t) U2 (by rw [b1];exact c1),.opn ht hN c2,c3,c4,aa',fun _=>by omega⟩
   obtain ⟨nd3,rn3,mts3,c1,c2,c3,c4,c5,c6⟩:=yl' g y n b k (i + 1) nd rn mts aa' aa' F
   refine ⟨nd3,rn3,mts3,.skip fd' F.wfs (by show Ce' (wd' rn i) = false;rw [F.top5 hn];exact Bool.eq_false_iff.2 t) c1,c2,c3,c4,c5,fun ⟨r,r1,r2⟩=>c6 ⟨r,?_,r2⟩⟩
   have : r ≠ i:=fun z=>t (by rw [← z];exact (Be' r2.i).2 r2)
   omega
  exact ⟨nd,rn,mts,.done (by show ¬i < (rn.length : Int);rw [F.len];exact c) F.wfs,.done,F,rfl,Nat.le_refl _,fun ⟨r,h1,h2⟩=>by have:=h2.i.2;omega⟩
theorem am' (g : Gph N most es) (y : List Int) (n : Int) (b : Bool) : ∀ (k : Nat) (nd : List S89) (rn : List S77) (mts : List S56),Fin N es nd rn mts →
  ∃ nd' rn' mts',Tg' N rn.length k ⟨y,rn,mts,n,b⟩ ⟨y,rn',mts',n,b⟩ ∧ Ops N es nd nd' ∧ Fin N es nd' rn' mts' ∧ nd'.length = nd.length ∧ (Bg' N nd' ∨ cnt (alv nd') nd.length + k ≤ cnt (alv nd) nd.length)
 | 0,nd,rn,mts,F=>⟨nd,rn,mts,.done rfl,.done,F,rfl,.inr (Nat.le_refl _)⟩
 | k + 1,nd,rn,mts,F=>by
  obtain ⟨nd1,rn1,mts1,a1,a2,a3,a4,a5,a6⟩:=yl' g y n b (nd.length + 1) N nd rn mts (Int.le_refl _) Ba' F
  obtain ⟨nd2,rn2,mts2,b1,b2,b3,b4,b5⟩:=am' g y n b k nd1 rn1 mts1 a3
  rw [a3.len,a4,← F.len] at b1
  refine ⟨nd2,rn2,mts2,.more rfl a1 b1,a2.trans b2,b3,b4.trans a4,?_⟩
  rw [a4] at b5
  rcases b5 with h|h
  ·exact .inl h
  by_cases c : ∃ r,N ≤ r ∧ Top nd r
  ·have:=a6 c
   exact .inr aa'
  have nt : Bg' N nd:=fun r hN ht=>c ⟨r,hN,ht⟩
  cases a2 with
  | done =>
   cases b2 with
   | done=>exact .inl nt
   | opn h hN _=>exact absurd h (nt _ hN)
  | opn h hN _=>exact absurd h (nt _ hN)
theorem cnt_pos {p : Int → Bool} {j : Int} {n : Nat} (h0 : 0 ≤ j) (h1 : j < n) (h : p j = true) : 0 < cnt p n:=by
 have:=fh' (p:=fun _=>false) (q:=p) (j:=j) (n:=n) (fun i _ _ h=>by cases h) h0 h1 h rfl
 omega
theorem Up' (g : Gph N most es) (F : Fin N es nd rn mts) (y : List Int) (n : Int) (b : Bool) :
  ∃ k nd1 rn2 mts2,nh' N es nd.length k nd nd1 ∧ nd1.length = nd.length ∧ Tg' N rn.length rn.length ⟨y,rn,mts,n,b⟩ ⟨y,rn2,mts2,n,b⟩ ∧ Bg' N nd1 ∧ Fin N es nd1 rn2 mts2:=by
 obtain ⟨k,nd1,rn1,mts1,a1,a2,a3,a4,a5⟩:=Tp' g y n b _ nd rn mts (Nat.lt_succ_self _) F
 obtain ⟨nd2,rn2,mts2,b1,b2,b3,b4,b5⟩:=am' g y n b rn.length nd rn mts F
 have nt : Bg' N nd2:=by
  rcases b5 with h|h
  ·exact h
  intro r hN ht
  have h1:=Xk' (p:=alv nd) (n:=nd.length)
  have h2:=cnt_pos (p:=alv nd2) (j:=r) (n:=nd.length) ht.i.1 (by have:=ht.i.2;omega) (by unfold alv;rw [ht.o];rfl)
  have h3:=F.len
  omega
 have zt : ∀ {x : List S89},Bg' N x → Bg' N (zr x):=fun h r hN ht=>h r hN (sf'.1 ht)
 have e:=Zi' g.zero _ (zr nd) (zr nd1) (zr nd2) (Nat.lt_succ_self _) F.inv F.zeros (Sp' a2) (Sp' b2) (zt a3) (zt nt)
 refine ⟨k,nd1,rn2,mts2,a1,a5,b1,a3,?_⟩
 obtain ⟨c1,c2,c3,c4,c5,c6⟩:=b3
 rw [← e] at c1 c2 c3 c5
 exact ⟨c1,c2,c3,c4,c5,c6⟩
theorem zi' {v : Int} : ∀ {l : List S56} {acc : List (Int × Int)},(∀ x ∈ l,¬(x.f0 = v ∧ v < x.f1) ∧ ¬(x.f1 = v ∧ v < x.f0)) → cplV v l acc = acc
 | [],_,_=>rfl
 | x :: l,acc,h=>by
  have q:=h x List.mem_cons_self
  rw [cplV,if_neg q.2,if_neg q.1]
  exact zi' fun z hz=>h z (List.mem_cons_of_mem _ hz)
theorem kn' {v w : Int} (hvw : v < w) {x : S56} (hx : (x.f0 = v ∧ x.f1 = w) ∨ (x.f0 = w ∧ x.f1 = v)) : ∀ {l : List S56} {acc : List (Int × Int)},l.Nodup → x ∈ l → (∀ z ∈ l,z ≠ x → ¬(z.f0 = v ∧ v < z.f1) ∧ ¬(z.f1 = v ∧ v < z.f0)) → cplV v l acc = acc ++ [(v,w)]
 | [],_,_,h,_=>absurd h List.not_mem_nil
 | z :: l,acc,hn,h,ho=>by
  have hn2:=List.nodup_cons.1 hn
  rw [cplV]
  by_cases c : z = x
  ·subst c
   have hl : ∀ u ∈ l,¬(u.f0 = v ∧ v < u.f1) ∧ ¬(u.f1 = v ∧ v < u.f0):=fun u hu=>ho u (List.mem_cons_of_mem _ hu) fun e=>hn2.1 (by rw [← e];exact hu)
   rcases hx with ⟨e1,e2⟩|⟨e1,e2⟩
   ·rw [if_neg aa',if_pos ⟨e1,aa'⟩,zi' hl,e2]
   rw [if_pos ⟨e2,aa'⟩,if_neg aa',zi' hl,e1]
  have q:=ho z List.mem_cons_self c
  rw [if_neg q.2,if_neg q.1]
  exact kn' hvw hx hn2.2 ((List.mem_cons.1 h).resolve_left fun e=>c e.symm) fun u hu=>ho u (List.mem_cons_of_mem _ hu)
theorem ln' (g : Gph N most es) (F : Fin N es nd rn mts) (nt : Bg' N nd) : ∀ (k : Nat) (v : Int) (acc : List (Int × Int)),0 ≤ v → aj' mts N k v acc = li' es nd N k v acc
 | 0,v,acc,h0=>rfl
 | k + 1,v,acc,h0=>by
  rw [aj',li']
  by_cases c : v < N
  ·rw [if_pos c,if_pos c,ln' g F nt k (v + 1) _ aa']
   congr 1
   have I:=F.inv
   have tv : ∀ {u : Int},0 ≤ u → u < N → topI (zr nd) u = u:=fun {u} u0 u1=>by
    have t:=I.top_v u0 u1
    have hin:=I.vtx u0 u1
    have h1 : ¬N ≤ topI (zr nd) u:=fun z=>nt _ z (sf'.1 t)
    by_cases q : (td' (zr nd) u).f2 = -1
    ·exact Xe' I.wf hin q
    exfalso
    have e:=Ae' I.wf hin
    rw [if_neg q] at e
    have h0:=(I.par u hin q).1
    have h2:=(te' I.wf hin).resolve_left q
    have h3:=fi' I.wf (Nd' I.wf h2) h2 (Gi' I.wf h2)
    omega
   have LK : ∀ x ∈ mts,∃ e,inR e es.length ∧ ie' es e x ∧ (td' nd x.f0).f3 = e ∧ (td' nd x.f1).f3 = e ∧ (ud' es e).f0 < (ud' es e).f1:=fun x hx=>by
    obtain ⟨e,e1,e2,e3,e4,e5⟩:=F.mrel.a x hx
    have hv:=e2.vtx g.zero e1
    rw [tv hv.1.1 hv.1.2,ee'] at e4
    rw [tv hv.2.1.1 hv.2.1.2,ee'] at e5
    rw [Ch'] at e1
    refine ⟨e,e1,?_,e4,e5,(g.e e e1).ab⟩
    unfold ie' at e2 ⊢
    rw [gh'] at e2
    exact e2
   have hvin:=I.vtx h0 c
   have tpv : Top nd v:=by
    have:=I.top_v h0 c
    rw [tv h0 c] at this
    exact sf'.1 this
   by_cases d : (td' nd v).f3 ≠ -1 ∧ (ud' es (td' nd v).f3).f0 = v
   ·rw [if_pos d]
    have d1 : (td' (zr nd) v).f3 ≠ -1:=by rw [ee'];exact d.1
    obtain ⟨x,x1,x2⟩:=F.mrel.b v (sf'.2 tpv) d1
    have x2' : ie' es (td' nd v).f3 x:=by
     unfold ie' at x2 ⊢
     rw [ee',gh'] at x2
     exact x2
    obtain ⟨e,e1,e2,e3,e4,e5⟩:=LK x x1
    have hM:=I.mate v (sf'.2 tpv) d1
    have hei : inR (td' nd v).f3 es.length:=by
     have:=hM.ei
     rw [ee',Ch'] at this
     exact this
    have ab:=(g.e _ hei).ab
    rw [d.2] at ab
    refine kn' ab (x:=x) ?_ F.nod x1 fun z hz hzx=>?_
    ·unfold ie' at x2'
     rw [d.2] at x2'
     rcases x2' with ⟨p,q⟩|⟨p,q⟩
     ·exact .inl ⟨p,q⟩
     exact .inr ⟨p,q⟩
    obtain ⟨f,f1,f2,f3,f4,f5⟩:=LK z hz
    have same : (z.f0 = v ∨ z.f1 = v) → False:=fun h=>by
     have ef : f = (td' nd v).f3:=by
      rcases h with h|h
      ·rw [← f3,h]
      rw [← f4,h]
     subst ef
     unfold ie' at f2 x2'
     have z2 : z = x ∨ (z.f0 = x.f1 ∧ z.f1 = x.f0):=by
      rcases f2 with ⟨p,q⟩|⟨p,q⟩ <;> rcases x2' with ⟨u,w⟩|⟨u,w⟩
      ·left;cases z;cases x;simp only at p q u w;rw [p,q,u,w]
      ·right;exact ⟨p.trans w.symm,q.trans u.symm⟩
      ·right;exact ⟨p.trans w.symm,q.trans u.symm⟩
      left;cases z;cases x;simp only at p q u w;rw [p,q,u,w]
     rcases z2 with h|⟨h1,h2⟩
     ·exact hzx h
     refine F.nrev x x1 ?_
     have : (⟨x.f1,x.f0⟩ : S56) = z:=by cases z;simp only at h1 h2;rw [h1,h2]
     rw [this];exact hz
    exact ⟨fun h=>same (.inl h.1),fun h=>same (.inr h.1)⟩
   rw [if_neg d]
   refine zi' fun x hx=>?_
   obtain ⟨e,e1,e2,e3,e4,e5⟩:=LK x hx
   have key : ∀ {p q : Int},(p = (ud' es e).f0 ∧ q = (ud' es e).f1) ∨ (p = (ud' es e).f1 ∧ q = (ud' es e).f0) → (td' nd p).f3 = e → p = v → v < q → False:=fun {p q} h h3 hp hq=>by
    subst hp
    rcases h with ⟨u,w⟩|⟨u,w⟩
    ·exact d ⟨by rw [h3];have:=e1.1;omega,by rw [h3];exact u.symm⟩
    rw [u,w] at hq;omega
   refine ⟨fun h=>key e2 e3 h.1 h.2,fun h=>key (p:=x.f1) (q:=x.f0) (e2.elim (fun h=>.inr ⟨h.2,h.1⟩) fun h=>.inl ⟨h.2,h.1⟩) e4 h.1 h.2⟩
  rw [if_neg c,if_neg c]
end
def He' {α : Type} (lt : α → α → Bool) (x : α) : List α → List α
 | []=>[x]
 | z :: l=>if lt x z = true then z :: He' lt x l else x :: z :: l
theorem bj' {α : Type} {lt : α → α → Bool} {x : α} : ∀ {l : List α},(He' lt x l).length = l.length + 1
 | []=>rfl
 | z :: l=>by
  rw [He']
  split
  ·rw [List.length_cons,bj',List.length_cons]
  rfl
theorem cl' {α : Type} {lt : α → α → Bool} {x z : α} : ∀ {l : List α},z ∈ He' lt x l → z = x ∨ z ∈ l
 | [],h=>.inl (List.mem_singleton.1 h)
 | y :: l,h=>by
  rw [He'] at h
  split at h
  ·rcases List.mem_cons.1 h with rfl|h
   ·exact .inr List.mem_cons_self
   exact (cl' h).imp_right (List.mem_cons_of_mem _)
  rcases List.mem_cons.1 h with rfl|h
  ·exact .inl rfl
  exact .inr h
theorem dl' {α β : Type} {f : α → β} {lt : α → α → Bool} {lt2 : β → β → Bool} (h : ∀ x y,lt x y = lt2 (f x) (f y)) {x : α} : ∀ {l : List α},(He' lt x l).map f = He' lt2 (f x) (l.map f)
 | []=>rfl
 | z :: l=>by
  rw [He',List.map_cons,He',← h]
  split
  ·rw [List.map_cons,dl' h]
  rfl
def Wf' {α : Type} (lt : α → α → Bool) (l o : List α) : List α:=l.foldl (fun o x=>He' lt x o) o
theorem cj' {α β : Type} {f : α → β} {lt : α → α → Bool} {lt2 : β → β → Bool} (h : ∀ x y,lt x y = lt2 (f x) (f y)) : ∀ {l o : List α},(Wf' lt l o).map f = Wf' lt2 (l.map f) (o.map f)
 | [],o=>rfl
 | x :: l,o=>by
  show (Wf' lt l (He' lt x o)).map f = Wf' lt2 (l.map f) (He' lt2 (f x) (o.map f))
  rw [cj' h,dl' h]
theorem el' {α : Type} {lt : α → α → Bool} : ∀ {l o : List α},(Wf' lt l o).length = l.length + o.length
 | [],o=>by rw [List.length_nil,Nat.zero_add];rfl
 | x :: l,o=>by
  show (Wf' lt l (He' lt x o)).length = _
  rw [el',bj',List.length_cons]
  omega
theorem fl' {α : Type} {lt : α → α → Bool} {z : α} : ∀ {l o : List α},z ∈ Wf' lt l o → z ∈ l ∨ z ∈ o
 | [],o,h=>.inr h
 | x :: l,o,h=>by
  rcases fl' (l:=l) (o:=He' lt x o) h with h|h
  ·exact .inl (List.mem_cons_of_mem _ h)
  rcases cl' h with rfl|h
  ·exact .inl List.mem_cons_self
  exact .inr h
section
variable {α : Type} [Inhabited α] {lt : α → α → Bool}
theorem Vp' (o : List α) (x : α) (rest : List α) : (o ++ x :: rest).toArray[o.length]! = x:=by
 simp
theorem Zj' (x : α) : ∀ (o rest : List α),Go.Sort.insInner lt 0 o.length (o.reverse ++ x :: rest).toArray = ((He' lt x o).reverse ++ rest).toArray
 | [],rest=>rfl
 | z :: o,rest=>by
  have e1 : ((z :: o).reverse ++ x :: rest).toArray[o.length + 1]! = x:=by
   have:=Vp' (z :: o).reverse x rest
   rw [List.length_reverse,List.length_cons] at this
   exact this
  have e2 : ((z :: o).reverse ++ x :: rest).toArray[o.length]! = z:=by
   have:=Vp' o.reverse z (x :: rest)
   rw [List.length_reverse] at this
   rw [List.reverse_cons,List.append_assoc]
   exact this
  rw [List.length_cons,Go.Sort.insInner,e1,e2,He']
  by_cases c : lt x z = true
  ·rw [if_pos c,if_pos (by simp [c]),Go.Sort.swp,e1,e2]
   have e3 : ((((z :: o).reverse ++ x :: rest).toArray.setIfInBounds (o.length + 1) z).setIfInBounds o.length x) = (o.reverse ++ x :: (z :: rest)).toArray:=by
    rw [List.setIfInBounds_toArray,List.setIfInBounds_toArray]
    congr 1
    rw [List.reverse_cons,List.append_assoc,List.set_append_right _ _ ia',List.set_append_right _ _ ia']
    simp
   rw [e3,Zj' x o (z :: rest),List.reverse_cons,List.append_assoc]
   rfl
  rw [if_neg c,if_neg (by simp [c])]
  simp
theorem ak' : ∀ (rest o : List α),Go.Sort.insOuter lt 0 (o.length + rest.length) o.length (o.reverse ++ rest).toArray = (Wf' lt rest o).reverse.toArray
 | [],o=>by
  rw [Go.Sort.insOuter,if_neg ia',List.append_nil]
  rfl
 | x :: rest,o=>by
  rw [Go.Sort.insOuter,if_pos ia',Zj']
  have:=ak' rest (He' lt x o)
  rw [bj'] at this
  rw [List.length_cons,show o.length + (rest.length + 1) = o.length + 1 + rest.length by omega]
  exact this
theorem xk' (l : List α) (h : 1 ≤ l.length) : Go.Sort.insertionSort lt l.toArray 0 l.length = (Wf' lt l []).reverse.toArray:=by
 cases l with
 | nil=>simp at h
 | cons x l =>
  have:=ak' (lt:=lt) l [x]
  rw [Go.Sort.insertionSort,List.length_cons,show l.length + 1 = [x].length + l.length by simp;omega]
  exact this
end
def ltG (x y : List Int × Int) : Bool:=Ve' x.1 y.1
theorem po' (X : List Int × Int) : ∀ (o tail : List (List Int × Int)) (f : Nat),o.length < f →
  (o.reverse ++ tail).take (Jh' X.1 (o.reverse ++ tail) f o.length).toNat ++ [X] ++ (o.reverse ++ tail).drop (Jh' X.1 (o.reverse ++ tail) f o.length).toNat = (He' ltG X o).reverse ++ tail
 | [],tail,f,hf=>by
  obtain ⟨f,rfl⟩ : ∃ z,f = z + 1:=⟨f - 1,aa'⟩
  rw [Jh',if_neg ia']
  rfl
 | z :: o,tail,f,hf=>by
  obtain ⟨f,rfl⟩ : ∃ z,f = z + 1:=⟨f - 1,aa'⟩
  rw [List.length_cons] at hf
  have e : ((z :: o).reverse ++ tail).getD (((z :: o).length : Int) - 1).toNat ([],0) = z:=by
   rw [List.length_cons,show ((o.length + 1 : Nat) : Int) - 1 = o.length by omega,Int.toNat_natCast,List.reverse_cons,List.append_assoc]
   simp [List.getD_eq_getElem?_getD]
  rw [Jh',e,He']
  by_cases c : Ve' X.1 z.1 = true
  ·rw [if_pos ⟨by rw [List.length_cons];omega,c⟩,if_pos (show ltG X z = true from c)]
   have ih:=po' X o (z :: tail) f aa'
   have e1 : (z :: o).reverse ++ tail = o.reverse ++ z :: tail:=by rw [List.reverse_cons,List.append_assoc];rfl
   have e2 : (z :: He' ltG X o).reverse ++ tail = (He' ltG X o).reverse ++ z :: tail:=by rw [List.reverse_cons,List.append_assoc];rfl
   rw [List.length_cons,show ((o.length + 1 : Nat) : Int) - 1 = o.length by omega,e1,e2]
   exact ih
  rw [if_neg (fun h=>c h.2),if_neg (show ¬ltG X z = true from c),Int.toNat_natCast]
  have l : (z :: o).length = (z :: o).reverse.length:=by rw [List.length_reverse]
  rw [l,List.take_left,List.drop_left]
  simp
theorem insF_is (X : List Int × Int) (out : List (List Int × Int)) : insF X out = (He' ltG X out.reverse).reverse:=by
 have:=po' X out.reverse [] (out.length + 1) ia'
 rw [List.reverse_reverse,List.append_nil,List.length_reverse,List.append_nil] at this
 exact this
section
variable {N most : Int} {es : List S73} {D : Int} {y y' : List Int} {nd nd' nd1 nd2 : List S89} {rn rn' : List S77} {mts : List S56} {r q a j d : Int}
theorem dj' : ∀ (k : Nat) (i : Int) (acc : List (List Int × Int)),Gf' nd N k i acc = acc ++ Gf' nd N k i []
 | 0,i,acc=>by rw [Gf',Gf',List.append_nil]
 | k + 1,i,acc=>by
  rw [Gf',Gf']
  split
  ·by_cases d : (td' nd i).f6 = true ∨ (td' nd i).f5 ≤ 0
   ·rw [if_pos d,if_pos d]
    exact dj' k (i + 1) acc
   rw [if_neg d,if_neg d,dj' k (i + 1) (acc ++ _),dj' k (i + 1) ([] ++ _),List.nil_append,List.append_assoc]
  rw [List.append_nil]
theorem qo' {nd nd' : List S89} {i : Int} (h : ∀ v,0 ≤ v → v < N → Ad' nd' i v = Ad' nd i v) : ∀ (k : Nat) (v : Int) (acc : List Int),0 ≤ v → ig' nd' i N k v acc = ig' nd i N k v acc
 | 0,v,acc,_=>rfl
 | k + 1,v,acc,h0=>by
  rw [ig',ig']
  by_cases c : v < N
  ·rw [if_pos c,if_pos c,h v h0 c,qo' h k (v + 1) _ aa']
  rw [if_neg c,if_neg c]
theorem ro' (hn : N ≤ nd.length) (hw : WFn nd) (hr : pe' es nd rn) : ∀ (k : Nat) (i : Int) (acc : List (List Int × Int)),0 ≤ i → oh' rn N k i acc = (Wf' ltG (Gf' nd N k i []) acc.reverse).reverse
 | 0,i,acc,_=>by rw [oh',Gf'];exact (List.reverse_reverse acc).symm
 | k + 1,i,acc,h0=>by
  rw [oh',Gf',hr.l]
  by_cases c : i < (nd.length : Int)
  ·have X:=hr.n i ⟨h0,c⟩
   rw [if_pos c,if_pos c,X.op,X.zz,ro' hn hw hr k (i + 1) _ aa']
   by_cases d : (td' nd i).f6 = true ∨ (td' nd i).f5 ≤ 0
   ·rw [if_pos d,if_pos d]
   rw [if_neg d,if_neg d,dj' k (i + 1) ([] ++ _),List.nil_append,insF_is,List.reverse_reverse]
   have e : ig' (cvs rn) i N (N.toNat + 1) 0 [] = ig' nd i N (N.toNat + 1) 0 []:=qo' (fun v v0 v1=>hr.has hw aa' ⟨v0,aa'⟩) _ _ _ (Int.le_refl 0)
   rw [e]
   rfl
  rw [if_neg c,if_neg c]
  exact (List.reverse_reverse acc).symm
end
end Go.Proofs.YtnffimpoekjkpaaGreat.QFnExactSolve
