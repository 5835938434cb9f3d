import Derived.Test.YtnffimpoekjkpaaGreatZFnExactSolvex118
set_option linter.all false
namespace Go.Proofs.YtnffimpoekjkpaaGreat.QFnExactSolve
open Go.RowKit Go.Proofs.YtnffimpoekjkpaaGreatW.PrintWords Go.Proofs.YtnffimpoekjkpaaGreatW.PrintLast Go.Proofs.YtnffimpoekjkpaaGreatW.PrintMore
section
variable {N most : Int} {es : List S73} {D : Int} {y : List Int} {nd : List S89} {rn : List S77} {mts : List S56}
theorem Fin.top_all (F : Fin N es nd rn mts) (nt : Bg' N nd) {v : Int} (h0 : 0 ≤ v) (h1 : v < N) : Top nd v:=by
 have I:=F.inv
 have tv : topI (zr nd) v = v:=by
  have t:=I.top_v h0 h1
  have hin:=I.vtx h0 h1
  have h1 : ¬N ≤ topI (zr nd) v:=fun z=>nt _ z (sf'.1 t)
  by_cases q : (td' (zr nd) v).f2 = -1
  ·exact Xe' I.wf hin q
  exfalso
  have e:=Ae' I.wf hin
  rw [if_neg q] at e
  have h0:=(I.par v hin q).1
  have h2:=(te' I.wf hin).resolve_left q
  have h3:=fi' I.wf (Nd' I.wf h2) h2 (Gi' I.wf h2)
  omega
 have:=I.top_v h0 h1
 rw [tv] at this
 exact sf'.1 this
theorem Fin.mate_all (F : Fin N es nd rn mts) (nt : Bg' N nd) (v : Int) (h0 : 0 ≤ v) (h1 : v < N) : (td' nd v).f3 = -1 ∨ inR (td' nd v).f3 es.length:=by
 by_cases c : (td' nd v).f3 = -1
 ·exact .inl c
 have hM:=F.inv.mate v (sf'.2 (F.top_all nt h0 h1)) (by rw [ee'];exact c)
 have:=hM.ei
 rw [ee',Ch'] at this
 exact .inr this
theorem Bn' : ∀ (k : Nat) (v : Int) (acc : List (Int × Int)),(li' es nd N k v acc).length ≤ acc.length + k
 | 0,v,acc=>Nat.le_refl _
 | k + 1,v,acc=>by
  rw [li']
  split
  ·refine Nat.le_trans (Bn' k _ _) ?_
   split
   ·rw [List.length_append,List.length_singleton];omega
   omega
  omega
theorem Cn' {i : Int} : ∀ (k : Nat) (v : Int) (l : List Int),(ig' nd i N k v l).length ≤ l.length + k
 | 0,v,l=>Nat.le_refl _
 | k + 1,v,l=>by
  rw [ig']
  split
  ·refine Nat.le_trans (Cn' k _ _) ?_
   split
   ·rw [List.length_append,List.length_singleton];omega
   omega
  omega
theorem Dn' : ∀ (k : Nat) (i : Int) (acc : List (List Int × Int)),∀ p ∈ Gf' nd N k i acc,p ∈ acc ∨ p.1.length ≤ N.toNat + 1
 | 0,i,acc,p,h=>.inl h
 | k + 1,i,acc,p,h=>by
  rw [Gf'] at h
  split at h
  ·rcases Dn' k _ _ p h with h|h
   ·split at h
    ·exact .inl h
    rcases List.mem_append.1 h with h|h
    ·exact .inl h
    rw [List.mem_singleton.1 h]
    have:=Cn' (N:=N) (nd:=nd) (i:=i) (N.toNat + 1) 0 []
    exact .inr (by simpa using this)
   exact .inr h
  exact .inl h
theorem zk' {p : Int → Bool} : ∀ {m n : Nat},m ≤ n → cnt p m ≤ cnt p n
 | m,0,h=>by rw [show m = 0 by omega];exact Nat.le_refl _
 | m,n + 1,h=>by
  rcases Nat.lt_or_ge m (n + 1) with c|c
  ·refine Nat.le_trans (zk' (show m ≤ n by omega)) ?_
   rw [cnt]
   omega
  rw [show m = n + 1 by omega];exact Nat.le_refl _
theorem En' : ∀ (k : Nat) (i : Nat) (acc : List (List Int × Int)),i ≤ nd.length → (Gf' nd N k i acc).length + cnt (alv nd) i ≤ acc.length + cnt (alv nd) nd.length
 | 0,i,acc,h=>by
  have:=zk' (p:=alv nd) h
  rw [Gf'];omega
 | k + 1,i,acc,h=>by
  rw [Gf']
  split
  ·rename_i c
   have hi : i + 1 ≤ nd.length:=by omega
   have e:=En' k (i + 1) (if (td' nd i).f6 = true ∨ (td' nd i).f5 ≤ 0 then acc else acc ++ [(ig' nd i N (N.toNat + 1) 0 [],(td' nd i).f5)]) hi
   rw [show ((i + 1 : Nat) : Int) = (i : Int) + 1 by omega] at e
   rw [cnt] at e
   split at e
   ·rename_i q
    rw [if_pos q]
    split at e <;> omega
   rename_i q
   rw [if_neg q]
   have : alv nd i = true:=by
    unfold alv
    cases h6 : (td' nd i).f6 with
    | true=>exact absurd (.inl h6) q
    | false=>rfl
   rw [if_pos this,List.length_append,List.length_singleton] at e
   omega
  have:=zk' (p:=alv nd) h
  omega
theorem xo' {n : Int} {l : List S73} : ∀ (d : Nat) (i : Int),gkF n l d i = true → ∀ j,i ≤ j → j < i + d → edB n (ud' l j) = true
 | 0,i,_,j,h1,h2=>by omega
 | d + 1,i,h,j,h1,h2=>by
  rw [gkF,Bool.and_eq_true] at h
  by_cases q : j = i
  ·subst q
   have h3:=h.1
   rw [gkAt,Bool.and_eq_true] at h3
   exact h3.1
  exact xo' d (i + 1) h.2 j aa' aa'
theorem gkB_gph {n : Int} {l : List S73} (h : gkB n l = true) : Gph n (kg' l) l:=by
 rw [gkB,Bool.and_eq_true] at h
 have hn:=of_decide_eq_true h.1
 exact gph_of hn.1 hn.2 fun i hi=>by
  have q:=of_decide_eq_true (xo' _ _ h.2 i hi.1 (by have:=hi.2;omega))
  exact ⟨q.1,q.2.1,q.2.2.1,q.2.2.2.1,q.2.2.2.2.1,q.2.2.2.2.2⟩
theorem answers (g : Gph N (kg' es) es) (h1 : es.length ≤ 1048576 ∧ gkB N es = true) :
  ∃ (C : List S58) (Y : List Int) (G : List S80),AnsS N es true C Y G ∧ C.length ≤ 1000 ∧ Y.length ≤ 1000 ∧ G.length ≤ 1000 ∧ ∀ x ∈ G,x.f0.length ≤ 1000:=by
 obtain ⟨ki,ks,s,t,D,r1,r2,-,ry,St⟩:=Oo' g
 have n0:=g.n0
 have n9:=g.n9
 have I:=St.inv
 have F:=St.fin g
 obtain ⟨kc,nd1,rn2,mts2,c1,c2,p1,nt,F2⟩:=Up' g F t.y t.rn t.dn
 have hl : t.nd.length = s.nd.length:=St.rel.l
 have ml:=F2.mrel.len g.zero F2.nod
 have hgi:=En' (nd:=s.nd) (N:=N) (s.nd.length + 1) N.toNat [] (by have:=I.nn;omega)
 rw [show ((N.toNat : Nat) : Int) = N by omega] at hgi
 have hal:=wk' g I
 rw [List.length_nil] at hgi
 have hsp:=ro' (N:=N) I.nn I.wf St.rel (s.nd.length + 1) N [] n0
 have hsort : bf' ((Gf' s.nd N (s.nd.length + 1) N []).map mkG) = (oh' t.nd N (s.nd.length + 1) N []).map mkG:=by
  rw [hsp,List.map_reverse,List.reverse_nil]
  have:=cj' (f:=mkG) (lt:=ltG) (lt2:=fun x y : S80=>Ve' x.f0 y.f0) (fun _ _=>rfl) (l:=Gf' s.nd N (s.nd.length + 1) N []) (o:=[])
  rw [this]
  rfl
 have hcp:=ln' g F2 nt (N.toNat + 1) 0 [] (Int.le_refl 0)
 have hcl:=Bn' (es:=es) (nd:=nd1) (N:=N) (N.toNat + 1) 0 []
 rw [List.length_nil] at hcl
 refine ⟨(li' es nd1 N (N.toNat + 1) 0 []).map mkC,s.y,(oh' t.nd N (s.nd.length + 1) N []).map mkG,⟨h1,(fun h=>absurd h ba'),fun _=>⟨⟨n0,aa'⟩,⟨ki,s,_,kc,nd1,_,r1,I.wf,I.eok g,I.nn,by have:=I.sz;omega,by have:=I.yl;omega,rfl,aa',c1,F2.mate_all nt,c2,rfl,rfl,rfl,hsort⟩,⟨ks,t,_,⟨t.y,rn2,mts2,t.rn,t.dn⟩,_,r2,St.rel.wf I.wf,by rw [hl];exact I.nn,by rw [hl];have:=I.sz;omega,by rw [ry];have:=I.yl;omega,rfl,p1,by show mts2.length ≤ _;omega,hcp,aa',rfl,ry,by rw [hl]⟩⟩⟩,by rw [List.length_map];omega,by have:=I.yl;omega,?_,?_⟩
 ·rw [List.length_map,hsp,List.length_reverse,el',List.reverse_nil,List.length_nil]
  omega
 intro x hx
 obtain ⟨p,hp,rfl⟩:=List.mem_map.1 hx
 rw [hsp,List.mem_reverse] at hp
 rcases fl' hp with h|h
 ·rcases Dn' _ _ _ p h with h|h
  ·cases h
  show p.1.length ≤ 1000
  omega
 cases h
end
end Go.Proofs.YtnffimpoekjkpaaGreat.QFnExactSolve
