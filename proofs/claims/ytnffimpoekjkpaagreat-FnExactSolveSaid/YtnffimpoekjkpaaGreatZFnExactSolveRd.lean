import Derived.Test.YtnffimpoekjkpaaGreatZFnExactSolve
import Derived.Deep.Slices
import Derived.ChangeArms
import Derived.DataReads
set_option linter.all false
namespace Go.Proofs.YtnffimpoekjkpaaGreat.Rd
open Go.ChangeShapes Go.WideShapes Go.Deep Go.RowKit Go.Proofs.YtnffimpoekjkpaaGreatW.PrintWords
def RD (P : Program) (t : TypeId) {α : Type} (d : Kd α) (ok : α → Prop) : Prop :=
 ∀ (H : Type) (enc : TypeId × Value → H) (w : World) (base : Nat) (spare : Nat → Bool) (held : Bool) (fuel : Nat) (cs : List Value) (x : DataW H × List MemPlace),
  DataW.trod enc P w base spare held fuel t cs = some x → ∃ a : α,d.K w a cs ∧ ok a
theorem rd_int {P : Program} {t : TypeId} {k : IntKind} (ht : P.underlying t = some (.int k)) : RD P t (Kd.int k) (fun n=>(Lit.int k n).wf = true):=by
 intro H enc w base spare held fuel cs x h
 obtain ⟨n,rfl,_,hw⟩:=DataW.trod_int ht h
 exact ⟨n,rfl,hw⟩
theorem rd_slice {P : Program} {t e : TypeId} {α : Type} [Inhabited α] {d : Kd α} {ok : α → Prop} (ht : P.underlying t = some (.slice e)) (hC : P.cellsOf e = d.sz) (h : RD P e d ok) :
  RD P t (Kd.slice e d) (fun xs=>xs.length ≤ 9223372036854775807 ∧ ∀ x ∈ xs,ok x):=by
 intro H enc w base spare held fuel cs x hx
 rcases open_slice ht hx with ⟨rfl,_⟩|⟨a,len,cap,m,n,D,Pl,rfl,hb,hl,hm,hmm,_,hi⟩
 ·exact ⟨[],⟨none,0,rfl,Nat.le_refl _,rfl,ia',fun hp=>by simp at hp⟩,ia',fun x hx=>by simp at hx⟩
 have hlm : len ≤ m:=by rw [hmm];split <;> omega
 have hm' : cap ≤ 9223372036854775807:=by simpa only [maxLen] using hm
 have key : ∀ i,i < len → ∃ b : α,(∃ cs',w.cells? base (a.add (i * P.cellsOf e)) (P.cellsOf e) = some cs' ∧ d.K w b cs') ∧ ok b:=by
  intro i hlt
  obtain ⟨cs',hc,ht'⟩:=hi i aa'
  obtain ⟨b,hK,ho⟩:=h H enc w base spare held n cs' _ ht'
  exact ⟨b,⟨cs',hc,hK⟩,ho⟩
 obtain ⟨f,hf⟩:=choose_lt key
 refine ⟨(List.range len).map f,⟨some a,cap,ia',by simpa using hl,ia',Ga',fun _=>⟨a,rfl,fun j p hj=>?_⟩⟩,Ga',fun x hx=>?_⟩
 ·have hjl : j < len:=by
   have:=(List.getElem?_eq_some_iff.1 hj).1
   simpa using this
  have hp : f j = p:=by simpa [hjl] using hj
  obtain ⟨⟨cs',hc,hK⟩,_⟩:=hf j hjl
  obtain ⟨_,hlen,hcell⟩:=World.cells?_some hc
  refine ⟨cs',by rw [hlen,hC],by rw [← hp];exact hK,fun i u hu=>?_⟩
  have hil : i < P.cellsOf e:=by rw [← hlen];exact (List.getElem?_eq_some_iff.1 hu).1
  have:=hcell i hil
  rw [hu,Go.Deep.add_add] at this
  rw [← hC]
  exact this
 obtain ⟨i,hi',rfl⟩:=List.mem_map.1 hx
 exact (hf i (List.mem_range.1 hi')).2
def RDs (P : Program) (total off : Nat) (fs : List Field) {α : Type} (d : Kd α) (ok : α → Prop) : Prop :=
 ∀ (H : Type) (enc : TypeId × Value → H) (w : World) (base : Nat) (spare : Nat → Bool) (held : Bool) (n : Nat) (cs : List Value),cs.length = total →
  (∀ f ∈ fs,∃ y,DataW.trod enc P w base spare held n f.type ((cs.drop f.offset).take (P.cellsOf f.type)) = some y) → ∃ a : α,d.K w a (cs.drop off) ∧ ok a
theorem rds_one {P : Program} {total off : Nat} {f : Field} {α : Type} {d : Kd α} {ok : α → Prop} (ho : f.offset = off) (ht : total = off + P.cellsOf f.type) (hd : RD P f.type d ok) : RDs P total off [f] d ok:=by
 intro H enc w base spare held n cs hl hf
 obtain ⟨y,hy⟩:=hf f (List.mem_singleton.2 rfl)
 rw [ho,List.take_of_length_le (by rw [List.length_drop];omega)] at hy
 exact hd H enc w base spare held n _ y hy
theorem rds_cons {P : Program} {total off : Nat} {f : Field} {fs : List Field} {α β : Type} {d : Kd α} {d' : Kd β} {ok : α → Prop} {ok' : β → Prop} (ho : f.offset = off) (hd : RD P f.type d ok) (hs : RDs P total (off + P.cellsOf f.type) fs d' ok') :
  RDs P total off (f :: fs) (Kd.pair d d') (fun x=>ok x.1 ∧ ok' x.2):=by
 intro H enc w base spare held n cs hl hf
 obtain ⟨y,hy⟩:=hf f (List.mem_cons_self ..)
 rw [ho] at hy
 obtain ⟨a,hK,hok⟩:=hd H enc w base spare held n _ y hy
 obtain ⟨b,hK',hok'⟩:=hs H enc w base spare held n cs hl (fun g hg=>hf g (List.mem_cons_of_mem _ hg))
 refine ⟨(a,b),⟨_,_,?_,hK,hK'⟩,hok,hok'⟩
 rw [← List.drop_drop,List.take_append_drop]
theorem rd_struct {P : Program} {t : TypeId} {fs : Array Field} {α : Type} {d : Kd α} {ok : α → Prop} (ht : P.underlying t = some (.struct fs)) (hs : RDs P (P.cellsOf t) 0 fs.toList d ok) : RD P t d ok:=by
 intro H enc w base spare held fuel cs x h
 obtain ⟨xs,n,_,_,hl,hlen,hg⟩:=DataW.trod_struct ht h
 have:=hs H enc w base spare held n cs hl (fun f hf=>by
  obtain ⟨i,hi,rfl⟩:=List.mem_iff_getElem.1 hf
  have hi' : i < fs.size:=by simpa using hi
  have:=hg i fs[i] (Array.getElem?_eq_getElem hi')
  refine ⟨xs[i]'aa',?_⟩
  rw [List.getElem?_eq_getElem aa'] at this
  simpa using this)
 simpa using this
theorem rd_iso {P : Program} {t : TypeId} {α β : Type} {d : Kd α} {ok : α → Prop} (h : RD P t d ok) (f : β → α) (g : α → β) (hfg : ∀ x,f (g x) = x) : RD P t (Kd.iso d f) (fun b=>ok (f b)):=by
 intro H enc w base spare held fuel cs x hx
 obtain ⟨a,hK,ho⟩:=h H enc w base spare held fuel cs x hx
 exact ⟨g a,by show d.K w (f (g a)) cs;rw [hfg];exact hK,by show ok (f (g a));rw [hfg];exact ho⟩
theorem rd_val {P : Program} {t : TypeId} {fs : Array Field} {α : Type} {d : Kd α} {ok : α → Prop} (ht : P.underlying t = some (.struct fs)) (h : RD P t d ok) {H : Type} {enc : TypeId × Value → H} {W : World} {w : World} {r : Reach} {b0 base : Nat} {spare : Nat → Bool} {held : Bool} {v : Value} {x : DataW H} {ps : List MemPlace}
  (hv : Value.okWide P W r b0 t v) (hd : DataW.Trod enc P w base spare held t v x ps) : ∃ (a : α) (cs : List Value),v = .agg cs.toArray ∧ d.K w a cs ∧ ok a:=by
 obtain ⟨cs,rfl,_⟩:=okWide_struct ht hv
 obtain ⟨fuel,hf⟩:=hd
 obtain ⟨a,hK,ho⟩:=h H enc w base spare held fuel _ _ hf
 exact ⟨a,cs.toList,ia',by simpa [Value.cells] using hK,ho⟩
end Go.Proofs.YtnffimpoekjkpaaGreat.Rd
