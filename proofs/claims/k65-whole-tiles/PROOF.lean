import PyProof.Rows.All
import Wide.All
import OpenK.AllK
import Wide.FinOn
import HandS.ForMost
import HandS.TupAny
import HandS.IsInst
import HandS.Deep
import HandS.Flow
import HandS.Words
import HandS.TupLe
import HandS.TupMul
import HandS.Zip
import HandS.Style
import HandS.Text
import HandS.RaiseMore
import HandS.SetFor
import HandS.More
import HandS.SortInts
import KE.SortData
import KE.DataMinMax
import KE.GoesEnum
import HandS.Wide
import HandS.WideBits
import HandS.Conv
import HandS.TupSets
import PyProof.TupleOfSeq
import PySem.Challenge.RW_albumsfilled_k65_whole_tiles_laid
set_option Elab.async false
set_option linter.all false
set_option maxRecDepth 100000
namespace Sn
open PySem PySem.Spec PyProof.Rows L2

/-! ### data, computations -/
inductive D where
  | non | bl (b : Bool) | int (i : Int) | str (x : Str) | tup (xs : List D) | lst (xs : List D) | dct (kvs : List (D × D)) | box

def M (S : Type) (α : Type) : Type := S → Option (α × S)
section
variable {S α β γ : Type}
def ret (a : α) : M S α := fun s => some (a, s)
def stuck : M S α := fun _ => none
def bnd (m : M S α) (k : α → M S β) : M S β := fun s => match m s with
  | none => none
  | some (a, s') => k a s'
theorem bnd_some {m : M S α} {k : α → M S β} {s : S} {r : β × S} (h : bnd m k s = some r) : ∃ a s', m s = some (a, s') ∧ k a s' = some r := by
  unfold bnd at h
  cases e : m s with
  | none => rw [e] at h; cases h
  | some p => obtain ⟨a, s'⟩ := p; rw [e] at h; exact ⟨a, s', rfl, h⟩
theorem ret_some {a b : α} {s s' : S} (h : (ret a : M S α) s = some (b, s')) : b = a ∧ s' = s := by
  have h' : some (a, s) = some (b, s') := h
  cases h'
  exact ⟨rfl, rfl⟩
theorem stuck_some {s : S} {r : α × S} (h : (stuck : M S α) s = some r) : False := by cases (show (none : Option (α × S)) = some r from h)
theorem bnd_ret (a : α) (k : α → M S β) : bnd (ret a) k = k a := rfl
theorem bnd_stuck (k : α → M S β) : bnd stuck k = stuck := rfl
theorem bnd_bnd (m : M S α) (k : α → M S β) (l : β → M S γ) : bnd (bnd m k) l = bnd m fun a => bnd (k a) l := by
  funext s
  unfold bnd
  cases m s with
  | none => rfl
  | some p => rfl
theorem bnd_id (m : M S α) : bnd m ret = m := by
  funext s
  unfold bnd
  cases m s with
  | none => rfl
  | some p => rfl
theorem bnd_ite {c : Prop} [Decidable c] (m n : M S α) (k : α → M S β) : bnd (if c then m else n) k = if c then bnd m k else bnd n k := by
  split <;> rfl
end

/-- the law's box: how a state of it lies in the heap -/
class BoxS (S : Type) where
  R : S → Addr → Addr → Hp → Prop
  there : ∀ {st β γ H}, R st β γ H → (∃ o, H β = some o) ∧ ∃ o, H γ = some o
  congr : ∀ {st β γ H H'}, R st β γ H → H' β = H β → H' γ = H γ → R st β γ H'

structure Wd where
  β : Addr
  γ : Addr
def Wd.bx (W : Wd) (a : Addr) : Prop := a = W.β ∨ a = W.γ

def keyD : Key → D
  | .inl i => .int i
  | .inr x => .str x

/-! ### how data lies in a heap that stays as it is -/
/-- a tuple: tracked, or an object of the module -/
def TupAt (K : PySem.W.Frag) (Z : Hp) (a : Addr) (vs : List V) : Prop :=
  Z a = some (.tup vs) ∨ ∃ (o : Obj) (its : Array Value) (n : Nat), K.lookup a = some o ∧ o.cls = .type "tuple" ∧ o.data = .seq its n ∧ its.size ≤ sizeLine ∧ Vals vs its.toList
mutual
inductive Rep (K : PySem.W.Frag) (β : Addr) (Z : Hp) : D → V → Prop
  | non : Rep K β Z .non .non
  | bl (b : Bool) : Rep K β Z (.bl b) (.bl b)
  | int (i : Int) : Rep K β Z (.int i) (.int i)
  | str (x : Str) : Rep K β Z (.str x) (.str x)
  | box : Rep K β Z .box (.ref β)
  | tup {a : Addr} {vs : List V} {ds : List D} : TupAt K Z a vs → RepL K β Z ds vs → Rep K β Z (.tup ds) (.ref a)
  | lst {a : Addr} {vs : List V} {ds : List D} : Z a = some (.lst vs) → RepL K β Z ds vs → Rep K β Z (.lst ds) (.ref a)
  | dK {a : Addr} {kvs : List (Key × V)} {ds : List (D × D)} : Z a = some (.dK kvs) → RepK K β Z ds kvs → Rep K β Z (.dct ds) (.ref a)
  | dT {a : Addr} {kvs : List (List Key × V)} {ds : List (D × D)} : Z a = some (.dT kvs) → RepT K β Z ds kvs → Rep K β Z (.dct ds) (.ref a)
inductive RepL (K : PySem.W.Frag) (β : Addr) (Z : Hp) : List D → List V → Prop
  | nil : RepL K β Z [] []
  | cons {d : D} {v : V} {ds : List D} {vs : List V} : Rep K β Z d v → RepL K β Z ds vs → RepL K β Z (d :: ds) (v :: vs)
inductive RepK (K : PySem.W.Frag) (β : Addr) (Z : Hp) : List (D × D) → List (Key × V) → Prop
  | nil : RepK K β Z [] []
  | cons {k : Key} {d : D} {v : V} {ds : List (D × D)} {vs : List (Key × V)} : Rep K β Z d v → RepK K β Z ds vs → RepK K β Z ((keyD k, d) :: ds) ((k, v) :: vs)
inductive RepT (K : PySem.W.Frag) (β : Addr) (Z : Hp) : List (D × D) → List (List Key × V) → Prop
  | cons {k : List Key} {d : D} {v : V} {ds : List (D × D)} {vs : List (List Key × V)} : Rep K β Z d v → RepT K β Z ds vs → RepT K β Z ((.tup (k.map keyD), d) :: ds) ((k, v) :: vs)
end

def Sub (Z Z' : Hp) : Prop := ∀ a o, Z a = some o → Z' a = some o
theorem Sub.refl (Z : Hp) : Sub Z Z := fun _ _ h => h
theorem Sub.trans {Z Z1 Z2 : Hp} (h : Sub Z Z1) (g : Sub Z1 Z2) : Sub Z Z2 := fun a o e => g a o (h a o e)
theorem Sub.tupAt {K : PySem.W.Frag} {Z Z' : Hp} {a : Addr} {vs : List V} (s : Sub Z Z') (h : TupAt K Z a vs) : TupAt K Z' a vs := h.elim (fun h => .inl (s _ _ h)) .inr
theorem Sub.sqT {K : PySem.W.Frag} {Z Z' : Hp} {a : Addr} {vs : List V} (s : Sub Z Z') (h : TupAt K Z a vs) : SqT K Z' a vs := h.elim (fun h => .inl (.inl (s _ _ h))) .inr
theorem Sub.sqTT {K : PySem.W.Frag} {Z Z' : Hp} {a : Addr} {vs : List V} (s : Sub Z Z') (h : SqT K Z a vs) : SqT K Z' a vs := by
  rcases h with (h | ⟨o, h⟩) | h
  · exact .inl (.inl (s _ _ h))
  · exact .inl (.inr ⟨o, s _ _ h⟩)
  · exact .inr h
theorem Sub.sqL {K : PySem.W.Frag} {Z Z' : Hp} {a : Addr} {vs : List V} (s : Sub Z Z') (h : SqL K Z a vs) : SqL K Z' a vs := by
  rcases h with (h | ⟨o, h⟩) | h
  · exact .inl (.inl (s _ _ h))
  · exact .inl (.inr ⟨o, s _ _ h⟩)
  · exact .inr h

section
variable {K : PySem.W.Frag} {β : Addr} {Z Z' : Hp}
mutual
theorem Rep.mono (s : Sub Z Z') : ∀ {d : D} {v : V}, Rep K β Z d v → Rep K β Z' d v
  | _, _, .non => .non
  | _, _, .bl b => .bl b
  | _, _, .int i => .int i
  | _, _, .str x => .str x
  | _, _, .box => .box
  | _, _, .tup h r => .tup (s.tupAt h) (RepL.mono s r)
  | _, _, .lst h r => .lst (s _ _ h) (RepL.mono s r)
  | _, _, .dK h r => .dK (s _ _ h) (RepK.mono s r)
  | _, _, .dT h r => .dT (s _ _ h) (RepT.mono s r)
theorem RepL.mono (s : Sub Z Z') : ∀ {d : List D} {v : List V}, RepL K β Z d v → RepL K β Z' d v
  | _, _, .nil => .nil
  | _, _, .cons h r => .cons (Rep.mono s h) (RepL.mono s r)
theorem RepK.mono (s : Sub Z Z') : ∀ {d : List (D × D)} {v : List (Key × V)}, RepK K β Z d v → RepK K β Z' d v
  | _, _, .nil => .nil
  | _, _, .cons h r => .cons (Rep.mono s h) (RepK.mono s r)
theorem RepT.mono (s : Sub Z Z') : ∀ {d : List (D × D)} {v : List (List Key × V)}, RepT K β Z d v → RepT K β Z' d v
  | _, _, .cons h r => .cons (Rep.mono s h) (RepT.mono s r)
end
theorem RepL.length : ∀ {ds : List D} {vs : List V}, RepL K β Z ds vs → ds.length = vs.length
  | _, _, .nil => rfl
  | _, _, .cons _ r => by rw [List.length_cons, List.length_cons, RepL.length r]
theorem RepL.append : ∀ {ds es : List D} {vs us : List V}, RepL K β Z ds vs → RepL K β Z es us → RepL K β Z (ds ++ es) (vs ++ us)
  | _, _, _, _, .nil, s => s
  | _, _, _, _, .cons h r, s => .cons h (RepL.append r s)
theorem RepL.get : ∀ {ds : List D} {vs : List V} {i : Nat} {d : D}, RepL K β Z ds vs → ds[i]? = some d → ∃ v, vs[i]? = some v ∧ Rep K β Z d v
  | _, _, _, _, .nil, e => by simp at e
  | _, _, 0, _, .cons h _, e => by simp at e; subst e; exact ⟨_, rfl, h⟩
  | _, _, i + 1, d, .cons _ r, e => by
    obtain ⟨v, h1, h2⟩ := RepL.get (i := i) (d := d) r (by simpa using e)
    exact ⟨v, by simpa using h1, h2⟩
theorem RepL.get' : ∀ {ds : List D} {vs : List V} {i : Nat} {v : V}, RepL K β Z ds vs → vs[i]? = some v → ∃ d, ds[i]? = some d ∧ Rep K β Z d v
  | _, _, _, _, .nil, e => by simp at e
  | _, _, 0, _, .cons h _, e => by simp at e; subst e; exact ⟨_, rfl, h⟩
  | _, _, i + 1, d, .cons _ r, e => by
    obtain ⟨v, h1, h2⟩ := RepL.get' (i := i) (v := d) r (by simpa using e)
    exact ⟨v, by simpa using h1, h2⟩
theorem RepL.take : ∀ {ds : List D} {vs : List V} (n : Nat), RepL K β Z ds vs → RepL K β Z (ds.take n) (vs.take n)
  | _, _, 0, _ => .nil
  | _, _, _ + 1, .nil => .nil
  | _, _, n + 1, .cons h r => .cons h (RepL.take n r)
theorem RepL.drop : ∀ {ds : List D} {vs : List V} (n : Nat), RepL K β Z ds vs → RepL K β Z (ds.drop n) (vs.drop n)
  | _, _, 0, r => r
  | _, _, _ + 1, .nil => .nil
  | _, _, n + 1, .cons _ r => RepL.drop n r
theorem RepL.set {d : D} {v : V} (q : Rep K β Z d v) : ∀ {ds : List D} {vs : List V} (n : Nat), RepL K β Z ds vs → RepL K β Z (ds.set n d) (vs.set n v)
  | _, _, _, .nil => .nil
  | _, _, 0, .cons _ r => .cons q r
  | _, _, n + 1, .cons h r => .cons h (RepL.set q n r)
theorem RepL.erase : ∀ {ds : List D} {vs : List V} (n : Nat), RepL K β Z ds vs → RepL K β Z (ds.eraseIdx n) (vs.eraseIdx n)
  | _, _, _, .nil => .nil
  | _, _, 0, .cons _ r => r
  | _, _, n + 1, .cons h r => .cons h (RepL.erase n r)
theorem RepL.rev : ∀ {ds : List D} {vs : List V}, RepL K β Z ds vs → RepL K β Z ds.reverse vs.reverse
  | _, _, .nil => .nil
  | _, _, .cons h r => by rw [List.reverse_cons, List.reverse_cons]; exact (RepL.rev r).append (.cons h .nil)
end

/-- the outermost list or dict may be one that changes later -/
def Rep1 (K : PySem.W.Frag) (β : Addr) (Z H : Hp) (d : D) (v : V) : Prop :=
  match d with
  | .lst ds => ∃ a vs, v = .ref a ∧ H a = some (.lst vs) ∧ RepL K β Z ds vs
  | .dct ds => ∃ a, v = .ref a ∧ ((∃ kvs, H a = some (.dK kvs) ∧ RepK K β Z ds kvs) ∨ ∃ kvs, H a = some (.dT kvs) ∧ RepT K β Z ds kvs)
  | d => Rep K β Z d v
def isMut : D → Bool
  | .lst _ => true
  | .dct _ => true
  | _ => false
section
variable {K : PySem.W.Frag} {β : Addr} {Z Z' H H' : Hp}
theorem Rep.one {d : D} {v : V} (s : Sub Z H) (r : Rep K β Z d v) : Rep1 K β Z H d v := by
  cases d with
  | lst ds => cases r with | lst h r => exact ⟨_, _, rfl, s _ _ h, r⟩
  | dct ds => cases r with
    | dK h r => exact ⟨_, rfl, .inl ⟨_, s _ _ h, r⟩⟩
    | dT h r => exact ⟨_, rfl, .inr ⟨_, s _ _ h, r⟩⟩
  | _ => exact r
theorem Rep1.mono {d : D} {v : V} (s : Sub Z Z') (t : ∀ a, v = .ref a → ∀ o, H a = some o → H' a = some o) (r : Rep1 K β Z H d v) : Rep1 K β Z' H' d v := by
  cases d with
  | lst ds => obtain ⟨a, vs, rfl, h, r⟩ := r; exact ⟨a, vs, rfl, t a rfl _ h, r.mono s⟩
  | dct ds =>
    obtain ⟨a, rfl, ⟨kvs, h, r⟩ | ⟨kvs, h, r⟩⟩ := r
    · exact ⟨a, rfl, .inl ⟨kvs, t a rfl _ h, r.mono s⟩⟩
    · exact ⟨a, rfl, .inr ⟨kvs, t a rfl _ h, r.mono s⟩⟩
  | _ => exact Rep.mono s r
theorem Rep1.rep {d : D} {v : V} (r : Rep1 K β Z H d v) (s : ∀ a, v = .ref a → isMut d = true → Z a = H a) : Rep K β Z d v := by
  cases d with
  | lst ds => obtain ⟨a, vs, rfl, h, r⟩ := r; exact .lst ((s a rfl rfl).trans h) r
  | dct ds =>
    obtain ⟨a, rfl, ⟨kvs, h, r⟩ | ⟨kvs, h, r⟩⟩ := r
    · exact .dK ((s a rfl rfl).trans h) r
    · exact .dT ((s a rfl rfl).trans h) r
  | _ => exact r
end

/-! ### what is known of the slots -/
inductive En where
  | frz (d : D) | own (d : D)
abbrev SCx := List (Option En)
/-- slot i holds an own list or dict at a -/
def ownA (Γ : SCx) (σ : L2.St) (a : Addr) : Prop := ∃ (i : Nat) (d : D), Γ[i]? = some (some (En.own d)) ∧ σ[i]? = some (some (V.ref a))

/-- no list and no tuple is longer than the line -/
def Sz (H : Hp) : Prop := ∀ (a : Addr) (vs : List V), H a = some (.lst vs) ∨ H a = some (.tup vs) → vs.length ≤ sizeLine
def SzO : HO → Prop
  | .lst vs => vs.length ≤ sizeLine
  | .tup vs => vs.length ≤ sizeLine
  | _ => True
theorem Sz.upd {H : Hp} {p : Addr} {o : HO} (h : Sz H) (q : SzO o) : Sz (L2.upd H p o) := fun a vs hr => by
  by_cases e : a = p
  · subst e
    rcases hr with hr | hr <;> (rw [upd_same] at hr; cases hr; exact q)
  · rw [upd_ne e] at hr
    exact h a vs hr
theorem Sz.tup {K : PySem.W.Frag} {H : Hp} {a : Addr} {vs : List V} (h : Sz H) (q : TupAt K H a vs) : vs.length ≤ sizeLine := by
  rcases q with q | ⟨o, its, n, _, _, _, hz, r⟩
  · exact h a vs (.inr q)
  · have e := r.length
    simp only [Array.length_toList] at e
    omega
theorem Sz.lst {H : Hp} {a : Addr} {vs : List V} (h : Sz H) (q : H a = some (.lst vs)) : vs.length ≤ sizeLine := h a vs (.inl q)
structure SR {S : Type} [BoxS S] (K : PySem.W.Frag) (W : Wd) (Γ : SCx) (σ : L2.St) (Z H : Hp) (st : S) : Prop where
  ln : σ.length = Γ.length
  sz : Sz H
  box : BoxS.R st W.β W.γ H
  zh : ∀ a o, Z a = some o → H a = some o ∧ ¬ W.bx a
  frz : ∀ (i : Nat) (d : D), Γ[i]? = some (some (En.frz d)) → ∃ v, σ[i]? = some (some v) ∧ Rep K W.β Z d v
  own : ∀ (i : Nat) (d : D), Γ[i]? = some (some (En.own d)) → ∃ a, σ[i]? = some (some (V.ref a)) ∧ Z a = none ∧ ¬ W.bx a ∧ isMut d = true ∧ Rep1 K W.β Z H d (.ref a)
  dis : ∀ (i j : Nat) (d e : D) (a : Addr), Γ[i]? = some (some (En.own d)) → Γ[j]? = some (some (En.own e)) → σ[i]? = some (some (V.ref a)) → σ[j]? = some (some (V.ref a)) → i = j

/-- what an expression may do: new objects, the box -/
structure Stp (W : Wd) (Z H Z' H' : Hp) : Prop where
  zz : Sub Z Z'
  zh : ∀ a o, Z' a = some o → H' a = some o ∧ ¬ W.bx a
  hh : ∀ a o, H a = some o → ¬ W.bx a → H' a = some o
  nw : ∀ a o, Z' a = some o → Z a = some o ∨ H a = none
  sz : Sz H → Sz H'
section
variable {S : Type} [BoxS S] {K : PySem.W.Frag} {W : Wd} {Γ Γ' : SCx} {σ σ' : L2.St} {Z H Z' H' Z1 H1 Z2 H2 : Hp} {st st' : S}
theorem Stp.refl (zh : ∀ a o, Z a = some o → H a = some o ∧ ¬ W.bx a) : Stp W Z H Z H := ⟨Sub.refl _, zh, fun _ _ h _ => h, fun _ _ h => .inl h, id⟩
theorem Stp.trans (s : Stp W Z H Z1 H1) (t : Stp W Z1 H1 Z2 H2) : Stp W Z H Z2 H2 where
  zz := s.zz.trans t.zz
  zh := t.zh
  hh := fun a o h n => t.hh a o (s.hh a o h n) n
  nw := fun a o h => by
    rcases t.nw a o h with q | q
    · exact s.nw a o q
    · cases e : H a with
      | none => exact .inr rfl
      | some u =>
        have nb : ¬ W.bx a := (t.zh a o h).2
        rw [s.hh a u e nb] at q; cases q
  sz := fun h => t.sz (s.sz h)
theorem SR.refl (r : SR K W Γ σ Z H st) : Stp W Z H Z H := Stp.refl r.zh
theorem SR.sub (r : SR K W Γ σ Z H st) : Sub Z H := fun a o h => (r.zh a o h).1
theorem Stp.sub (r : Stp W Z H Z' H') : Sub Z' H' := fun a o h => (r.zh a o h).1
theorem BoxS.bxThere (r : BoxS.R st W.β W.γ H) {a : Addr} (h : H a = none) : ¬ W.bx a := fun q => by
  obtain ⟨⟨o, e1⟩, ⟨u, e2⟩⟩ := BoxS.there r
  rcases q with q | q
  · rw [q, e1] at h; cases h
  · rw [q, e2] at h; cases h
/-- behind an expression all slots stand as they stood -/
theorem SR.step (r : SR K W Γ σ Z H st) (s : Stp W Z H Z' H') (b : BoxS.R st' W.β W.γ H') : SR K W Γ σ Z' H' st' where
  ln := r.ln
  sz := s.sz r.sz
  box := b
  zh := s.zh
  frz := fun i d h => by
    obtain ⟨v, e, q⟩ := r.frz i d h
    exact ⟨v, e, q.mono s.zz⟩
  own := fun i d h => by
    obtain ⟨a, e, z, n, mu, q⟩ := r.own i d h
    have hx : ∃ o, H a = some o := by
      cases d with
      | lst ds => obtain ⟨b, vs, eb, h, _⟩ := q; cases eb; exact ⟨_, h⟩
      | dct ds =>
        obtain ⟨b, eb, ⟨kvs, h, _⟩ | ⟨kvs, h, _⟩⟩ := q
        · cases eb; exact ⟨_, h⟩
        · cases eb; exact ⟨_, h⟩
      | _ => cases mu
    refine ⟨a, e, ?_, n, mu, q.mono s.zz fun b eb o h => ?_⟩
    · cases q' : Z' a with
      | none => rfl
      | some o =>
        rcases s.nw a o q' with w | w
        · rw [z] at w; cases w
        · obtain ⟨o, ho⟩ := hx; rw [ho] at w; cases w
    · cases eb; exact s.hh _ o h n
  dis := r.dis
theorem SR.ownThere (r : SR K W Γ σ Z H st) {a : Addr} (h : ownA Γ σ a) : ∃ o, H a = some o := by
  obtain ⟨i, d, h1, h2⟩ := h
  obtain ⟨b, e, z, n, mu, q⟩ := r.own i d h1
  rw [h2] at e; cases e
  cases d with
  | lst ds => obtain ⟨b, vs, eb, h, _⟩ := q; cases eb; exact ⟨_, h⟩
  | dct ds =>
    obtain ⟨b, eb, ⟨kvs, h, _⟩ | ⟨kvs, h, _⟩⟩ := q
    · cases eb; exact ⟨_, h⟩
    · cases eb; exact ⟨_, h⟩
  | _ => cases mu
end
/-- a new object laid, frozen -/
theorem upd_get {H : Hp} {p a : Addr} {o u : HO} (h : upd H p o a = some u) : (a = p ∧ u = o) ∨ (a ≠ p ∧ H a = some u) := by
  by_cases e : a = p
  · subst e; rw [upd_same] at h; cases h; exact .inl ⟨rfl, rfl⟩
  · rw [upd_ne e] at h; exact .inr ⟨e, h⟩
theorem upd_none {H : Hp} {p a : Addr} {o u : HO} (n : H p = none) (h : H a = some u) : upd H p o a = some u := by
  rw [upd_ne (ne_of_none h n)]; exact h
section
variable {S : Type} [BoxS S] {W : Wd} {Z H : Hp} {st : S} {p : Addr} {o : HO}
theorem z_none (zh : ∀ a o, Z a = some o → H a = some o ∧ ¬ W.bx a) (n : H p = none) : Z p = none := by
  cases e : Z p with
  | none => rfl
  | some u => rw [(zh p u e).1] at n; cases n
/-- .. frozen at once -/
theorem Stp.layZ (zh : ∀ a o, Z a = some o → H a = some o ∧ ¬ W.bx a) (b : BoxS.R st W.β W.γ H) (n : H p = none) (so : SzO o) : Stp W Z H (upd Z p o) (upd H p o) where
  zz := fun a u h => upd_none (z_none zh n) h
  zh := fun a u h => by
    rcases upd_get h with ⟨rfl, rfl⟩ | ⟨e, h⟩
    · exact ⟨upd_same, BoxS.bxThere b n⟩
    · exact ⟨by rw [upd_ne e]; exact (zh a u h).1, (zh a u h).2⟩
  hh := fun a u h _ => upd_none n h
  nw := fun a u h => by
    rcases upd_get h with ⟨rfl, rfl⟩ | ⟨e, h⟩
    · exact .inr n
    · exact .inl h
  sz := fun h => h.upd so
/-- .. not frozen -/
theorem Stp.layH (zh : ∀ a o, Z a = some o → H a = some o ∧ ¬ W.bx a) (n : H p = none) (so : SzO o) : Stp W Z H Z (upd H p o) where
  zz := Sub.refl _
  zh := fun a u h => ⟨upd_none n (zh a u h).1, (zh a u h).2⟩
  hh := fun a u h _ => upd_none n h
  nw := fun a u h => .inl h
  sz := fun h => h.upd so
theorem box_lay (b : BoxS.R st W.β W.γ H) (n : H p = none) : BoxS.R st W.β W.γ (upd H p o) := by
  have q := BoxS.bxThere b n
  exact BoxS.congr b (upd_ne fun e => q (.inl e.symm)) (upd_ne fun e => q (.inr e.symm))
end
end Sn

namespace Sn
open PySem PySem.Spec PyProof.Rows L2

/-! ### contexts -/
structure Glob where
  P : Program
  w : World
  K : PySem.W.Frag
  mg : Str → Option Value
  base : Heap
/-- where the text stands: the def's slots, the scope, the level of calls -/
structure Stat where
  G : Glob
  N : List Str
  sc : Scope
  k : Nat
  fn : Str → Bool
structure CtxP (C : Stat) (X : Cx) : Prop where
  prog : X.prog = C.G.P
  w : X.w = C.G.w
  K : X.K = C.G.K
  mg : X.mg = C.G.mg
  base : X.base = C.G.base
  N : X.N = C.N
  sc : X.env.scope = C.sc
  nd : C.N.Nodup
  calm : X.calm = true
  room : Room C.k X.A
  xe : X.xe = fun _ _ => False
  fn : ∀ x, C.fn x = true → X.fn x = true
theorem CtxP.glob {C : Stat} {X : Cx} (h : CtxP C X) {x : Str} (g : C.sc.names.lookup x = some .globalImplicit) : Gl X x := by
  show X.env.scope.names.lookup x = _
  rw [h.sc]; exact g
theorem CtxP.none {C : Stat} {X : Cx} (h : CtxP C X) {x : Str} (g : C.G.mg x = none) : X.mg x = none := by rw [h.mg]; exact g
theorem CtxP.units {C : Stat} {X : Cx} (h : CtxP C X) : X.A.units + 65 < cLine := by have := h.room.un; omega

/-! ### the reading that any expression has -/
def tU (X : Cx) (e : Expr) : TE := fun σ H Q => ∀ (pins : List (Addr × Obj)) (s : Shared), Inv X pins σ H s → wpAny (model X.prog X.w) X.A (eval e X.env) (EP X pins σ Q) X.xe s
theorem peU {X : Cx} {e : Expr} : PE X e (tU X e) := ⟨fun pins s _ _ _ I h => h pins s I⟩
theorem tU_of {X : Cx} {e : Expr} {t : TE} {σ : L2.St} {H : Hp} {Q : VK} (h : PE X e t) (q : t σ H Q) : tU X e σ H Q := fun pins s I => h.run pins s σ H Q I q
def tUT (X : Cx) (e : Expr) : TT := fun σ H Q => ∀ (pins : List (Addr × Obj)) (s : Shared), Inv X pins σ H s → wpAny (model X.prog X.w) X.A (isTrue e X.env (eval e X.env)) (TP X pins σ Q) X.xe s
theorem ptU {X : Cx} {e : Expr} : PT X e (tUT X e) := ⟨fun pins s _ _ _ I h => h pins s I⟩
theorem tUT_of {X : Cx} {e : Expr} {t : TT} {σ : L2.St} {H : Hp} {Q : Bool → Hp → Prop} (h : PT X e t) (q : t σ H Q) : tUT X e σ H Q := fun pins s I => h.run pins s σ H Q I q
def tUW (X : Cx) (e : Expr) : TT := fun σ H Q => ∀ (whole : Sem Value) (pins : List (Addr × Obj)) (s : Shared), Inv X pins σ H s → wpAny (model X.prog X.w) X.A (isTrue e X.env whole) (TP X pins σ Q) X.xe s
theorem pwU {X : Cx} {e : Expr} : PW X e (tUW X e) := ⟨fun wh pins s _ _ _ I h => h wh pins s I⟩
theorem tUW_of {X : Cx} {e : Expr} {t : TT} {σ : L2.St} {H : Hp} {Q : Bool → Hp → Prop} (h : PW X e t) (q : t σ H Q) : tUW X e σ H Q := fun wh pins s I => h.run wh pins s σ H Q I q
def tUA (X : Cx) (es : List Expr) : TA := fun σ H Q => ∀ (pos : Pos) (pins : List (Addr × Obj)) (s : Shared), Inv X pins σ H s → wpAny (model X.prog X.w) X.A (spliced (backTo pos (starEach es X.env))) (AP X pins σ Q) X.xe s
theorem paU {X : Cx} {es : List Expr} : PA X es (tUA X es) := ⟨fun pos pins s _ _ _ I h => h pos pins s I⟩
theorem tUA_of {X : Cx} {es : List Expr} {t : TA} {σ : L2.St} {H : Hp} {Q : List V → Hp → Prop} (h : PA X es t) (q : t σ H Q) : tUA X es σ H Q := fun pos pins s I => h.run pos pins s σ H Q I q
def rU (X : Cx) (f : Value → Value → Sem Value) : R2 := fun x y H Q => ∀ (pins : List (Addr × Obj)) (s : Shared) (σ : L2.St) (v u : Value), Inv X pins σ H s → RelV x v → RelV y u → wpAny (model X.prog X.w) X.A (f v u) (EP X pins σ Q) X.xe s
theorem opU {X : Cx} {f : Value → Value → Sem Value} : OpR X f (rU X f) := fun pins s σ H x y v u Q I rx ry h => h pins s σ v u I rx ry
theorem rU_of {X : Cx} {f : Value → Value → Sem Value} {r : R2} {x y : V} {H : Hp} {Q : VK} (h : OpR X f r) (q : r x y H Q) : rU X f x y H Q := fun pins s σ v u I rx ry => h pins s σ H x y v u Q I rx ry q
def cU (X : Cx) (f : Value) : List V → Hp → VK → Prop := fun xs H Q => ∀ (pins : List (Addr × Obj)) (s : Shared) (σ : L2.St) (us : List Value), Inv X pins σ H s → Vals xs us → wpAny (model X.prog X.w) X.A (call f us) (EP X pins σ Q) X.xe s
theorem crU {X : Cx} {f : Value} : CallR X f (cU X f) := fun pins s σ H xs us Q I r h => h pins s σ us I r
theorem cU_of {X : Cx} {f : Value} {r : List V → Hp → VK → Prop} {xs : List V} {H : Hp} {Q : VK} (h : CallR X f r) (q : r xs H Q) : cU X f xs H Q := fun pins s σ us I rx => h pins s σ H xs us Q I rx q

/-! ### judgements -/
inductive Md where
  | E | V | N
  deriving DecidableEq
def Res (K : PySem.W.Frag) (W : Wd) (md : Md) (H Z' H' : Hp) (d : D) (v : V) : Prop :=
  match md with
  | .E => Rep K W.β Z' d v
  | .V => Rep1 K W.β Z' H' d v ∧ ∀ a, v = .ref a → isMut d = true → ¬ W.bx a
  | .N => Rep1 K W.β Z' H' d v ∧ ∀ a, v = .ref a → isMut d = true → H a = none ∧ Z' a = none ∧ ¬ W.bx a
section
variable {S : Type} [BoxS S] {K : PySem.W.Frag} {W : Wd} {Γ : SCx} {σ : L2.St} {H Z' H' Z2 H2 : Hp} {d : D} {v : V} {st st' : S}
theorem Res.view {md : Md} (r : Res K W md H Z' H' d v) (zh : ∀ a o, Z' a = some o → H' a = some o ∧ ¬ W.bx a) : Res K W .V H Z' H' d v := by
  cases md with
  | E =>
    refine ⟨Rep.one (fun a o h => (zh a o h).1) r, fun a e mu => ?_⟩
    subst e
    cases d with
    | lst ds => cases r with | lst h _ => exact (zh _ _ h).2
    | dct ds => cases r with
      | dK h _ => exact (zh _ _ h).2
      | dT h _ => exact (zh _ _ h).2
    | _ => cases mu
  | V => exact r
  | N => exact ⟨r.1, fun a e mu => (r.2 a e mu).2.2⟩
theorem Res.stp {md : Md} (r : Res K W md H Z' H' d v) (s : Stp W Z' H' Z2 H2) : Res K W md H Z2 H2 d v := by
  cases md with
  | E => exact Rep.mono s.zz r
  | V =>
    refine ⟨?_, r.2⟩
    by_cases mu : isMut d = true
    · exact r.1.mono s.zz fun a e o h => s.hh a o h (r.2 a e mu)
    · cases d with
      | lst ds => exact absurd rfl mu
      | dct ds => exact absurd rfl mu
      | _ => exact Rep.mono s.zz r.1
  | N =>
    refine ⟨?_, fun a e mu => ?_⟩
    · by_cases mu : isMut d = true
      · exact r.1.mono s.zz fun a e o h => s.hh a o h (r.2 a e mu).2.2
      · cases d with
        | lst ds => exact absurd rfl mu
        | dct ds => exact absurd rfl mu
        | _ => exact Rep.mono s.zz r.1
    · obtain ⟨q1, q2, q3⟩ := r.2 a e mu
      refine ⟨q1, ?_, q3⟩
      cases q : Z2 a with
      | none => rfl
      | some o =>
        rcases s.nw a o q with w | w
        · rw [q2] at w; cases w
        · subst e
          obtain ⟨q4, _⟩ := r
          cases d with
          | lst ds => obtain ⟨b, vs, eb, hb, _⟩ := q4; cases eb; rw [hb] at w; cases w
          | dct ds =>
            obtain ⟨b, eb, ⟨kvs, h, _⟩ | ⟨kvs, h, _⟩⟩ := q4
            · cases eb; rw [h] at w; cases w
            · cases eb; rw [h] at w; cases w
          | _ => cases mu
theorem fresh_back {Z H Z1 H1 : Hp} {a : Addr} (b : BoxS.R st W.β W.γ H) (b1 : BoxS.R st' W.β W.γ H1) (s : Stp W Z H Z1 H1) (n : H1 a = none) : H a = none := by
  have nb := BoxS.bxThere b1 n
  cases e : H a with
  | none => rfl
  | some o => rw [s.hh a o e nb] at n; cases n
theorem Res.back {md : Md} {Z H0 : Hp} (r : Res K W md H Z2 H2 d v) (b : BoxS.R st W.β W.γ H0) (b1 : BoxS.R st' W.β W.γ H) (s : Stp W Z H0 Z' H) : Res K W md H0 Z2 H2 d v := by
  cases md with
  | E => exact r
  | V => exact r
  | N => exact ⟨r.1, fun a e mu => ⟨fresh_back b b1 s (r.2 a e mu).1, (r.2 a e mu).2⟩⟩
end

/-- the expression e, where Γ is known of the slots, does what m says -/
def OkD {S : Type} [BoxS S] (md : Md) (C : Stat) (Γ : SCx) (e : Expr) (m : M S D) : Prop :=
  ∀ X, CtxP C X → ∀ (W : Wd) (σ : L2.St) (Z H : Hp) (st : S) (d : D) (st' : S) (Q : VK), SR X.K W Γ σ Z H st → m st = some (d, st') →
    (∀ v Z' H', Stp W Z H Z' H' → BoxS.R st' W.β W.γ H' → Res X.K W md H Z' H' d v → Q v H') → tU X e σ H Q
structure Ok {S : Type} [BoxS S] (md : Md) (C : Stat) (Γ : SCx) (e : Expr) (m : M S D) : Prop where
  mk ::
  run : OkD md C Γ e m
instance {S : Type} [BoxS S] {md : Md} {C : Stat} {Γ : SCx} {e : Expr} {m : M S D} : CoeFun (Ok md C Γ e m) fun _ => OkD md C Γ e m := ⟨Ok.run⟩
def OkTD {S : Type} [BoxS S] (C : Stat) (Γ : SCx) (e : Expr) (m : M S Bool) : Prop :=
  ∀ X, CtxP C X → ∀ (W : Wd) (σ : L2.St) (Z H : Hp) (st : S) (d : Bool) (st' : S) (Q : Bool → Hp → Prop), SR X.K W Γ σ Z H st → m st = some (d, st') →
    (∀ Z' H', Stp W Z H Z' H' → BoxS.R st' W.β W.γ H' → Q d H') → tUT X e σ H Q
structure OkT {S : Type} [BoxS S] (C : Stat) (Γ : SCx) (e : Expr) (m : M S Bool) : Prop where
  mk ::
  run : OkTD C Γ e m
instance {S : Type} [BoxS S] {C : Stat} {Γ : SCx} {e : Expr} {m : M S Bool} : CoeFun (OkT C Γ e m) fun _ => OkTD C Γ e m := ⟨OkT.run⟩
def OkWD {S : Type} [BoxS S] (C : Stat) (Γ : SCx) (e : Expr) (m : M S Bool) : Prop :=
  ∀ X, CtxP C X → ∀ (W : Wd) (σ : L2.St) (Z H : Hp) (st : S) (d : Bool) (st' : S) (Q : Bool → Hp → Prop), SR X.K W Γ σ Z H st → m st = some (d, st') →
    (∀ Z' H', Stp W Z H Z' H' → BoxS.R st' W.β W.γ H' → Q d H') → tUW X e σ H Q
structure OkW {S : Type} [BoxS S] (C : Stat) (Γ : SCx) (e : Expr) (m : M S Bool) : Prop where
  mk ::
  run : OkWD C Γ e m
instance {S : Type} [BoxS S] {C : Stat} {Γ : SCx} {e : Expr} {m : M S Bool} : CoeFun (OkW C Γ e m) fun _ => OkWD C Γ e m := ⟨OkW.run⟩
def ResL (K : PySem.W.Frag) (W : Wd) (mds : List Md) (H Z' H' : Hp) (ds : List D) (vs : List V) : Prop :=
  match mds, ds, vs with
  | [], [], [] => True
  | md :: mds, d :: ds, v :: vs => Res K W md H Z' H' d v ∧ ResL K W mds H Z' H' ds vs
  | _, _, _ => False
/-- arguments from the left -/
def OkAD {S : Type} [BoxS S] (mds : List Md) (C : Stat) (Γ : SCx) (es : List Expr) (m : M S (List D)) : Prop :=
  ∀ X, CtxP C X → ∀ (W : Wd) (σ : L2.St) (Z H : Hp) (st : S) (ds : List D) (st' : S) (Q : List V → Hp → Prop), SR X.K W Γ σ Z H st → m st = some (ds, st') →
    (∀ vs Z' H', Stp W Z H Z' H' → BoxS.R st' W.β W.γ H' → ResL X.K W mds H Z' H' ds vs → Q vs H') → tUA X es σ H Q
structure OkA {S : Type} [BoxS S] (mds : List Md) (C : Stat) (Γ : SCx) (es : List Expr) (m : M S (List D)) : Prop where
  mk ::
  run : OkAD mds C Γ es m
instance {S : Type} [BoxS S] {mds : List Md} {C : Stat} {Γ : SCx} {es : List Expr} {m : M S (List D)} : CoeFun (OkA mds C Γ es m) fun _ => OkAD mds C Γ es m := ⟨OkA.run⟩

section
variable {S : Type} [BoxS S] {C : Stat} {Γ : SCx} {e a b : Expr} {es : List Expr} {m ma mb : M S D} {md : Md} {pos : Pos}
theorem Ok.view (h : Ok md C Γ e m) : Ok .V C Γ e m := .mk fun X hX W σ Z H st d st' Q r hm q =>
  h X hX W σ Z H st d st' Q r hm fun v Z' H' s b r' => q v Z' H' s b (r'.view s.zh)
/-- a new list is frozen -/
theorem Ok.frz (h : Ok .N C Γ e m) : Ok .E C Γ e m := .mk fun X hX W σ Z H st d st' Q r hm q => by
  refine h X hX W σ Z H st d st' Q r hm fun v Z' H' s b r' => ?_
  by_cases mu : isMut d = true
  · have hv : ∃ a, v = .ref a := by
      obtain ⟨q4, _⟩ := r'
      cases d with
      | lst ds => obtain ⟨b, vs, eb, _⟩ := q4; exact ⟨b, eb⟩
      | dct ds => obtain ⟨b, eb, _⟩ := q4; exact ⟨b, eb⟩
      | _ => cases mu
    obtain ⟨p, rfl⟩ := hv
    obtain ⟨q1, q2, q3⟩ := r'.2 p rfl mu
    have hp : ∃ o, H' p = some o := by
      obtain ⟨q4, _⟩ := r'
      cases d with
      | lst ds => obtain ⟨b, vs, eb, hb, _⟩ := q4; cases eb; exact ⟨_, hb⟩
      | dct ds =>
        obtain ⟨b, eb, ⟨kvs, h, _⟩ | ⟨kvs, h, _⟩⟩ := q4
        · cases eb; exact ⟨_, h⟩
        · cases eb; exact ⟨_, h⟩
      | _ => cases mu
    obtain ⟨o, ho⟩ := hp
    have sz : Sub Z' (upd Z' p o) := fun a u h => upd_none q2 h
    refine q (.ref p) (upd Z' p o) H' ⟨s.zz.trans sz, fun a u h => ?_, s.hh, fun a u h => ?_, s.sz⟩ b ?_
    · rcases upd_get h with ⟨rfl, rfl⟩ | ⟨_, h⟩
      · exact ⟨ho, q3⟩
      · exact s.zh a u h
    · rcases upd_get h with ⟨rfl, rfl⟩ | ⟨_, h⟩
      · exact .inr q1
      · exact s.nw a u h
    · refine Rep1.rep (Z := upd Z' p o) (H := H') (r'.1.mono sz fun _ _ _ h => h) fun a ea _ => ?_
      cases ea
      rw [upd_same, ho]
  · refine q v Z' H' s b ?_
    have := r'.1
    cases d with
    | lst ds => exact absurd rfl mu
    | dct ds => exact absurd rfl mu
    | _ => exact this
theorem Ok.nil : OkA (S := S) [] C Γ [] (ret []) := .mk fun X hX W σ Z H st d st' Q r hm q => by
  obtain ⟨rfl, rfl⟩ := ret_some hm
  exact tUA_of pa_nil (q [] Z H r.refl r.box trivial)
/-- not a starred one -/
def plainArg : Expr → Bool
  | .Starred _ _ => false
  | _ => true
theorem starEach_plain (env : Env) (h : plainArg e = true) : starEach (e :: es) env = (false, eval e env) :: starEach es env := by
  cases e <;> first | rfl | cases h
theorem ResL.stp {K : PySem.W.Frag} {W : Wd} {H Z' H' Z2 H2 : Hp} (s : Stp W Z' H' Z2 H2) : ∀ {mds : List Md} {ds : List D} {vs : List V}, ResL K W mds H Z' H' ds vs → ResL K W mds H Z2 H2 ds vs
  | [], [], [], _ => trivial
  | _ :: _, _ :: _, _ :: _, ⟨h, r⟩ => ⟨h.stp s, ResL.stp s r⟩
  | [], [], _ :: _, h => h.elim
  | [], _ :: _, _, h => h.elim
  | _ :: _, [], _, h => h.elim
  | _ :: _, _ :: _, [], h => h.elim
theorem ResL.back {K : PySem.W.Frag} {W : Wd} {st st' : S} {H H0 Z Z' Z2 H2 : Hp} (b : BoxS.R st W.β W.γ H0) (b1 : BoxS.R st' W.β W.γ H) (s : Stp W Z H0 Z' H) : ∀ {mds : List Md} {ds : List D} {vs : List V}, ResL K W mds H Z2 H2 ds vs → ResL K W mds H0 Z2 H2 ds vs
  | [], [], [], _ => trivial
  | _ :: _, _ :: _, _ :: _, ⟨h, r⟩ => ⟨h.back b b1 s, ResL.back b b1 s r⟩
  | [], [], _ :: _, h => h.elim
  | [], _ :: _, _, h => h.elim
  | _ :: _, [], _, h => h.elim
  | _ :: _, _ :: _, [], h => h.elim
theorem Ok.cons {mds : List Md} {mr : M S (List D)} (ha : Ok md C Γ e m) (hr : OkA mds C Γ es mr) (hp : plainArg e = true := by rfl) : OkA (md :: mds) C Γ (e :: es) (bnd m fun x => bnd mr fun xs => ret (x :: xs)) :=
  .mk fun X hX W σ Z H st ds st' Q r hm q => by
  obtain ⟨x, st1, h1, hm_1⟩ := bnd_some hm
  obtain ⟨xs, st2, h2, hm_2⟩ := bnd_some hm_1
  obtain ⟨rfl, rfl⟩ := ret_some hm_2
  refine tUA_of (pa_cons peU paU (starEach_plain _ hp)) ?_
  refine ha X hX W σ Z H st x st1 _ r h1 fun v Z1 H1 s1 b1 r1 => ?_
  refine hr X hX W σ Z1 H1 st1 xs _ _ (r.step s1 b1) h2 fun vs Z2 H2 s2 b2 r2 => ?_
  exact q _ Z2 H2 (s1.trans s2) b2 ⟨r1.stp s2, r2.back r.box b1 s1⟩
/-- two operands -/
theorem Ok.two {mda mdb : Md} (ha : Ok mda C Γ a ma) (hb : Ok mdb C Γ b mb) {X : Cx} (hX : CtxP C X) {W : Wd} {σ : L2.St} {Z H : Hp} {st st1 st2 : S} {x y : D} {R : V → V → Hp → Prop}
    (r : SR X.K W Γ σ Z H st) (h1 : ma st = some (x, st1)) (h2 : mb st1 = some (y, st2))
    (q : ∀ vx vy Z2 H2, Stp W Z H Z2 H2 → BoxS.R st2 W.β W.γ H2 → Res X.K W mda H Z2 H2 x vx → Res X.K W mdb H Z2 H2 y vy → R vx vy H2) : tU X a σ H fun vx H1 => tU X b σ H1 fun vy H2 => R vx vy H2 := by
  refine ha X hX W σ Z H st x st1 _ r h1 fun v Z1 H1 s1 b1 r1 => ?_
  refine hb X hX W σ Z1 H1 st1 y _ _ (r.step s1 b1) h2 fun u Z2 H2 s2 b2 r2 => ?_
  exact q _ _ Z2 H2 (s1.trans s2) b2 (r1.stp s2) (r2.back r.box b1 s1)
end

/-! ### operations by data -/
def lift {S : Type} (o : Option D) : M S D := fun s => o.map fun d => (d, s)
theorem lift_some {S : Type} {o : Option D} {s s' : S} {d : D} (h : lift o s = some (d, s')) : o = some d ∧ s' = s := by
  unfold lift at h
  cases o with
  | none => cases h
  | some x => simp only [Option.map_some, Option.some.injEq, Prod.mk.injEq] at h; exact ⟨by rw [h.1], h.2.symm⟩
/-- an operation of two values: g says what it makes of data -/
def Op2 (C : Stat) (f : Value → Value → Sem Value) (g : D → D → Option D) : Prop :=
  ∀ X, CtxP C X → ∀ {S : Type} [BoxS S] (W : Wd) (Z H : Hp) (st : S) (x y : V) (dx dy d : D) (Q : VK), (∀ a o, Z a = some o → H a = some o ∧ ¬ W.bx a) → Sz H → BoxS.R st W.β W.γ H →
    Rep1 X.K W.β Z H dx x → Rep1 X.K W.β Z H dy y → g dx dy = some d →
    (∀ v Z' H', Stp W Z H Z' H' → BoxS.R st W.β W.γ H' → Res X.K W .N H Z' H' d v → Q v H') → rU X f x y H Q
/-- a call of a built-in by data -/
def OpL (C : Stat) (f : Value) (g : List D → Option D) : Prop :=
  ∀ X, CtxP C X → ∀ {S : Type} [BoxS S] (W : Wd) (Z H : Hp) (st : S) (xs : List V) (dxs : List D) (d : D) (Q : VK), (∀ a o, Z a = some o → H a = some o ∧ ¬ W.bx a) → Sz H → BoxS.R st W.β W.γ H →
    ResL X.K W (dxs.map fun _ => Md.V) H Z H dxs xs → g dxs = some d →
    (∀ v Z' H', Stp W Z H Z' H' → BoxS.R st W.β W.γ H' → Res X.K W .N H Z' H' d v → Q v H') → cU X f xs H Q
section
variable {S : Type} [BoxS S] {C : Stat} {Γ : SCx} {e a b c : Expr} {es : List Expr} {m ma mb mc : M S D} {md : Md} {pos : Pos}
theorem Ok.op {op : Operator} {g : D → D → Option D} (ho : Op2 C (binaryOp op) g) (ha : Ok .V C Γ a ma) (hb : Ok .V C Γ b mb) : Ok .N C Γ (.BinOp a op b pos) (bnd ma fun x => bnd mb fun y => lift (g x y)) :=
  .mk fun X hX W σ Z H st d st' Q r hm q => by
  obtain ⟨x, st1, h1, hm_3⟩ := bnd_some hm
  obtain ⟨y, st2, h2, hm_4⟩ := bnd_some hm_3
  obtain ⟨hg, rfl⟩ := lift_some hm_4
  refine tU_of (pe_op opU peU peU) (Ok.two ha hb hX r h1 h2 fun vx vy Z2 H2 s2 b2 r1 r2 => ?_)
  exact ho X hX W Z2 H2 _ vx vy x y d Q s2.zh (s2.sz r.sz) b2 r1.1 r2.1 hg fun v Z' H' s' b' r' => q v Z' H' (s2.trans s') b' (r'.back r.box b2 s2)
theorem Ok.cmp {op : CmpOp} {g : D → D → Option D} (ho : Op2 C (compareOp op) g) (ha : Ok .V C Γ a ma) (hb : Ok .V C Γ b mb) (hm : behindInMarks op b = false := by rfl) : Ok .N C Γ (.Compare a [op] [b] pos) (bnd ma fun x => bnd mb fun y => lift (g x y)) :=
  .mk fun X hX W σ Z H st d st' Q r hm' q => by
  obtain ⟨x, st1, h1, kk1⟩ := bnd_some hm'
  obtain ⟨y, st2, h2, kk2⟩ := bnd_some kk1
  obtain ⟨hg, rfl⟩ := lift_some kk2
  refine tU_of (pe_cmpR opU peU peU hm) (Ok.two ha hb hX r h1 h2 fun vx vy Z2 H2 s2 b2 r1 r2 => ?_)
  exact ho X hX W Z2 H2 _ vx vy x y d Q s2.zh (s2.sz r.sz) b2 r1.1 r2.1 hg fun v Z' H' s' b' r' => q v Z' H' (s2.trans s') b' (r'.back r.box b2 s2)
/-- what is a bool -/
def asB {S : Type} : D → M S Bool
  | .bl b => ret b
  | _ => stuck
theorem asB_some {d : D} {s s' : S} {b : Bool} (h : asB d s = some (b, s')) : d = .bl b ∧ s' = s := by
  cases d with
  | bl c => obtain ⟨rfl, rfl⟩ := ret_some h; exact ⟨rfl, rfl⟩
  | _ => exact (stuck_some (S := S) (α := Bool) (s := s) h).elim
theorem OkT.cmp {op : CmpOp} {g : D → D → Option D} (ho : Op2 C (compareOp op) g) (ha : Ok .V C Γ a ma) (hb : Ok .V C Γ b mb) (hm : behindInMarks op b = false := by rfl) : OkT C Γ (.Compare a [op] [b] pos) (bnd ma fun x => bnd mb fun y => bnd (lift (g x y)) asB) :=
  .mk fun X hX W σ Z H st d st' Q r hm' q => by
  obtain ⟨x, st1, h1, kk3⟩ := bnd_some hm'
  obtain ⟨y, st2, h2, kk4⟩ := bnd_some kk3
  obtain ⟨z, st3, h3, kk5⟩ := bnd_some kk4
  obtain ⟨hg, rfl⟩ := lift_some h3
  obtain ⟨rfl, rfl⟩ := asB_some kk5
  refine tUT_of (pt_cmpR opU peU peU hm) (Ok.two ha hb hX r h1 h2 fun vx vy Z2 H2 s2 b2 r1 r2 => ?_)
  refine ho X hX W Z2 H2 _ vx vy x y _ _ s2.zh (s2.sz r.sz) b2 r1.1 r2.1 hg fun v Z' H' s' b' r' => ?_
  cases r'.1
  exact ⟨d, rfl, q Z' H' (s2.trans s') b'⟩
/-- a chain of two comparisons -/
theorem Ok.chain {op op' : CmpOp} {g g' : D → D → Option D} (ho : Op2 C (compareOp op) g) (ho' : Op2 C (compareOp op') g') (ha : Ok .V C Γ a ma) (hb : Ok .V C Γ b mb) (hc : Ok .V C Γ c mc) (hm : lastMarks [op, op'] [b, c] = false := by with_unfolding_all rfl) :
    Ok .N C Γ (.Compare a [op, op'] [b, c] pos) (bnd ma fun x => bnd mb fun y => bnd (bnd (lift (g x y)) asB) fun t => if t = true then bnd mc fun z => lift (g' y z) else ret (.bl false)) :=
  .mk fun X hX W σ Z H st d st' Q r hm' q => by
  obtain ⟨x, st1, h1, kk6⟩ := bnd_some hm'
  obtain ⟨y, st2, h2, kk7⟩ := bnd_some kk6
  obtain ⟨t, st3, h3, kk8⟩ := bnd_some kk7
  obtain ⟨z, st4, h4, h3_5⟩ := bnd_some h3
  obtain ⟨hg, rfl⟩ := lift_some h4
  obtain ⟨rfl, rfl⟩ := asB_some h3_5
  refine tU_of (pe_chain opU opU peU peU peU hm) (Ok.two ha hb hX r h1 h2 fun vx vy Z2 H2 s2 b2 r1 r2 => ?_)
  refine ho X hX W Z2 H2 _ vx vy x y _ _ s2.zh (s2.sz r.sz) b2 r1.1 r2.1 hg fun v Z3 H3 s3 b3 r3 => ?_
  cases r3.1
  refine ⟨t, rfl, ?_⟩
  have s23 := s2.trans s3
  cases t with
  | false =>
    rw [if_neg Bool.false_ne_true] at kk8 ⊢
    obtain ⟨rfl, rfl⟩ := ret_some kk8
    exact q _ Z3 H3 s23 b3 ⟨.bl false, fun a e => nomatch e⟩
  | true =>
    rw [if_pos rfl] at kk8 ⊢
    obtain ⟨z, st5, h5, kk9⟩ := bnd_some kk8
    obtain ⟨hg', rfl⟩ := lift_some kk9
    refine hc X hX W σ Z3 H3 _ z _ _ (r.step s23 b3) h5 fun vz Z4 H4 s4 b4 r4 => ?_
    have s24 := s23.trans s4
    exact ho' X hX W Z4 H4 _ vy vz y z d Q s24.zh (s24.sz r.sz) b4 ((r2.stp s3).stp s4).1 r4.1 hg' fun v Z' H' s' b' r' => q v Z' H' (s24.trans s') b' (r'.back r.box b4 s24)
theorem OkT.chain {op op' : CmpOp} {g g' : D → D → Option D} (ho : Op2 C (compareOp op) g) (ho' : Op2 C (compareOp op') g') (ha : Ok .V C Γ a ma) (hb : Ok .V C Γ b mb) (hc : Ok .V C Γ c mc) (hm : lastMarks [op, op'] [b, c] = false := by with_unfolding_all rfl) :
    OkT C Γ (.Compare a [op, op'] [b, c] pos) (bnd ma fun x => bnd mb fun y => bnd (bnd (lift (g x y)) asB) fun t => if t = true then bnd mc fun z => bnd (lift (g' y z)) asB else ret false) :=
  .mk fun X hX W σ Z H st d st' Q r hm' q => by
  obtain ⟨x, st1, h1, kk10⟩ := bnd_some hm'
  obtain ⟨y, st2, h2, kk11⟩ := bnd_some kk10
  obtain ⟨t, st3, h3, kk12⟩ := bnd_some kk11
  obtain ⟨z, st4, h4, h3_6⟩ := bnd_some h3
  obtain ⟨hg, rfl⟩ := lift_some h4
  obtain ⟨rfl, rfl⟩ := asB_some h3_6
  refine tUT_of (pt_chain opU opU peU peU peU hm) (Ok.two ha hb hX r h1 h2 fun vx vy Z2 H2 s2 b2 r1 r2 => ?_)
  refine ho X hX W Z2 H2 _ vx vy x y _ _ s2.zh (s2.sz r.sz) b2 r1.1 r2.1 hg fun v Z3 H3 s3 b3 r3 => ?_
  cases r3.1
  refine ⟨t, rfl, ?_⟩
  have s23 := s2.trans s3
  cases t with
  | false =>
    rw [if_neg Bool.false_ne_true] at kk12 ⊢
    obtain ⟨rfl, rfl⟩ := ret_some kk12
    exact ⟨false, rfl, q Z3 H3 s23 b3⟩
  | true =>
    rw [if_pos rfl] at kk12 ⊢
    obtain ⟨z, st5, h5, kk13⟩ := bnd_some kk12
    obtain ⟨w, st6, h6, kk14⟩ := bnd_some kk13
    obtain ⟨hg', rfl⟩ := lift_some h6
    obtain ⟨rfl, rfl⟩ := asB_some kk14
    refine hc X hX W σ Z3 H3 _ z _ _ (r.step s23 b3) h5 fun vz Z4 H4 s4 b4 r4 => ?_
    have s24 := s23.trans s4
    refine ho' X hX W Z4 H4 _ vy vz y z _ _ s24.zh (s24.sz r.sz) b4 ((r2.stp s3).stp s4).1 r4.1 hg' fun v Z' H' s' b' r' => ?_
    cases r'.1
    exact ⟨d, rfl, q Z' H' (s24.trans s') b'⟩
/-! ### names, constants -/
theorem Ok.var {i : Nat} {x : Str} {d : D} (hN : C.N[i]? = some x) (hv : Vis C.sc x) (hg : Γ[i]? = some (some (.frz d))) (hd : (x == ("__debug__" : Str)) = false := by decide) (hcd : (x == ("__classdict__" : Str)) = false := by decide) : Ok (S := S) .E C Γ (.Name x pos) (ret d) :=
  .mk fun X hX W σ Z H st d' st' Q r hm q => by
  obtain ⟨rfl, rfl⟩ := ret_some hm
  obtain ⟨v, e, rv⟩ := r.frz i _ hg
  exact tU_of (pe_var (by rw [hX.N]; exact hN) (by rw [hX.sc]; exact hv) hd hcd) ⟨v, e, q v Z H r.refl r.box rv⟩
theorem Ok.own {i : Nat} {x : Str} {d : D} (hN : C.N[i]? = some x) (hv : Vis C.sc x) (hg : Γ[i]? = some (some (.own d))) (hd : (x == ("__debug__" : Str)) = false := by decide) (hcd : (x == ("__classdict__" : Str)) = false := by decide) : Ok (S := S) .V C Γ (.Name x pos) (ret d) :=
  .mk fun X hX W σ Z H st d' st' Q r hm q => by
  obtain ⟨rfl, rfl⟩ := ret_some hm
  obtain ⟨a, e, z, n, mu, rv⟩ := r.own i _ hg
  exact tU_of (pe_var (by rw [hX.N]; exact hN) (by rw [hX.sc]; exact hv) hd hcd) ⟨_, e, q _ Z H r.refl r.box ⟨rv, fun b eb _ => by cases eb; exact n⟩⟩
theorem Ok.int {i : Int} {j} : Ok (S := S) .E C Γ (.Constant (.int i) j pos) (ret (.int i)) := .mk fun X hX W σ Z H st d' st' Q r hm q => by
  obtain ⟨rfl, rfl⟩ := ret_some hm
  exact tU_of pe_int (q _ Z H r.refl r.box (.int i))
theorem Ok.bl {i : Bool} {j} : Ok (S := S) .E C Γ (.Constant (.bool i) j pos) (ret (.bl i)) := .mk fun X hX W σ Z H st d' st' Q r hm q => by
  obtain ⟨rfl, rfl⟩ := ret_some hm
  exact tU_of pe_bl (q _ Z H r.refl r.box (.bl i))
theorem Ok.non {j} : Ok (S := S) .E C Γ (.Constant .none j pos) (ret .non) := .mk fun X hX W σ Z H st d' st' Q r hm q => by
  obtain ⟨rfl, rfl⟩ := ret_some hm
  exact tU_of pe_non (q _ Z H r.refl r.box .non)
theorem Ok.str {x : Str} {j} : Ok (S := S) .E C Γ (.Constant (.str x) j pos) (ret (.str x)) := .mk fun X hX W σ Z H st d' st' Q r hm q => by
  obtain ⟨rfl, rfl⟩ := ret_some hm
  exact tU_of pe_str (q _ Z H r.refl r.box (.str x))
/-- a constant of the module: an int or a text -/
theorem Ok.cint {x : Str} {i : Int} {t : Tok} (hg : C.sc.names.lookup x = some .globalImplicit) (hm : C.G.mg x = some (.int i t)) (hd : (x == ("__debug__" : Str)) = false := by decide) : Ok (S := S) .E C Γ (.Name x pos) (ret (.int i)) := .mk fun X hX W σ Z H st d' st' Q r hm' q => by
  obtain ⟨rfl, rfl⟩ := ret_some hm'
  exact tU_of (pe_glob (v := .int i) (hX.glob hg) (by rw [hX.mg]; exact hm) ⟨t, rfl⟩ hd) (q _ Z H r.refl r.box (.int i))
theorem Ok.cstr {x y : Str} {t : Tok} (hg : C.sc.names.lookup x = some .globalImplicit) (hm : C.G.mg x = some (.str y t)) (hd : (x == ("__debug__" : Str)) = false := by decide) : Ok (S := S) .E C Γ (.Name x pos) (ret (.str y)) := .mk fun X hX W σ Z H st d' st' Q r hm' q => by
  obtain ⟨rfl, rfl⟩ := ret_some hm'
  exact tU_of (pe_glob (v := .str y) (hX.glob hg) (by rw [hX.mg]; exact hm) ⟨t, rfl⟩ hd) (q _ Z H r.refl r.box (.str y))
/-! ### tuples and lists written out -/
theorem ResL.E_repL {K : PySem.W.Frag} {W : Wd} {H Z' H' : Hp} : ∀ {ds : List D} {vs : List V} {mds : List Md}, (∀ md ∈ mds, md = Md.E) → ResL K W mds H Z' H' ds vs → RepL K W.β Z' ds vs
  | [], [], [], _, _ => .nil
  | d :: ds, v :: vs, md :: mds, hE, ⟨h, r⟩ => by
    have e := hE md List.mem_cons_self
    subst e
    exact .cons h (ResL.E_repL (fun m hm => hE m (List.mem_cons_of_mem _ hm)) r)
  | [], [], _ :: _, _, h => h.elim
  | [], _ :: _, [], _, h => h.elim
  | [], _ :: _, _ :: _, _, h => h.elim
  | _ :: _, [], [], _, h => h.elim
  | _ :: _, [], _ :: _, _, h => h.elim
  | _ :: _, _ :: _, [], _, h => h.elim
def tupD (ds : List D) : Option D := if ds.length ≤ sizeLine then some (.tup ds) else none
def lstD (ds : List D) : Option D := if ds.length ≤ sizeLine then some (.lst ds) else none
theorem tupD_some {ds : List D} {d : D} (h : tupD ds = some d) : ds.length ≤ sizeLine ∧ d = .tup ds := by
  unfold tupD at h
  split at h
  · cases h; exact ⟨by assumption, rfl⟩
  · cases h
theorem lstD_some {ds : List D} {d : D} (h : lstD ds = some d) : ds.length ≤ sizeLine ∧ d = .lst ds := by
  unfold lstD at h
  split at h
  · cases h; exact ⟨by assumption, rfl⟩
  · cases h
theorem Ok.tup {mds : List Md} {mr : M S (List D)} {x1} (hr : OkA mds C Γ es mr) (hE : ∀ md ∈ mds, md = Md.E := by decide) : Ok .E C Γ (.Tuple es x1 pos) (bnd mr fun xs => lift (tupD xs)) := .mk fun X hX W σ Z H st d st' Q r hm q => by
  obtain ⟨xs, st1, h1, hm_7⟩ := bnd_some hm
  obtain ⟨hg, rfl⟩ := lift_some hm_7
  obtain ⟨hl, rfl⟩ := tupD_some hg
  refine tU_of (pe_tup paU) (hr X hX W σ Z H st xs _ _ r h1 fun vs Z1 H1 s1 b1 r1 => ?_)
  have rl := ResL.E_repL hE r1
  refine ⟨by rw [← rl.length]; exact hl, fun p hp => ?_⟩
  have hl' : vs.length ≤ sizeLine := by rw [← rl.length]; exact hl
  have s2 := Stp.layZ (o := .tup vs) s1.zh b1 hp hl'
  exact q _ _ _ (s1.trans s2) (box_lay b1 hp) (.tup (.inl upd_same) (rl.mono s2.zz))
theorem Ok.lst {mds : List Md} {mr : M S (List D)} (hr : OkA mds C Γ es mr) (hE : ∀ md ∈ mds, md = Md.E := by decide) : Ok .N C Γ (.List es pos) (bnd mr fun xs => lift (lstD xs)) := .mk fun X hX W σ Z H st d st' Q r hm q => by
  obtain ⟨xs, st1, h1, hm_8⟩ := bnd_some hm
  obtain ⟨hg, rfl⟩ := lift_some hm_8
  obtain ⟨hl, rfl⟩ := lstD_some hg
  refine tU_of (pe_lst paU) (hr X hX W σ Z H st xs _ _ r h1 fun vs Z1 H1 s1 b1 r1 => ?_)
  have rl := ResL.E_repL hE r1
  refine ⟨by rw [← rl.length]; exact hl, fun p hp => ?_⟩
  have hl' : vs.length ≤ sizeLine := by rw [← rl.length]; exact hl
  have s2 := Stp.layH (o := .lst vs) s1.zh hp hl'
  refine q _ _ _ (s1.trans s2) (box_lay b1 hp) ⟨⟨p, vs, rfl, upd_same, rl⟩, fun a e _ => ?_⟩
  cases e
  exact ⟨fresh_back r.box b1 s1 hp, z_none s1.zh hp, BoxS.bxThere b1 hp⟩
/-! ### truth, and, or, not, if -/
def truD : D → Option Bool
  | .non => some false
  | .bl b => some b
  | .int i => some (i != 0)
  | .str x => if x.length ≤ sizeLine then some ((x.length : Int) != 0) else none
  | .tup xs => some (!xs.isEmpty)
  | .lst xs => some (!xs.isEmpty)
  | _ => none
def truM {S : Type} (d : D) : M S Bool := fun s => (truD d).map fun b => (b, s)
theorem truM_some {d : D} {s s' : S} {b : Bool} (h : truM d s = some (b, s')) : truD d = some b ∧ s' = s := by
  unfold truM at h
  cases e : truD d with
  | none => rw [e] at h; cases h
  | some x => rw [e] at h; simp only [Option.map_some, Option.some.injEq, Prod.mk.injEq] at h; exact ⟨by rw [h.1], h.2.symm⟩
theorem isEmpty_len {α β : Type} {xs : List α} {ys : List β} (h : xs.length = ys.length) : xs.isEmpty = ys.isEmpty := by
  cases xs <;> cases ys <;> first | rfl | (simp at h)
theorem truV_of {K : PySem.W.Frag} {W : Wd} {Z H : Hp} {d : D} {v : V} {b : Bool} (sz : Sub Z H) (r : Rep1 K W.β Z H d v) (h : truD d = some b) : TruV K v H b := by
  cases d with
  | non => cases r; cases h; rfl
  | bl c => cases r; cases h; rfl
  | int i => cases r; cases h; rfl
  | str x =>
    cases r
    have h' : (if x.length ≤ sizeLine then some ((x.length : Int) != 0) else none) = some b := h
    split at h'
    · cases h'; exact ⟨by assumption, rfl⟩
    · cases h'
  | tup xs => cases r with | tup hq rl => cases h; exact .inr (.inl ⟨_, sz.sqT hq, by rw [isEmpty_len rl.length]⟩)
  | lst xs =>
    obtain ⟨a, vs, rfl, ha, rl⟩ := r
    cases h
    exact .inl ⟨vs, .inl (.inl ha), by rw [isEmpty_len rl.length]⟩
  | dct xs => cases h
  | box => cases h
theorem OkT.val (ha : Ok .V C Γ a ma) (he : ∀ (env : Env) whole, isTrue a env whole = (do let v ← whole; standAt a.pos; holding [v] (truthy v)) := by intros; rfl) : OkT C Γ a (bnd ma truM) := .mk fun X hX W σ Z H st d st' Q r hm q => by
  obtain ⟨x, st1, h1, hm_9⟩ := bnd_some hm
  obtain ⟨hg, rfl⟩ := truM_some hm_9
  refine tUT_of (pt_truth peU (he _)) (ha X hX W σ Z H st x _ _ r h1 fun v Z1 H1 s1 b1 r1 => ?_)
  exact ⟨d, truV_of s1.sub r1.1 hg, q Z1 H1 s1 b1⟩
theorem OkT.not {n : M S Bool} (ha : OkT C Γ a n) : OkT C Γ (.UnaryOp .Not a pos) (bnd n fun b => ret (!b)) := .mk fun X hX W σ Z H st d st' Q r hm q => by
  obtain ⟨x, st1, h1, hm_10⟩ := bnd_some hm
  obtain ⟨rfl, rfl⟩ := ret_some hm_10
  exact tUT_of (pt_not ptU) (ha X hX W σ Z H st x _ _ r h1 fun Z1 H1 s1 b1 => q Z1 H1 s1 b1)
theorem OkW.pt {n : M S Bool} (h : OkW C Γ e n) : OkT C Γ e n := .mk fun X hX W σ Z H st d st' Q r hm q => fun pins s I => h X hX W σ Z H st d st' Q r hm q _ pins s I
theorem OkW.and1 {n : M S Bool} (h : OkT C Γ a n) : OkW C Γ (.BoolOp .And [a] pos) n := .mk fun X hX W σ Z H st d st' Q r hm q => tUW_of (pw_and1 ptU) (h X hX W σ Z H st d st' Q r hm q)
theorem OkW.or1 {n : M S Bool} (h : OkT C Γ a n) : OkW C Γ (.BoolOp .Or [a] pos) n := .mk fun X hX W σ Z H st d st' Q r hm q => tUW_of (pw_or1 ptU) (h X hX W σ Z H st d st' Q r hm q)
theorem OkW.and {n k : M S Bool} (h : OkT C Γ a n) (hr : OkW C Γ (.BoolOp .And (b :: es) pos) k) : OkW C Γ (.BoolOp .And (a :: b :: es) pos) (bnd n fun t => if t = true then k else ret false) := .mk fun X hX W σ Z H st d st' Q r hm q => by
  obtain ⟨t, st1, h1, hm_11⟩ := bnd_some hm
  refine tUW_of (pw_and ptU pwU) (h X hX W σ Z H st t _ _ r h1 fun Z1 H1 s1 b1 => ?_)
  cases t with
  | true => exact hr X hX W σ Z1 H1 st1 d st' Q (r.step s1 b1) hm_11 fun Z2 H2 s2 b2 => q Z2 H2 (s1.trans s2) b2
  | false =>
    rw [if_neg Bool.false_ne_true] at hm_11 ⊢
    obtain ⟨rfl, rfl⟩ := ret_some hm_11
    exact q Z1 H1 s1 b1
theorem OkW.or {n k : M S Bool} (h : OkT C Γ a n) (hr : OkW C Γ (.BoolOp .Or (b :: es) pos) k) : OkW C Γ (.BoolOp .Or (a :: b :: es) pos) (bnd n fun t => if t = true then ret true else k) := .mk fun X hX W σ Z H st d st' Q r hm q => by
  obtain ⟨t, st1, h1, hm_12⟩ := bnd_some hm
  refine tUW_of (pw_or ptU pwU) (h X hX W σ Z H st t _ _ r h1 fun Z1 H1 s1 b1 => ?_)
  cases t with
  | false => exact hr X hX W σ Z1 H1 st1 d st' Q (r.step s1 b1) hm_12 fun Z2 H2 s2 b2 => q Z2 H2 (s1.trans s2) b2
  | true =>
    rw [if_pos rfl] at hm_12 ⊢
    obtain ⟨rfl, rfl⟩ := ret_some hm_12
    exact q Z1 H1 s1 b1
/-- as values -/
theorem Ok.one {op} (h : Ok md C Γ a ma) : Ok md C Γ (.BoolOp op [a] pos) ma := .mk fun X hX W σ Z H st d st' Q r hm q => tU_of (pe_one peU) (h X hX W σ Z H st d st' Q r hm q)
theorem Ok.and (h : Ok .V C Γ a ma) (hr : Ok md C Γ (.BoolOp .And (b :: es) pos) mb) (hmd : md = .E ∨ md = .N := by first | exact Or.inl rfl | exact Or.inr rfl) : Ok md C Γ (.BoolOp .And (a :: b :: es) pos) (bnd (bnd ma asB) fun t => if t = true then mb else ret (.bl false)) := .mk fun X hX W σ Z H st d st' Q r hm q => by
  obtain ⟨t, st1, h1, hm_13⟩ := bnd_some hm
  obtain ⟨x, st2, h2, h1_14⟩ := bnd_some h1
  obtain ⟨rfl, rfl⟩ := asB_some h1_14
  refine tU_of (pe_and peU peU) (h X hX W σ Z H st _ _ _ r h2 fun v Z1 H1 s1 b1 r1 => ?_)
  cases r1.1
  refine ⟨t, rfl, ?_⟩
  cases t with
  | true => exact hr X hX W σ Z1 H1 _ d st' Q (r.step s1 b1) hm_13 fun v Z2 H2 s2 b2 r2 => q v Z2 H2 (s1.trans s2) b2 (r2.back r.box b1 s1)
  | false =>
    rw [if_neg Bool.false_ne_true] at hm_13 ⊢
    obtain ⟨rfl, rfl⟩ := ret_some hm_13
    refine q _ Z1 H1 s1 b1 ?_
    rcases hmd with rfl | rfl
    · exact .bl false
    · exact ⟨.bl false, fun _ e => nomatch e⟩
theorem Ok.or (h : Ok .V C Γ a ma) (hr : Ok md C Γ (.BoolOp .Or (b :: es) pos) mb) (hmd : md = .E ∨ md = .N := by first | exact Or.inl rfl | exact Or.inr rfl) : Ok md C Γ (.BoolOp .Or (a :: b :: es) pos) (bnd (bnd ma asB) fun t => if t = true then ret (.bl true) else mb) := .mk fun X hX W σ Z H st d st' Q r hm q => by
  obtain ⟨t, st1, h1, hm_15⟩ := bnd_some hm
  obtain ⟨x, st2, h2, h1_16⟩ := bnd_some h1
  obtain ⟨rfl, rfl⟩ := asB_some h1_16
  refine tU_of (pe_or peU peU) (h X hX W σ Z H st _ _ _ r h2 fun v Z1 H1 s1 b1 r1 => ?_)
  cases r1.1
  refine ⟨t, rfl, ?_⟩
  cases t with
  | false => exact hr X hX W σ Z1 H1 _ d st' Q (r.step s1 b1) hm_15 fun v Z2 H2 s2 b2 r2 => q v Z2 H2 (s1.trans s2) b2 (r2.back r.box b1 s1)
  | true =>
    rw [if_pos rfl] at hm_15 ⊢
    obtain ⟨rfl, rfl⟩ := ret_some hm_15
    refine q _ Z1 H1 s1 b1 ?_
    rcases hmd with rfl | rfl
    · exact .bl true
    · exact ⟨.bl true, fun _ e => nomatch e⟩
theorem Ok.not (h : Ok .V C Γ a ma) : Ok .E C Γ (.UnaryOp .Not a pos) (bnd (bnd ma truM) fun t => ret (.bl (!t))) := .mk fun X hX W σ Z H st d st' Q r hm q => by
  obtain ⟨t, st1, h1, hm_17⟩ := bnd_some hm
  obtain ⟨x, st2, h2, h1_18⟩ := bnd_some h1
  obtain ⟨ht, rfl⟩ := truM_some h1_18
  obtain ⟨rfl, rfl⟩ := ret_some hm_17
  refine tU_of (pe_notT peU) (h X hX W σ Z H st _ _ _ r h2 fun v Z1 H1 s1 b1 r1 => ?_)
  exact ⟨t, truV_of s1.sub r1.1 ht, q _ Z1 H1 s1 b1 (.bl _)⟩
theorem Ok.neg (h : Ok .V C Γ a ma) : Ok .E C Γ (.UnaryOp .USub a pos) (bnd ma fun x => lift (match x with | .int i => some (.int (-i)) | _ => none)) := .mk fun X hX W σ Z H st d st' Q r hm q => by
  obtain ⟨x, st1, h1, hm_19⟩ := bnd_some hm
  obtain ⟨ht, rfl⟩ := lift_some hm_19
  refine tU_of (pe_un un_neg peU) (h X hX W σ Z H st _ _ _ r h1 fun v Z1 H1 s1 b1 r1 => ?_)
  cases x with
  | int i => cases r1.1; cases ht; exact ⟨i, rfl, q _ Z1 H1 s1 b1 (.int _)⟩
  | _ => cases ht
theorem Ok.ife {n : M S Bool} (hc : OkT C Γ c n) (ha : Ok md C Γ a ma) (hb : Ok md C Γ b mb) : Ok md C Γ (.IfExp c a b pos) (bnd n fun t => if t = true then ma else mb) := .mk fun X hX W σ Z H st d st' Q r hm q => by
  obtain ⟨t, st1, h1, hm_20⟩ := bnd_some hm
  refine tU_of (pe_ifExp ptU peU peU) (hc X hX W σ Z H st _ _ _ r h1 fun Z1 H1 s1 b1 => ?_)
  cases t with
  | true => exact ha X hX W σ Z1 H1 _ d st' Q (r.step s1 b1) hm_20 fun v Z2 H2 s2 b2 r2 => q v Z2 H2 (s1.trans s2) b2 (r2.back r.box b1 s1)
  | false => exact hb X hX W σ Z1 H1 _ d st' Q (r.step s1 b1) hm_20 fun v Z2 H2 s2 b2 r2 => q v Z2 H2 (s1.trans s2) b2 (r2.back r.box b1 s1)
end
end Sn

namespace Sn
open PySem PySem.Spec PyProof.Rows L2

def tUS (X : Cx) (ss : List Stmt) : TS := fun D σ H => ∀ (pins : List (Addr × Obj)) (s : Shared), Inv X pins σ H s → wpAny (model X.prog X.w) X.A (execs ss X.env) (SP X pins D) X.xe s
theorem pssU {X : Cx} {ss : List Stmt} : PSs X ss (tUS X ss) := ⟨fun pins s _ _ _ I h => h pins s I⟩
theorem tUS_of {X : Cx} {ss : List Stmt} {t : TS} {σ : L2.St} {H : Hp} {D : Ends} (h : PSs X ss t) (q : t D σ H) : tUS X ss D σ H := fun pins s I => h.run pins s σ H D I q
def tUG (X : Cx) (tg : Expr) : TG := fun v σ H Q => ∀ (pins : List (Addr × Obj)) (s : Shared) (u : Value), Inv X pins σ H s → RelV v u → wpAny (model X.prog X.w) X.A (assign tg X.env u) (fun _ s' => ∃ σ' H', Inv X pins σ' H' s' ∧ Q σ' H') X.xe s
theorem pgU {X : Cx} {tg : Expr} : PG X tg (tUG X tg) := ⟨fun pins s _ _ _ u _ I r h => h pins s u I r⟩
theorem tUG_of {X : Cx} {tg : Expr} {t : TG} {v : V} {σ : L2.St} {H : Hp} {Q : L2.St → Hp → Prop} (h : PG X tg t) (q : t v σ H Q) : tUG X tg v σ H Q := fun pins s u I r => h.run pins s σ H v u Q I r q
def tUI (X : Cx) (tg iter : Expr) : TI := fun σ H R => ∀ (pins : List (Addr × Obj)) (s : Shared), Inv X pins σ H s →
  wpAny (model X.prog X.w) X.A (eval iter X.env) (fun v s1 => wpAny (model X.prog X.w) X.A (pyIter v) (PIE X pins σ tg R) X.xe s1) X.xe s
theorem piU {X : Cx} {tg iter : Expr} : PI X tg iter (tUI X tg iter) := ⟨fun pins s _ _ _ I h => h pins s I⟩
theorem tUI_of {X : Cx} {tg iter : Expr} {t : TI} {σ : L2.St} {H : Hp} {R : It → Hp → Prop} (h : PI X tg iter t) (q : t σ H R) : tUI X tg iter σ H R := fun pins s I => h.run pins s σ H R I q

/-! ### the slots change -/
section
variable {S : Type} [BoxS S] {K : PySem.W.Frag} {W : Wd} {Γ Γ' : SCx} {σ σ' : L2.St} {Z H Z' H' Z1 H1 : Hp} {st st' : S} {i : Nat} {d : D} {v : V}
theorem set_cases {α : Type} {l : List α} {i j : Nat} {x y : α} (h : (l.set i x)[j]? = some y) : (j = i ∧ y = x ∧ i < l.length) ∨ (j ≠ i ∧ l[j]? = some y) := by
  by_cases e : i = j
  · subst e
    by_cases hl : i < l.length
    · rw [List.getElem?_set_self hl] at h; cases h; exact .inl ⟨rfl, rfl, hl⟩
    · rw [List.getElem?_eq_none (by simpa using hl)] at h; cases h
  · rw [List.getElem?_set_ne e] at h; exact .inr ⟨fun z => e z.symm, h⟩
theorem SR.setF (r : SR K W Γ σ Z H st) (q : Rep K W.β Z d v) : SR K W (Γ.set i (some (.frz d))) (σ.set i (some v)) Z H st where
  ln := by rw [List.length_set, List.length_set]; exact r.ln
  sz := r.sz
  box := r.box
  zh := r.zh
  frz := fun j e h => by
    rcases set_cases h with ⟨rfl, he, hl⟩ | ⟨hn, h⟩
    · cases he
      exact ⟨v, List.getElem?_set_self (by rw [r.ln]; exact hl), q⟩
    · rw [List.getElem?_set_ne (Ne.symm hn)]; exact r.frz j e h
  own := fun j e h => by
    rcases set_cases h with ⟨rfl, he, hl⟩ | ⟨hn, h⟩
    · cases he
    · rw [List.getElem?_set_ne (Ne.symm hn)]; exact r.own j e h
  dis := fun j k e f a h1 h2 h3 h4 => by
    rcases set_cases h1 with ⟨rfl, he, hl⟩ | ⟨hn, h1⟩
    · cases he
    · rcases set_cases h2 with ⟨rfl, he, hl⟩ | ⟨hm, h2⟩
      · cases he
      · rw [List.getElem?_set_ne (Ne.symm hn)] at h3
        rw [List.getElem?_set_ne (Ne.symm hm)] at h4
        exact r.dis j k e f a h1 h2 h3 h4
theorem own_setF {a : Addr} (h : ownA (Γ.set i (some (.frz d))) (σ.set i (some v)) a) : ownA Γ σ a := by
  obtain ⟨j, e, h1, h2⟩ := h
  rcases set_cases h1 with ⟨rfl, he, hl⟩ | ⟨hn, h1⟩
  · cases he
  · rw [List.getElem?_set_ne (Ne.symm hn)] at h2
    exact ⟨j, e, h1, h2⟩
theorem SR.setO {p : Addr} (r : SR K W Γ σ Z H st) (mu : isMut d = true) (q : Rep1 K W.β Z H d (.ref p)) (z : Z p = none) (nb : ¬ W.bx p) (no : ¬ ownA Γ σ p) : SR K W (Γ.set i (some (.own d))) (σ.set i (some (.ref p))) Z H st where
  ln := by rw [List.length_set, List.length_set]; exact r.ln
  sz := r.sz
  box := r.box
  zh := r.zh
  frz := fun j e h => by
    rcases set_cases h with ⟨rfl, he, hl⟩ | ⟨hn, h⟩
    · cases he
    · rw [List.getElem?_set_ne (Ne.symm hn)]; exact r.frz j e h
  own := fun j e h => by
    rcases set_cases h with ⟨rfl, he, hl⟩ | ⟨hn, h⟩
    · cases he
      exact ⟨p, List.getElem?_set_self (by rw [r.ln]; exact hl), z, nb, mu, q⟩
    · rw [List.getElem?_set_ne (Ne.symm hn)]; exact r.own j e h
  dis := fun j k e f a h1 h2 h3 h4 => by
    rcases set_cases h1 with ⟨ej, he, hl⟩ | ⟨hn, g1⟩
    · rcases set_cases h2 with ⟨ek, he', hl'⟩ | ⟨hm, g2⟩
      · rw [ej, ek]
      · rw [ej, List.getElem?_set_self (by rw [r.ln]; exact hl)] at h3
        cases h3
        rw [List.getElem?_set_ne (Ne.symm hm)] at h4
        exact (no ⟨k, f, g2, h4⟩).elim
    · rcases set_cases h2 with ⟨ek, he', hl'⟩ | ⟨hm, g2⟩
      · rw [ek, List.getElem?_set_self (by rw [r.ln]; exact hl')] at h4
        cases h4
        rw [List.getElem?_set_ne (Ne.symm hn)] at h3
        exact (no ⟨j, e, g1, h3⟩).elim
      · rw [List.getElem?_set_ne (Ne.symm hn)] at h3
        rw [List.getElem?_set_ne (Ne.symm hm)] at h4
        exact r.dis j k e f a g1 g2 h3 h4
theorem own_setO {a p : Addr} (h : ownA (Γ.set i (some (.own d))) (σ.set i (some (.ref p))) a) : ownA Γ σ a ∨ a = p := by
  obtain ⟨j, e, h1, h2⟩ := h
  rcases set_cases h1 with ⟨rfl, he, hl⟩ | ⟨hn, h1⟩
  · by_cases hs : j < σ.length
    · rw [List.getElem?_set_self hs] at h2
      cases h2
      exact .inr rfl
    · rw [List.getElem?_eq_none (by simpa using hs)] at h2; cases h2
  · rw [List.getElem?_set_ne (Ne.symm hn)] at h2
    exact .inl ⟨j, e, h1, h2⟩
/-- the object of an own slot changes -/
theorem SR.mut {p : Addr} {o : HO} {d' : D} (r : SR K W Γ σ Z H st) (h0 : Γ[i]? = some (some (En.own d))) (hp : σ[i]? = some (some (V.ref p))) (mu : isMut d' = true) (q : Rep1 K W.β Z (upd H p o) d' (.ref p)) (so : SzO o) :
    SR K W (Γ.set i (some (.own d'))) σ Z (upd H p o) st := by
  obtain ⟨p', e', z, nb, _, _⟩ := r.own i d h0
  rw [hp] at e'; cases e'
  have np : ∀ a u, Z a = some u → a ≠ p := fun a u h e => by rw [e, z] at h; cases h
  refine ⟨by rw [List.length_set]; exact r.ln, r.sz.upd so, BoxS.congr r.box (upd_ne fun e => nb (.inl e.symm)) (upd_ne fun e => nb (.inr e.symm)), fun a u h => ⟨by rw [upd_ne (np a u h)]; exact (r.zh a u h).1, (r.zh a u h).2⟩, fun j e h => ?_, fun j e h => ?_, fun j k e f a h1 h2 h3 h4 => ?_⟩
  · rcases set_cases h with ⟨rfl, he, hl⟩ | ⟨hn, h⟩
    · cases he
    · exact r.frz j e h
  · rcases set_cases h with ⟨rfl, he, hl⟩ | ⟨hn, h⟩
    · cases he
      exact ⟨p, hp, z, nb, mu, q⟩
    · obtain ⟨a, ea, za, na, ma, qa⟩ := r.own j e h
      refine ⟨a, ea, za, na, ma, qa.mono (Sub.refl _) fun b eb u hb => ?_⟩
      cases eb
      rw [upd_ne (fun z => hn (r.dis j i e d a h h0 ea (by rw [z]; exact hp)))]
      exact hb
  · have g : ∀ (j : Nat) (e : D), (Γ.set i (some (En.own d')))[j]? = some (some (En.own e)) → ∃ e', Γ[j]? = some (some (En.own e')) := fun j e h => by
      rcases set_cases h with ⟨rfl, he, hl⟩ | ⟨hn, h⟩
      · exact ⟨d, h0⟩
      · exact ⟨e, h⟩
    obtain ⟨e', h1'⟩ := g j e h1
    obtain ⟨f', h2'⟩ := g k f h2
    exact r.dis j k e' f' a h1' h2' h3 h4
theorem own_mut {d' : D} {a : Addr} (h0 : Γ[i]? = some (some (En.own d))) (h : ownA (Γ.set i (some (.own d'))) σ a) : ownA Γ σ a := by
  obtain ⟨j, e, h1, h2⟩ := h
  rcases set_cases h1 with ⟨rfl, he, hl⟩ | ⟨hn, h1⟩
  · exact ⟨j, d, h0, h2⟩
  · exact ⟨j, e, h1, h2⟩
/-- less is known -/
def Wk (Γ Γ' : SCx) : Prop := Γ'.length = Γ.length ∧ ∀ (i : Nat) (e : En), Γ'[i]? = some (some e) → Γ[i]? = some (some e)
def maskOut : List Bool → SCx → SCx
  | b :: bs, e :: es => (if b then e else none) :: maskOut bs es
  | [], es => es
  | _ :: _, [] => []
theorem wk_mask : ∀ {bs : List Bool} {Γ : SCx}, Wk Γ (maskOut bs Γ)
  | [], Γ => ⟨by cases Γ <;> rfl, fun i e h => by cases Γ <;> exact h⟩
  | b :: bs, [] => ⟨rfl, fun i e h => by simp [maskOut] at h⟩
  | b :: bs, x :: es => by
    obtain ⟨h1, h2⟩ := wk_mask (bs := bs) (Γ := es)
    refine ⟨by simp only [maskOut, List.length_cons]; rw [h1], fun i e h => ?_⟩
    cases i with
    | zero =>
      have h' : (if b then x else none) = some e := by simpa [maskOut] using h
      cases b with
      | true => rw [if_pos rfl] at h'; subst h'; simp
      | false => cases h'
    | succ i =>
      have h' : (maskOut bs es)[i]? = some (some e) := by simpa [maskOut] using h
      simpa using h2 i e h'
theorem SR.wk (r : SR K W Γ σ Z H st) (k : Wk Γ Γ') : SR K W Γ' σ Z H st :=
  ⟨by rw [k.1]; exact r.ln, r.sz, r.box, r.zh, fun i d h => r.frz i d (k.2 i _ h), fun i d h => r.own i d (k.2 i _ h), fun i j d e a h1 h2 => r.dis i j d e a (k.2 i _ h1) (k.2 j _ h2)⟩
theorem own_wk (k : Wk Γ Γ') {a : Addr} (h : ownA Γ' σ a) : ownA Γ σ a := by
  obtain ⟨i, d, h1, h2⟩ := h
  exact ⟨i, d, k.2 i _ h1, h2⟩
/-- an own list is never changed any more -/
theorem SR.freeze (r : SR K W Γ σ Z H st) (h0 : Γ[i]? = some (some (En.own d))) : ∃ p o, σ[i]? = some (some (V.ref p)) ∧ ownA Γ σ p ∧ Z p = none ∧ H p = some o ∧ SR K W (Γ.set i (some (.frz d))) σ (upd Z p o) H st ∧ Rep K W.β (upd Z p o) d (.ref p) := by
  obtain ⟨p, hp, z, nb, mu, q⟩ := r.own i d h0
  have hx : ∃ o, H p = some o := r.ownThere ⟨i, d, h0, hp⟩
  obtain ⟨o, ho⟩ := hx
  have sz : Sub Z (upd Z p o) := fun a u h => upd_none z h
  have rq : Rep K W.β (upd Z p o) d (.ref p) := Rep1.rep (H := H) (q.mono sz fun _ _ _ h => h) fun a e _ => by cases e; rw [upd_same, ho]
  refine ⟨p, o, hp, ⟨i, d, h0, hp⟩, z, ho, ⟨by rw [List.length_set]; exact r.ln, r.sz, r.box, fun a u h => ?_, fun j e h => ?_, fun j e h => ?_, fun j k e f a h1 h2 h3 h4 => ?_⟩, rq⟩
  · rcases upd_get h with ⟨rfl, rfl⟩ | ⟨_, h⟩
    · exact ⟨ho, nb⟩
    · exact r.zh a u h
  · rcases set_cases h with ⟨rfl, he, hl⟩ | ⟨hn, h⟩
    · cases he; exact ⟨_, hp, rq⟩
    · obtain ⟨v, ev, rv⟩ := r.frz j e h
      exact ⟨v, ev, rv.mono sz⟩
  · rcases set_cases h with ⟨rfl, he, hl⟩ | ⟨hn, h⟩
    · cases he
    · obtain ⟨a, ea, za, na, ma, qa⟩ := r.own j e h
      refine ⟨a, ea, ?_, na, ma, qa.mono sz fun _ _ _ h => h⟩
      rw [upd_ne (fun z' => hn (r.dis j i e d a h h0 ea (by rw [z']; exact hp)))]
      exact za
  · rcases set_cases h1 with ⟨rfl, he, hl⟩ | ⟨hn, h1⟩
    · cases he
    · rcases set_cases h2 with ⟨rfl, he, hl⟩ | ⟨hm, h2⟩
      · cases he
      · exact r.dis j k e f a h1 h2 h3 h4
theorem own_freeze {a : Addr} (h : ownA (Γ.set i (some (.frz d))) σ a) : ownA Γ σ a := by
  obtain ⟨j, e, h1, h2⟩ := h
  rcases set_cases h1 with ⟨rfl, he, hl⟩ | ⟨hn, h1⟩
  · cases he
  · exact ⟨j, e, h1, h2⟩
end

/-! ### blocks -/
structure Tg (τ l : Type) where
  nx : τ → SCx
  lp : l → SCx
inductive Fl (τ l : Type) where
  | nx (s : τ) | rt (d : D) | bk (s : l) | ct (s : l)
/-- what a block may do -/
structure BSt (W : Wd) (Γ : SCx) (σ : L2.St) (Z H Z' H' : Hp) : Prop where
  zz : Sub Z Z'
  hh : ∀ a o, H a = some o → ¬ W.bx a → ¬ ownA Γ σ a → H' a = some o
  nw : ∀ a o, Z' a = some o → Z a = some o ∨ H a = none ∨ ownA Γ σ a
  sz : Sz H → Sz H'
def OwLe (Γ : SCx) (σ : L2.St) (H : Hp) (Γ' : SCx) (σ' : L2.St) : Prop := ∀ a, ownA Γ' σ' a → ownA Γ σ a ∨ H a = none
def FlOk {S : Type} [BoxS S] {τ l : Type} (K : PySem.W.Frag) (W : Wd) (Γ : SCx) (σ : L2.St) (Z H : Hp) (T : Tg τ l) (f : Fl τ l) (st' : S) (D : Ends) : Prop :=
  match f with
  | .nx s => ∀ σ' Z' H', SR K W (T.nx s) σ' Z' H' st' → BSt W Γ σ Z H Z' H' → OwLe Γ σ H (T.nx s) σ' → D.nx σ' H'
  | .ct s => ∀ σ' Z' H', SR K W (T.lp s) σ' Z' H' st' → BSt W Γ σ Z H Z' H' → OwLe Γ σ H (T.lp s) σ' → D.ct σ' H'
  | .bk s => ∀ σ' Z' H', SR K W (T.lp s) σ' Z' H' st' → BSt W Γ σ Z H Z' H' → OwLe Γ σ H (T.lp s) σ' → D.bk σ' H'
  | .rt d => ∀ v Z' H', (∀ a o, Z' a = some o → H' a = some o ∧ ¬ W.bx a) → BoxS.R st' W.β W.γ H' → BSt W Γ σ Z H Z' H' → Rep K W.β Z' d v → D.rt v H'
def OkBD {S : Type} [BoxS S] {τ l : Type} (C : Stat) (Γ : SCx) (ss : List Stmt) (T : Tg τ l) (m : M S (Fl τ l)) : Prop :=
  ∀ X, CtxP C X → ∀ (W : Wd) (σ : L2.St) (Z H : Hp) (st : S) (f : Fl τ l) (st' : S) (D : Ends), SR X.K W Γ σ Z H st → m st = some (f, st') → FlOk X.K W Γ σ Z H T f st' D → tUS X ss D σ H
structure OkB {S : Type} [BoxS S] {τ l : Type} (C : Stat) (Γ : SCx) (ss : List Stmt) (T : Tg τ l) (m : M S (Fl τ l)) : Prop where
  mk ::
  run : OkBD C Γ ss T m
instance {S : Type} [BoxS S] {τ l : Type} {C : Stat} {Γ : SCx} {ss : List Stmt} {T : Tg τ l} {m : M S (Fl τ l)} : CoeFun (OkB C Γ ss T m) fun _ => OkBD C Γ ss T m := ⟨OkB.run⟩

section
variable {S : Type} [BoxS S] {K : PySem.W.Frag} {W : Wd} {Γ Γ1 : SCx} {σ σ1 : L2.St} {Z H Z1 H1 Z2 H2 : Hp} {st st' : S} {τ l : Type}
theorem Stp.bst (s : Stp W Z H Z1 H1) : BSt W Γ σ Z H Z1 H1 := ⟨s.zz, fun a o h n _ => s.hh a o h n, fun a o h => (s.nw a o h).elim .inl fun q => .inr (.inl q), s.sz⟩
theorem BSt.refl : BSt W Γ σ Z H Z H := ⟨Sub.refl _, fun _ _ h _ _ => h, fun _ _ h => .inl h, id⟩
theorem OwLe.refl : OwLe Γ σ H Γ σ := fun _ h => .inl h
theorem BSt.trans (nb : ∀ a o, Z2 a = some o → ¬ W.bx a) (s : BSt W Γ σ Z H Z1 H1) (w : OwLe Γ σ H Γ1 σ1) (t : BSt W Γ1 σ1 Z1 H1 Z2 H2) : BSt W Γ σ Z H Z2 H2 where
  zz := s.zz.trans t.zz
  hh := fun a o h n no => t.hh a o (s.hh a o h n no) n fun q => by
    rcases w a q with q | q
    · exact no q
    · rw [h] at q; cases q
  nw := fun a o h => by
    rcases t.nw a o h with q | q | q
    · exact s.nw a o q
    · cases e : H a with
      | none => exact .inr (.inl rfl)
      | some u =>
        by_cases no : ownA Γ σ a
        · exact .inr (.inr no)
        · rw [s.hh a u e (nb a o h) no] at q; cases q
    · rcases w a q with q | q
      · exact .inr (.inr q)
      · exact .inr (.inl q)
  sz := fun h => t.sz (s.sz h)
theorem OwLe.trans {Γ2 : SCx} {σ2 : L2.St} (s : BSt W Γ σ Z H Z1 H1) (w : OwLe Γ σ H Γ1 σ1) (t : OwLe Γ1 σ1 H1 Γ2 σ2) (nb : ∀ a, ownA Γ2 σ2 a → ¬ W.bx a) : OwLe Γ σ H Γ2 σ2 := fun a h => by
  rcases t a h with q | q
  · exact w a q
  · cases e : H a with
    | none => exact .inr rfl
    | some u =>
      by_cases no : ownA Γ σ a
      · exact .inl no
      · rw [s.hh a u e (nb a h) no] at q; cases q
theorem SR.ownNb (r : SR K W Γ σ Z H st) {a : Addr} (h : ownA Γ σ a) : ¬ W.bx a := by
  obtain ⟨i, d, h1, h2⟩ := h
  obtain ⟨b, e, z, n, mu, q⟩ := r.own i d h1
  rw [h2] at e; cases e
  exact n
/-- behind a first part -/
theorem FlOk.after {T : Tg τ l} {f : Fl τ l} {D : Ends} (s : BSt W Γ σ Z H Z1 H1) (w : OwLe Γ σ H Γ1 σ1) (h : FlOk K W Γ σ Z H T f st' D) : FlOk K W Γ1 σ1 Z1 H1 T f st' D := by
  cases f with
  | nx x => exact fun σ' Z' H' r t u => h σ' Z' H' r (s.trans (fun a o e => (r.zh a o e).2) w t) (w.trans s u fun a => r.ownNb)
  | ct x => exact fun σ' Z' H' r t u => h σ' Z' H' r (s.trans (fun a o e => (r.zh a o e).2) w t) (w.trans s u fun a => r.ownNb)
  | bk x => exact fun σ' Z' H' r t u => h σ' Z' H' r (s.trans (fun a o e => (r.zh a o e).2) w t) (w.trans s u fun a => r.ownNb)
  | rt d => exact fun v Z' H' zh b t r => h v Z' H' zh b (s.trans (fun a o e => (zh a o e).2) w t) r
end

section
variable {S : Type} [BoxS S] {C : Stat} {Γ Γ' : SCx} {e a b c : Expr} {rest body : List Stmt} {m : M S D} {pos : Pos} {τ l τ' l' : Type} {T : Tg τ l} {i : Nat} {x : Str}
theorem OkB.nil {s : τ} (k : Wk Γ (T.nx s)) : OkB (S := S) C Γ [] T (ret (.nx s)) := .mk fun X hX W σ Z H st f st' D r hm q => by
  obtain ⟨rfl, rfl⟩ := ret_some hm
  exact tUS_of pss_nil (q σ Z H (r.wk k) BSt.refl fun a h => .inl (own_wk k h))
theorem OkB.cont {s : l} (k : Wk Γ (T.lp s)) : OkB (S := S) C Γ (.Continue pos :: rest) T (ret (.ct s)) := .mk fun X hX W σ Z H st f st' D r hm q => by
  obtain ⟨rfl, rfl⟩ := ret_some hm
  exact tUS_of (pss_cons ps_continue pssU) (q σ Z H (r.wk k) BSt.refl fun a h => .inl (own_wk k h))
theorem OkB.brk {s : l} (k : Wk Γ (T.lp s)) : OkB (S := S) C Γ (.Break pos :: rest) T (ret (.bk s)) := .mk fun X hX W σ Z H st f st' D r hm q => by
  obtain ⟨rfl, rfl⟩ := ret_some hm
  exact tUS_of (pss_cons ps_break pssU) (q σ Z H (r.wk k) BSt.refl fun a h => .inl (own_wk k h))
theorem OkB.ret (he : Ok .E C Γ e m) : OkB C Γ (.Return (some e) pos :: rest) T (bnd m fun d => ret (.rt d)) := .mk fun X hX W σ Z H st f st' D r hm q => by
  obtain ⟨d, st1, h1, hm1⟩ := bnd_some hm
  obtain ⟨rfl, rfl⟩ := ret_some hm1
  refine tUS_of (pss_cons (ps_ret peU) pssU) (he X hX W σ Z H st d _ _ r h1 fun v Z' H' s b r' => ?_)
  exact q v Z' H' s.zh b s.bst r'
theorem OkB.retN : OkB (S := S) C Γ (.Return none pos :: rest) T (Sn.ret (.rt .non)) := .mk fun X hX W σ Z H st f st' D r hm q => by
  obtain ⟨rfl, rfl⟩ := ret_some hm
  exact tUS_of (pss_cons ps_retN pssU) (q _ Z H r.zh r.box BSt.refl .non)
/-- an own list is never changed any more -/
theorem OkB.freeze {d : D} {ss : List Stmt} {mb : M S (Fl τ l)} (i : Nat) (h0 : Γ[i]? = some (some (.own d))) (hb : OkB C (Γ.set i (some (.frz d))) ss T mb) : OkB C Γ ss T mb := .mk fun X hX W σ Z H st f st' D r hm q => by
  obtain ⟨p, o, hp, ow, z, ho, r', rq⟩ := r.freeze h0
  have s : BSt W Γ σ Z H (upd Z p o) H := ⟨fun a u h => upd_none z h, fun _ _ h _ _ => h, fun a u h => by
    rcases upd_get h with ⟨rfl, rfl⟩ | ⟨_, h⟩
    · exact .inr (.inr ow)
    · exact .inl h, id⟩
  exact hb X hX W σ (upd Z p o) H st f st' D r' hm (q.after s fun a h => .inl (own_freeze h))
theorem store_hyp {X : Cx} (hX : CtxP C X) (h : C.fn x = true ∨ C.sc.names.lookup x = some .local) : X.fn x = true ∨ X.env.scope.names.lookup x = some .local := by
  rcases h with h | h
  · exact .inl (hX.fn x h)
  · exact .inr (by rw [hX.sc]; exact h)
theorem sw_cell {elt : Expr} {gs : List Comprehension} {scope sc : Scope} {p py : Pos} {y : Str} {ln : Nat} {env : Env} (he : env.scope = sc) (hy : sc.names.lookup y = some .cell) : swapsWith (.ListComp elt gs scope p) (some (.Name y py)) ln env = pure false := by
  have ky : env.kindOf y = some .cell := by show env.scope.names.lookup y = _; rw [he]; exact hy
  unfold swapsWith
  simp only [ky]
  cases env.blockKind == .function <;> rfl
/-- name = e -/
theorem OkB.set {k : D → M S (Fl τ l)} {pos' : Pos} (hN : C.N[i]? = some x) (hx : Loc C.sc x) (hf : C.fn x = true ∨ C.sc.names.lookup x = some .local) (he : Ok .E C Γ e m) (hb : ∀ d, OkB C (Γ.set i (some (.frz d))) rest T (k d))
    (hs : ∀ env : Env, env.scope = C.sc → swapsWith e (some (.Name x pos')) pos.line env = pure false := by intro _ _; rfl) : OkB C Γ (.Assign [.Name x pos'] e pos :: rest) T (bnd m k) := .mk fun X hX W σ Z H st f st' D r hm q => by
  obtain ⟨d, st1, h1, hm1⟩ := bnd_some hm
  refine tUS_of (pss_cons (ps_set (i := i) (by rw [hX.N]; exact hX.nd) (by rw [hX.N]; exact hN) (by rw [hX.sc]; exact hx) peU (hs _ hX.sc) (store_hyp hX hf)) pssU) ?_
  refine he X hX W σ Z H st d st1 _ r h1 fun v Z1 H1 s1 b1 r1 => ?_
  exact hb d X hX W (σ.set i (some v)) Z1 H1 st1 f st' D ((r.step s1 b1).setF r1) hm1 (q.after s1.bst fun a h => .inl (own_setF h))
/-- .. a new list, to be changed -/
theorem OkB.setO {k : D → M S (Fl τ l)} {pos' : Pos} (hN : C.N[i]? = some x) (hx : Loc C.sc x) (hf : C.fn x = true ∨ C.sc.names.lookup x = some .local) (he : Ok .N C Γ e m) (hb : ∀ d, OkB C (Γ.set i (some (.own d))) rest T (k d))
    (hs : ∀ env : Env, env.scope = C.sc → swapsWith e (some (.Name x pos')) pos.line env = pure false := by intro _ _; rfl) : OkB C Γ (.Assign [.Name x pos'] e pos :: rest) T (bnd m fun d => if isMut d = true then k d else stuck) := .mk fun X hX W σ Z H st f st' D r hm q => by
  obtain ⟨d, st1, h1, hm1⟩ := bnd_some hm
  by_cases mu : isMut d = true
  · rw [if_pos mu] at hm1
    refine tUS_of (pss_cons (ps_set (i := i) (by rw [hX.N]; exact hX.nd) (by rw [hX.N]; exact hN) (by rw [hX.sc]; exact hx) peU (hs _ hX.sc) (store_hyp hX hf)) pssU) ?_
    refine he X hX W σ Z H st d st1 _ r h1 fun v Z1 H1 s1 b1 r1 => ?_
    have hv : ∃ p, v = .ref p := by
      obtain ⟨q4, _⟩ := r1
      cases d with
      | lst ds => obtain ⟨b, vs, eb, _⟩ := q4; exact ⟨b, eb⟩
      | dct ds => obtain ⟨b, eb, _⟩ := q4; exact ⟨b, eb⟩
      | _ => cases mu
    obtain ⟨p, rfl⟩ := hv
    obtain ⟨f1, f2, f3⟩ := r1.2 p rfl mu
    have no : ¬ ownA Γ σ p := fun h => by
      obtain ⟨o, ho⟩ := r.ownThere h
      rw [f1] at ho; cases ho
    refine hb d X hX W (σ.set i (some (.ref p))) Z1 H1 st1 f st' D ((r.step s1 b1).setO mu r1.1 f2 f3 no) hm1 (q.after s1.bst fun a h => ?_)
    rcases own_setO h with h | rfl
    · exact .inl h
    · exact .inr f1
  · rw [if_neg mu] at hm1; exact (stuck_some hm1).elim
/-- what follows an inner block -/
def seqF {S : Type} {τ l τ' : Type} (f : Fl τ' l) (k : τ' → M S (Fl τ l)) : M S (Fl τ l) :=
  match f with
  | .nx s => k s
  | .rt d => Sn.ret (.rt d)
  | .bk s => Sn.ret (.bk s)
  | .ct s => Sn.ret (.ct s)
theorem OkB.ite {n : M S Bool} {A B : List Stmt} {Γj : τ' → SCx} {mA mB : M S (Fl τ' l)} {k : τ' → M S (Fl τ l)} (hc : OkT C Γ c n) (hA : OkB C Γ A ⟨Γj, T.lp⟩ mA) (hB : OkB C Γ B ⟨Γj, T.lp⟩ mB) (hk : ∀ s, OkB C (Γj s) rest T (k s)) :
    OkB C Γ (.If c A B pos :: rest) T (bnd n fun t => bnd (if t = true then mA else mB) fun f => seqF f k) := .mk fun X hX W σ Z H st f st' D r hm q => by
  obtain ⟨t, st1, h1, hm1⟩ := bnd_some hm
  obtain ⟨g, st2, h2, hm2⟩ := bnd_some hm1
  refine tUS_of (pss_cons (ps_if ptU pssU pssU) pssU) ?_
  refine hc X hX W σ Z H st t st1 _ r h1 fun Z1 H1 s1 b1 => ?_
  have r1 := r.step s1 b1
  have q1 : FlOk X.K W Γ σ Z1 H1 T f st' D := q.after s1.bst OwLe.refl
  have inner : FlOk X.K W Γ σ Z1 H1 ⟨Γj, T.lp⟩ g st2 { D with nx := tUS X rest D } := by
    cases g with
    | nx s => exact fun σ' Z' H' r' s' w' => hk s X hX W σ' Z' H' st2 f st' D r' hm2 (q1.after s' w')
    | rt d => obtain ⟨rfl, rfl⟩ := ret_some hm2; exact q1
    | bk s => obtain ⟨rfl, rfl⟩ := ret_some hm2; exact q1
    | ct s => obtain ⟨rfl, rfl⟩ := ret_some hm2; exact q1
  cases t with
  | true => exact hA X hX W σ Z1 H1 st1 g st2 _ r1 h2 inner
  | false => exact hB X hX W σ Z1 H1 st1 g st2 _ r1 h2 inner

/-! ### targets -/
def TgOk (C : Stat) (Γ : SCx) (tg : Expr) (d : D) (Γ' : SCx) (vs : List Nat) : Prop :=
  ∀ X, CtxP C X → ∀ {S : Type} [BoxS S] (W : Wd) (σ : L2.St) (Z H : Hp) (st : S) (v : V) (Q : L2.St → Hp → Prop), SR X.K W Γ σ Z H st → Rep X.K W.β Z d v →
    (∀ σ', SR X.K W Γ' σ' Z H st → (∀ ws : List Nat, (∀ i ∈ vs, i ∈ ws) → wipe σ' ws = wipe σ ws) → (∀ a, ownA Γ' σ' a → ownA Γ σ a) → Q σ' H) → tUG X tg v σ H Q
def TgsOk (C : Stat) (Γ : SCx) (tgs : List Expr) (ds : List D) (Γ' : SCx) (vs : List Nat) : Prop :=
  match tgs, ds with
  | [], [] => Γ' = Γ ∧ vs = []
  | t :: ts, d :: ds => ∃ Γ1 v1 v2, TgOk C Γ t d Γ1 v1 ∧ TgsOk C Γ1 ts ds Γ' v2 ∧ vs = v1 ++ v2
  | _, _ => False
theorem wipe_set {σ : L2.St} {i : Nat} {o : Option V} : ∀ {ws : List Nat}, i ∈ ws → wipe (σ.set i o) ws = wipe σ ws
  | [], h => by cases h
  | w :: ws, h => by
    show (wipe (σ.set i o) ws).set w none = (wipe σ ws).set w none
    by_cases hi : i ∈ ws
    · rw [wipe_set hi]
    · have e : w = i := by
        rcases List.mem_cons.mp h with h | h
        · exact h.symm
        · exact absurd h hi
      subst e
      clear h
      have g : ∀ (us : List Nat), w ∉ us → wipe (σ.set w o) us = (wipe σ us).set w o := by
        intro us
        induction us with
        | nil => intro _; rfl
        | cons u us ih =>
          intro hu
          show (wipe (σ.set w o) us).set u none = ((wipe σ us).set u none).set w o
          rw [ih fun z => hu (List.mem_cons_of_mem _ z)]
          exact List.set_comm _ _ (fun z => hu (z ▸ List.mem_cons_self))
      rw [g ws hi, List.set_set]
theorem TgOk.name {d : D} (hN : C.N[i]? = some x) (hx : Loc C.sc x) (hf : C.fn x = true ∨ C.sc.names.lookup x = some .local) : TgOk C Γ (.Name x pos) d (Γ.set i (some (.frz d))) [i] := fun X hX S _ W σ Z H st v Q r rv q =>
  tUG_of (pg_name (i := i) (by rw [hX.N]; exact hX.nd) (by rw [hX.N]; exact hN) (by rw [hX.sc]; exact hx) (store_hyp hX hf)) (q _ (r.setF rv) (fun ws h => wipe_set (h i (by simp))) fun a h => own_setF h)
def tUGs (X : Cx) (tgs : List Expr) : TGs := fun vs σ H Q => ∀ (pins : List (Addr × Obj)) (s : Shared) (us : List Value), Inv X pins σ H s → Vals vs us → wpAny (model X.prog X.w) X.A (assignInOrder ((assignEach tgs X.env).map (·.2)) us) (fun _ s' => ∃ σ' H', Inv X pins σ' H' s' ∧ Q σ' H') X.xe s
theorem pgsU {X : Cx} {tgs : List Expr} : PGs X tgs (tUGs X tgs) := ⟨fun pins s _ _ _ us _ I r h => h pins s us I r⟩
theorem tUGs_of {X : Cx} {tgs : List Expr} {t : TGs} {vs : List V} {σ : L2.St} {H : Hp} {Q : L2.St → Hp → Prop} (h : PGs X tgs t) (q : t vs σ H Q) : tUGs X tgs vs σ H Q := fun pins s us I r => h.run pins s σ H vs us Q I r q
/-- a target that is a name or a tuple of such -/
def plainTg : Expr → Bool
  | .Name _ _ => true
  | .Tuple es _ _ => !es.isEmpty
  | _ => false
theorem each_plain (env : Env) {t : Expr} {ts : List Expr} (h : plainTg t = true) : (assignEach (t :: ts) env) = (false, assign t env) :: assignEach ts env := by
  cases t <;> first | rfl | cases h
theorem TgsOk.run {X : Cx} (hX : CtxP C X) {W : Wd} : ∀ {tgs : List Expr} {ds : List D} {Γ Γ' : SCx} {vs : List Nat} {us : List V} {σ : L2.St} {Z H : Hp} {st : S} {Q : L2.St → Hp → Prop}, (tgs.all plainTg = true) → TgsOk C Γ tgs ds Γ' vs → SR X.K W Γ σ Z H st → RepL X.K W.β Z ds us →
    (∀ σ', SR X.K W Γ' σ' Z H st → (∀ ws : List Nat, (∀ i ∈ vs, i ∈ ws) → wipe σ' ws = wipe σ ws) → (∀ a, ownA Γ' σ' a → ownA Γ σ a) → Q σ' H) → tUGs X tgs us σ H Q
  | [], [], _, _, _, _, _, _, _, _, _, _, h, r, rl, q => by
    obtain ⟨rfl, rfl⟩ := h
    cases rl
    exact tUGs_of pgs_nil ⟨rfl, q _ r (fun _ _ => rfl) fun _ h => h⟩
  | t :: ts, d :: ds, _, _, _, _, σ, _, _, _, _, hp, h, r, rl, q => by
    obtain ⟨Γ1, v1, v2, h1, h2, rfl⟩ := h
    cases rl with
    | cons rd rs =>
      rw [List.all_cons, Bool.and_eq_true] at hp
      refine tUGs_of (pgs_cons pgU pgsU (by rw [each_plain _ hp.1]; rfl)) ⟨_, _, rfl, ?_⟩
      refine h1 X hX W σ _ _ _ _ _ r rd fun σ1 r1 w1 o1 => ?_
      refine TgsOk.run hX hp.2 h2 r1 rs fun σ2 r2 w2 o2 => ?_
      exact q σ2 r2 (fun ws hw => (w2 ws fun i hi => hw i (List.mem_append_right _ hi)).trans (w1 ws fun i hi => hw i (List.mem_append_left _ hi))) fun a h => o1 a (o2 a h)
  | [], _ :: _, _, _, _, _, _, _, _, _, _, _, h, _, _, _ => h.elim
  | _ :: _, [], _, _, _, _, _, _, _, _, _, _, h, _, _, _ => h.elim
theorem each_len (env : Env) : ∀ {ts : List Expr}, ts.all plainTg = true → (assignEach ts env).length = ts.length ∧ (assignEach ts env).findIdx? (·.1) = none
  | [], _ => ⟨rfl, rfl⟩
  | t :: ts, h => by
    rw [List.all_cons, Bool.and_eq_true] at h
    obtain ⟨h1, h2⟩ := each_len env h.2
    rw [each_plain _ h.1]
    refine ⟨by rw [List.length_cons, List.length_cons, h1], ?_⟩
    rw [List.findIdx?_cons, h2]
    rfl
theorem TgsOk.len : ∀ {tgs : List Expr} {ds : List D} {Γ Γ' : SCx} {vs : List Nat}, TgsOk C Γ tgs ds Γ' vs → tgs.length = ds.length
  | [], [], _, _, _, _ => rfl
  | t :: ts, d :: ds, _, _, _, ⟨_, _, _, _, h, _⟩ => by rw [List.length_cons, List.length_cons, TgsOk.len h]
  | [], _ :: _, _, _, _, h => h.elim
  | _ :: _, [], _, _, _, h => h.elim
theorem TgOk.tup {tgs : List Expr} {ds : List D} {vs : List Nat} {k : Nat} (h : TgsOk C Γ tgs ds Γ' vs) (hp : tgs.all plainTg = true) : TgOk C Γ (.Tuple tgs k pos) (.tup ds) Γ' vs := fun X hX S _ W σ Z H st v Q r rv q => by
  cases rv with
  | tup hq rl =>
    refine tUG_of (pg_tup (n := tgs.length) hX.calm pgsU (each_len _ hp).1 (each_len _ hp).2) ⟨_, _, rfl, r.sub.sqT hq, ?_, TgsOk.run hX hp h r rl q⟩
    rw [← rl.length, h.len]
/-- data bound to targets, then what K says of what is known and of the rest -/
def BindOk {α : Type} (C : Stat) (Γ : SCx) (tgs : List Expr) (ds : List D) (Wp : Nat → Prop) (K : SCx → M S α → Prop) (m : M S α) : Prop :=
  (∀ st, m st = none) ∨ ∃ Γ' vs, TgsOk C Γ tgs ds Γ' vs ∧ (∀ i ∈ vs, Wp i) ∧ K Γ' m
def pat2 {S α : Type} (f : D → D → M S α) : D → M S α
  | .tup [a, b] => f a b
  | _ => stuck
def pat3 {S α : Type} (f : D → D → D → M S α) : D → M S α
  | .tup [a, b, c] => f a b c
  | _ => stuck
def pat4 {S α : Type} (f : D → D → D → D → M S α) : D → M S α
  | .tup [a, b, c, d] => f a b c d
  | _ => stuck
section
variable {α : Type} {tgs : List Expr} {ds : List D} {Wp : Nat → Prop} {KK : SCx → M S α → Prop} {mm : M S α}
theorem BindOk.nil (h : KK Γ mm) : BindOk C Γ [] [] Wp KK mm := .inr ⟨Γ, [], ⟨rfl, rfl⟩, (fun _ h => nomatch h), h⟩
theorem BindOk.name {d : D} (hN : C.N[i]? = some x) (hx : Loc C.sc x) (hf : C.fn x = true ∨ C.sc.names.lookup x = some .local) (h : BindOk C (Γ.set i (some (.frz d))) tgs ds Wp KK mm) (hw : Wp i := by first | exact True.intro | decide) : BindOk C Γ (.Name x pos :: tgs) (d :: ds) Wp KK mm := by
  rcases h with h | ⟨Γ', vs, h1, h3, h2⟩
  · exact .inl h
  · exact .inr ⟨Γ', _, ⟨_, _, _, TgOk.name hN hx hf, h1, rfl⟩, (fun j hj => by
      rcases List.mem_append.mp hj with hj | hj
      · rw [List.mem_singleton.mp hj]; exact hw
      · exact h3 j hj), h2⟩
theorem BindOk.tupN {es : List Expr} {ts : List D} {k : Nat} (hp : es.all plainTg = true) (hl : es.length = ts.length) (h : BindOk C Γ (es ++ tgs) (ts ++ ds) Wp KK mm) : BindOk C Γ (.Tuple es k pos :: tgs) (.tup ts :: ds) Wp KK mm := by
  rcases h with h | ⟨Γ', vs, h1, h3, h2⟩
  · exact .inl h
  · have split : ∀ (es : List Expr) (ts : List D) (Γ : SCx) (vs : List Nat), es.length = ts.length → TgsOk C Γ (es ++ tgs) (ts ++ ds) Γ' vs → ∃ Γ1 v1 v2, TgsOk C Γ es ts Γ1 v1 ∧ TgsOk C Γ1 tgs ds Γ' v2 ∧ vs = v1 ++ v2 := by
      intro es
      induction es with
      | nil =>
        intro ts Γ vs hl h
        cases ts with
        | nil => exact ⟨Γ, [], vs, ⟨rfl, rfl⟩, h, rfl⟩
        | cons _ _ => cases hl
      | cons e es ih =>
        intro ts Γ vs hl h
        cases ts with
        | nil => cases hl
        | cons t ts =>
          obtain ⟨Γ1, v1, v2, g1, g2, rfl⟩ := h
          obtain ⟨Γ2, w1, w2, k1, k2, rfl⟩ := ih ts Γ1 v2 (by simpa using hl) g2
          exact ⟨Γ2, v1 ++ w1, w2, ⟨Γ1, v1, w1, g1, k1, rfl⟩, k2, by rw [List.append_assoc]⟩
    obtain ⟨Γ1, v1, v2, k1, k2, rfl⟩ := split es ts Γ vs hl h1
    exact .inr ⟨Γ', _, ⟨Γ1, v1, v2, TgOk.tup k1 hp, k2, rfl⟩, h3, h2⟩
theorem BindOk.tup2 {t1 t2 : Expr} {k : Nat} {d : D} {f : D → D → M S α} (hp : [t1, t2].all plainTg = true) (h : ∀ a b, BindOk C Γ (t1 :: t2 :: tgs) (a :: b :: ds) Wp KK (f a b)) : BindOk C Γ (.Tuple [t1, t2] k pos :: tgs) (d :: ds) Wp KK (pat2 f d) := by
  cases d with
  | tup xs =>
    match xs with
    | [a, b] => exact BindOk.tupN (ts := [a, b]) hp rfl (h a b)
    | [] => exact .inl fun _ => rfl
    | [_] => exact .inl fun _ => rfl
    | _ :: _ :: _ :: _ => exact .inl fun _ => rfl
  | _ => exact .inl fun _ => rfl
theorem BindOk.tup3 {t1 t2 t3 : Expr} {k : Nat} {d : D} {f : D → D → D → M S α} (hp : [t1, t2, t3].all plainTg = true) (h : ∀ a b c, BindOk C Γ (t1 :: t2 :: t3 :: tgs) (a :: b :: c :: ds) Wp KK (f a b c)) : BindOk C Γ (.Tuple [t1, t2, t3] k pos :: tgs) (d :: ds) Wp KK (pat3 f d) := by
  cases d with
  | tup xs =>
    match xs with
    | [a, b, c] => exact BindOk.tupN (ts := [a, b, c]) hp rfl (h a b c)
    | [] => exact .inl fun _ => rfl
    | [_] => exact .inl fun _ => rfl
    | [_, _] => exact .inl fun _ => rfl
    | _ :: _ :: _ :: _ :: _ => exact .inl fun _ => rfl
  | _ => exact .inl fun _ => rfl
theorem BindOk.tup4 {t1 t2 t3 t4 : Expr} {k : Nat} {d : D} {f : D → D → D → D → M S α} (hp : [t1, t2, t3, t4].all plainTg = true) (h : ∀ a b c e, BindOk C Γ (t1 :: t2 :: t3 :: t4 :: tgs) (a :: b :: c :: e :: ds) Wp KK (f a b c e)) : BindOk C Γ (.Tuple [t1, t2, t3, t4] k pos :: tgs) (d :: ds) Wp KK (pat4 f d) := by
  cases d with
  | tup xs =>
    match xs with
    | [a, b, c, e] => exact BindOk.tupN (ts := [a, b, c, e]) hp rfl (h a b c e)
    | [] => exact .inl fun _ => rfl
    | [_] => exact .inl fun _ => rfl
    | [_, _] => exact .inl fun _ => rfl
    | [_, _, _] => exact .inl fun _ => rfl
    | _ :: _ :: _ :: _ :: _ :: _ => exact .inl fun _ => rfl
  | _ => exact .inl fun _ => rfl
end
/-- a, b = e -/
theorem OkB.unpack {tg : Expr} {k : D → M S (Fl τ l)} (he : Ok .E C Γ e m) (hb : ∀ d, BindOk C Γ [tg] [d] (fun _ => True) (fun Γ' n => OkB C Γ' rest T n) (k d))
    (hs : ∀ env : Env, swapsWithSole [tg] e pos.line env = pure false := by intro _; rfl) (hw : ∀ env : Env, swappedStores [tg] e env = pure none := by intro _; rfl) (h1 : ∀ env : Env, (assignEach [tg] env).map (·.2) = [assign tg env] := by intro _; rfl) :
    OkB C Γ (.Assign [tg] e pos :: rest) T (bnd m k) := .mk fun X hX W σ Z H st f st' D r hm q => by
  obtain ⟨d, st1, h2, hm1⟩ := bnd_some hm
  refine tUS_of (pss_cons (ps_asg peU pgU (hs _) (hw _) (h1 _)) pssU) ?_
  refine he X hX W σ Z H st d st1 _ r h2 fun v Z1 H1 s1 b1 r1 => ?_
  rcases hb d with hb | ⟨Γ', vs, ⟨Γ1, v1, v2, t1, ⟨e1, _⟩, _⟩, _, hb⟩
  · rw [hb st1] at hm1; cases hm1
  · subst e1
    refine t1 X hX W σ Z1 H1 st1 v _ (r.step s1 b1) r1 fun σ' r' w' o' => ?_
    exact hb X hX W σ' Z1 H1 st1 f st' D r' hm1 (q.after s1.bst fun a h => .inl (o' a h))
end

/-! ### what is walked -/
def Yld (K : PySem.W.Frag) (W : Wd) (J : It) (xs : List D) (A : Addr → Prop) (Z H : Hp) : Prop :=
  (∀ a, A a → (∃ o, H a = some o) ∧ ¬ W.bx a) ∧
  ∀ {S : Type} [BoxS S] (i : Nat) (Z2 H2 : Hp) (st : S), Sub Z Z2 → (∀ a o, Z2 a = some o → H2 a = some o ∧ ¬ W.bx a) → (∀ a o, A a → H a = some o → H2 a = some o) → Sz H2 → BoxS.R st W.β W.γ H2 →
    (xs.length ≤ i → J.stop i H2) ∧ ∀ d, xs[i]? = some d → J.go i H2 ∧ ∀ x H3, J.yld i H2 x H3 → ∃ Z3, Stp W Z2 H2 Z3 H3 ∧ BoxS.R st W.β W.γ H3 ∧ Rep K W.β Z3 d x
def OkID {S : Type} [BoxS S] (b : Bool) (C : Stat) (Γ : SCx) (tg iter : Expr) (m : M S (List D)) : Prop :=
  ∀ X, CtxP C X → ∀ (W : Wd) (σ : L2.St) (Z H : Hp) (st : S) (xs : List D) (st' : S) (R : It → Hp → Prop), SR X.K W Γ σ Z H st → m st = some (xs, st') →
    (∀ J A Z' H', Stp W Z H Z' H' → BoxS.R st' W.β W.γ H' → Yld X.K W J xs A Z' H' → (b = true → ∀ a, A a → ¬ ownA Γ σ a ∧ (Z' a ≠ none ∨ H a = none)) → R J H') → tUI X tg iter σ H R
structure OkI {S : Type} [BoxS S] (b : Bool) (C : Stat) (Γ : SCx) (tg iter : Expr) (m : M S (List D)) : Prop where
  mk ::
  run : OkID b C Γ tg iter m
instance {S : Type} [BoxS S] {b : Bool} {C : Stat} {Γ : SCx} {tg iter : Expr} {m : M S (List D)} : CoeFun (OkI b C Γ tg iter m) fun _ => OkID b C Γ tg iter m := ⟨OkI.run⟩
section
variable {S : Type} [BoxS S] {τ l : Type}
def forL {S : Type} {τ τ' l' : Type} (f : τ → D → M S (Fl τ τ)) (k : τ → M S (Fl τ' l')) : List D → τ → M S (Fl τ' l')
  | [], s => k s
  | x :: xs, s => bnd (f s x) fun fl => match fl with
    | .nx s' => forL f k xs s'
    | .ct s' => forL f k xs s'
    | .bk s' => k s'
    | .rt d => Sn.ret (.rt d)
variable {C : Stat} {Γ Γ' : SCx} {e a b c tg iter : Expr} {rest body : List Stmt} {pos : Pos} {T : Tg τ l}
theorem OkB.forR {τ' : Type} {Γl : τ' → SCx} {mi : M S (List D)} {f : τ' → D → M S (Fl τ' τ')} {k : τ' → M S (Fl τ l)} {s0 : τ'} (hi : OkI true C Γ tg iter mi) (h0 : Wk Γ (Γl s0))
    (hb : ∀ s d, BindOk C (Γl s) [tg] [d] (fun _ => True) (fun Γ' n => OkB C Γ' body ⟨Γl, Γl⟩ n) (f s d)) (hk : ∀ s, OkB C (Γl s) rest T (k s))
    (hs : ∀ (env : Env) x, foldedSetIterable iter env x = pure x := by intro _ _; rfl) : OkB C Γ (.For tg iter body [] pos :: rest) T (bnd mi fun xs => forL f k xs s0) := .mk fun X hX W σ Z H st fl st' D r hm q => by
  obtain ⟨xs, st1, h1, hm1⟩ := bnd_some hm
  refine tUS_of (pss_cons (ps_for (by rw [hX.xe]; exact PassesOwn.never) hX.calm piU pgU pssU (hs _)) pssU) ?_
  refine hi X hX W σ Z H st xs st1 _ r h1 fun J A Z1 H1 s1 b1 y1 dj => ?_
  have r1 := (r.step s1 b1).wk h0
  refine ⟨fun i n σ' H' => ∃ s Z' st2, n = xs.length - i ∧ i ≤ xs.length ∧ SR X.K W (Γl s) σ' Z' H' st2 ∧ BSt W Γ σ Z H Z' H' ∧ OwLe Γ σ H (Γl s) σ' ∧ Sub Z1 Z' ∧ (∀ a o, A a → H1 a = some o → H' a = some o) ∧ (∀ a, ownA (Γl s) σ' a → ¬ A a) ∧ forL f k (xs.drop i) s st2 = some (fl, st'),
    ⟨xs.length, s0, Z1, st1, by omega, Nat.zero_le _, r1, s1.bst, fun a h => .inl (own_wk h0 h), Sub.refl _, fun _ _ _ h => h, fun a h ha => (dj rfl a ha).1 (own_wk h0 h), hm1⟩, ?_⟩
  rintro i n σ2 H2 ⟨s, Z2, st2, rfl, hi, r2, bs2, ow2, sz2, ka2, na2, run2⟩
  have yy := y1.2 i Z2 H2 st2 sz2 r2.zh ka2 r2.sz r2.box
  by_cases hlt : i < xs.length
  · have hd : xs[i]? = some xs[i] := List.getElem?_eq_getElem hlt
    rw [List.drop_eq_getElem_cons hlt] at run2
    obtain ⟨g, st3, h3, run3⟩ := bnd_some (show bnd (f s xs[i]) _ st2 = some (fl, st') from run2)
    obtain ⟨go, yl⟩ := yy.2 _ hd
    refine .inr ⟨go, fun σ' H' => ∃ s Z' st3, SR X.K W (Γl s) σ' Z' H' st3 ∧ BSt W Γ σ Z H Z' H' ∧ OwLe Γ σ H (Γl s) σ' ∧ Sub Z1 Z' ∧ (∀ a o, A a → H1 a = some o → H' a = some o) ∧ (∀ a, ownA (Γl s) σ' a → ¬ A a) ∧ forL f k (xs.drop (i + 1)) s st3 = some (fl, st'), fun σ' H' hN => ?_, fun x H3 hy => ?_⟩
    · obtain ⟨s', Z', st3, q1, q2, q3, q4, q5, q6, q7⟩ := hN
      exact ⟨xs.length - (i + 1), by omega, s', Z', st3, rfl, hlt, q1, q2, q3, q4, q5, q6, q7⟩
    · obtain ⟨Z3, s3, b3, rx⟩ := yl x H3 hy
      have r3 := r2.step s3 b3
      have bs3 : BSt W Γ σ Z H Z3 H3 := bs2.trans (fun a o h => (s3.zh a o h).2) ow2 (Γ1 := Γl s) (σ1 := σ2) s3.bst
      have ka3 : ∀ a o, A a → H1 a = some o → H3 a = some o := fun a o ha h => s3.hh a o (ka2 a o ha h) (y1.1 a ha).2
      rcases hb s xs[i] with hb | ⟨Γ', vs, ⟨Γ1, v1, v2, t1, ⟨e1, _⟩, _⟩, _, hb⟩
      · rw [hb st2] at h3; cases h3
      · subst e1
        refine t1 X hX W σ2 Z3 H3 st2 x _ r3 rx fun σ3 r4 w4 o4 => ?_
        -- the body
        have fin : ∀ {s' : τ'} {σ' : L2.St} {Z' H' : Hp}, SR X.K W (Γl s') σ' Z' H' st3 → BSt W Γ' σ3 Z3 H3 Z' H' → OwLe Γ' σ3 H3 (Γl s') σ' →
            BSt W Γ σ Z H Z' H' ∧ OwLe Γ σ H (Γl s') σ' ∧ Sub Z1 Z' ∧ (∀ a o, A a → H1 a = some o → H' a = some o) ∧ (∀ a, ownA (Γl s') σ' a → ¬ A a) := by
          intro s' σ' Z' H' r' bs' ow'
          have ow3 : OwLe Γ σ H Γ' σ3 := fun a h => ow2 a (o4 a h)
          refine ⟨bs3.trans (fun a o h => (r'.zh a o h).2) ow3 bs', ow3.trans bs3 ow' fun a => r'.ownNb, (sz2.trans s3.zz).trans bs'.zz, fun a o ha h => ?_, fun a h ha => ?_⟩
          · exact bs'.hh a o (ka3 a o ha h) (y1.1 a ha).2 fun z => na2 a (o4 a z) ha
          · rcases ow' a h with z | z
            · exact na2 a (o4 a z) ha
            · obtain ⟨⟨o, ho⟩, _⟩ := y1.1 a ha
              rw [ka3 a o ha ho] at z; cases z
        refine hb X hX W σ3 Z3 H3 st2 g st3 _ r4 h3 ?_
        cases g with
        | nx s' =>
          intro σ' Z' H' r' bs' ow'
          obtain ⟨f1, f2, f3, f4, f5⟩ := fin r' bs' ow'
          exact ⟨s', Z', st3, r', f1, f2, f3, f4, f5, run3⟩
        | ct s' =>
          intro σ' Z' H' r' bs' ow'
          obtain ⟨f1, f2, f3, f4, f5⟩ := fin r' bs' ow'
          exact ⟨s', Z', st3, r', f1, f2, f3, f4, f5, run3⟩
        | bk s' =>
          intro σ' Z' H' r' bs' ow'
          obtain ⟨f1, f2, f3, f4, f5⟩ := fin r' bs' ow'
          exact hk s' X hX W σ' Z' H' st3 fl st' D r' run3 (q.after f1 f2)
        | rt d =>
          intro v Z' H' zh' b' bs' rv
          obtain ⟨rfl, rfl⟩ := ret_some run3
          have ow3 : OwLe Γ σ H Γ' σ3 := fun a h => ow2 a (o4 a h)
          exact q v Z' H' zh' b' (bs3.trans (fun a o h => (zh' a o h).2) ow3 bs') rv
  · have e : i = xs.length := by omega
    subst e
    rw [List.drop_length] at run2
    exact .inl ⟨yy.1 (Nat.le_refl _), hk s X hX W σ2 Z2 H2 st2 fl st' D r2 run2 (q.after bs2 ow2)⟩
/-! ### while -/
def whileL {S : Type} {τ τ' l' : Type} (c : τ → M S Bool) (f : τ → M S (Fl τ τ)) (k : τ → M S (Fl τ' l')) : Nat → τ → M S (Fl τ' l')
  | 0, _ => stuck
  | n + 1, s => bnd (c s) fun t => if t = true then bnd (f s) fun fl => match fl with
      | .nx s' => whileL c f k n s'
      | .ct s' => whileL c f k n s'
      | .bk s' => k s'
      | .rt d => Sn.ret (.rt d)
    else k s
theorem OkB.whileR {τ' : Type} {Γl : τ' → SCx} {mc : τ' → M S Bool} {f : τ' → M S (Fl τ' τ')} {k : τ' → M S (Fl τ l)} {s0 : τ'} {n0 : Nat} (h0 : Wk Γ (Γl s0)) (hc : ∀ s, OkT C (Γl s) c (mc s))
    (hb : ∀ s, OkB C (Γl s) body ⟨Γl, Γl⟩ (f s)) (hk : ∀ s, OkB C (Γl s) rest T (k s)) : OkB C Γ (.While c body [] pos :: rest) T (whileL mc f k n0 s0) := .mk fun X hX W σ Z H st fl st' D r hm q => by
  refine tUS_of (pss_cons (ps_while (by rw [hX.xe]; exact PassesOwn.never) ptU pssU) pssU) ?_
  refine ⟨fun n σ' H' => ∃ s Z' st2, SR X.K W (Γl s) σ' Z' H' st2 ∧ BSt W Γ σ Z H Z' H' ∧ OwLe Γ σ H (Γl s) σ' ∧ whileL mc f k n s st2 = some (fl, st'), ⟨n0, s0, Z, st, r.wk h0, BSt.refl, fun a h => .inl (own_wk h0 h), hm⟩, ?_⟩
  rintro n σ2 H2 ⟨s, Z2, st2, r2, bs2, ow2, run2⟩
  cases n with
  | zero => exact (stuck_some run2).elim
  | succ n =>
    obtain ⟨t, st3, h3, run3⟩ := bnd_some (show bnd (mc s) _ st2 = some (fl, st') from run2)
    refine hc s X hX W σ2 Z2 H2 st2 t st3 _ r2 h3 fun Z3 H3 s3 b3 => ?_
    have r3 := r2.step s3 b3
    have bs3 : BSt W Γ σ Z H Z3 H3 := bs2.trans (fun a o h => (s3.zh a o h).2) ow2 (Γ1 := Γl s) (σ1 := σ2) s3.bst
    cases t with
    | true =>
      rw [if_pos rfl] at run3 ⊢
      obtain ⟨g, st4, h4, run4⟩ := bnd_some run3
      refine ⟨fun σ' H' => ∃ s Z' st4, SR X.K W (Γl s) σ' Z' H' st4 ∧ BSt W Γ σ Z H Z' H' ∧ OwLe Γ σ H (Γl s) σ' ∧ whileL mc f k n s st4 = some (fl, st'), fun σ' H' hN => ⟨n, Nat.lt_succ_self n, hN⟩, ?_⟩
      refine hb s X hX W σ2 Z3 H3 st3 g st4 _ r3 h4 ?_
      have fin : ∀ {s' : τ'} {σ' : L2.St} {Z' H' : Hp}, SR X.K W (Γl s') σ' Z' H' st4 → BSt W (Γl s) σ2 Z3 H3 Z' H' → OwLe (Γl s) σ2 H3 (Γl s') σ' → BSt W Γ σ Z H Z' H' ∧ OwLe Γ σ H (Γl s') σ' := by
        intro s' σ' Z' H' r' bs' ow'
        exact ⟨bs3.trans (fun a o h => (r'.zh a o h).2) ow2 bs', ow2.trans bs3 ow' fun a => r'.ownNb⟩
      cases g with
      | nx s' => intro σ' Z' H' r' bs' ow'; obtain ⟨f1, f2⟩ := fin r' bs' ow'; exact ⟨s', Z', st4, r', f1, f2, run4⟩
      | ct s' => intro σ' Z' H' r' bs' ow'; obtain ⟨f1, f2⟩ := fin r' bs' ow'; exact ⟨s', Z', st4, r', f1, f2, run4⟩
      | bk s' => intro σ' Z' H' r' bs' ow'; obtain ⟨f1, f2⟩ := fin r' bs' ow'; exact hk s' X hX W σ' Z' H' st4 fl st' D r' run4 (q.after f1 f2)
      | rt d =>
        intro v Z' H' zh' b' bs' rv
        obtain ⟨rfl, rfl⟩ := ret_some run4
        exact q v Z' H' zh' b' (bs3.trans (fun a o h => (zh' a o h).2) ow2 bs') rv
    | false =>
      rw [if_neg Bool.false_ne_true] at run3 ⊢
      exact hk s X hX W σ2 Z3 H3 st3 fl st' D r3 run3 (q.after bs3 ow2)
end
end Sn

namespace Sn
open PySem PySem.Spec PyProof.Rows L2

/-! ### defs -/
def spF (K : PySem.W.Frag) {S : Type} [BoxS S] (n : Nat) (m : List D → M S D) : Sp := fun vs H Q _ => vs.length = n ∧ ∃ (W : Wd) (Z : Hp) (ds : List D) (st : S) (d : D) (st' : S),
  (∀ a o, Z a = some o → H a = some o ∧ ¬ W.bx a) ∧ Sz H ∧ BoxS.R st W.β W.γ H ∧ RepL K W.β Z ds vs ∧ m ds st = some (d, st') ∧
  ∀ v Z' H', Stp W Z H Z' H' → BoxS.R st' W.β W.γ H' → Rep K W.β Z' d v → Q v H'
structure HasF {S : Type} [BoxS S] (G : Glob) (k : Nat) (x : Str) (n : Nat) (m : List D → M S D) : Prop where
  ex : ∃ (f : Addr) (fd : FuncData) (ps : List Str), G.mg x = some (.ref f) ∧ PySem.W.keepIn G.K (.ref f) = true ∧ Binds G.K fd ps [] ∧ FnOk G.P G.w G.K G.mg G.base CX0 k f fd ps (spF G.K n m)
section
variable {S : Type} [BoxS S] {C : Stat} {Γ Γ' : SCx} {e a b c : Expr} {es : List Expr} {rest body : List Stmt} {m : M S D} {pos p : Pos} {τ l : Type} {T : Tg τ l} {i : Nat} {x : Str}
theorem ResL.E_len {K : PySem.W.Frag} {W : Wd} {H Z' H' : Hp} : ∀ {ds : List D} {vs : List V} {mds : List Md}, ResL K W mds H Z' H' ds vs → vs.length = mds.length
  | [], [], [], _ => rfl
  | _ :: _, _ :: _, _ :: _, ⟨_, r⟩ => by rw [List.length_cons, List.length_cons, ResL.E_len r]
  | [], [], _ :: _, h => h.elim
  | [], _ :: _, [], h => h.elim
  | [], _ :: _, _ :: _, h => h.elim
  | _ :: _, [], [], h => h.elim
  | _ :: _, [], _ :: _, h => h.elim
  | _ :: _, _ :: _, [], h => h.elim
theorem Ok.call {n : Nat} {mf : List D → M S D} {mds : List Md} {ma : M S (List D)} {j : Nat} (h : HasF C.G j x n mf) (hj : j ≤ C.k) (hg : C.sc.names.lookup x = some .globalImplicit) (ha : OkA mds C Γ (e :: es) ma) (hE : ∀ md ∈ mds, md = Md.E := by decide) (hn : mds.length = n := by rfl)
    (hp : plainArg e = true := by rfl) (hd : (x == ("__debug__" : Str)) = false := by decide) (hes : ∀ env : Env, (backTo pos (starEach es env)).any (·.1) = false := by intro _; rfl) :
    Ok .E C Γ (.Call (.Name x p) (e :: es) [] pos) (bnd ma mf) := .mk fun X hX W σ Z H st d st' Q r hm q => by
  obtain ⟨ds, st1, h1, hm1⟩ := bnd_some hm
  obtain ⟨f, fd, ps, g1, g2, g3, g4⟩ := h.ex
  have F : FnOk X.prog X.w X.K X.mg X.base CX0 j f fd ps (spF X.K n mf) := by rw [hX.prog, hX.w, hX.K, hX.mg, hX.base]; exact g4
  refine tU_of (pe_call (E := E0) (dvs := []) (ds := []) F (hX.room.mono hj) (hX.glob hg) (by rw [hX.mg]; exact g1) (by rw [hX.K]; exact g2) (by rw [hX.K]; exact g3) .nil pass0 paU hd (starEach_plain _ hp) (hes _)) ?_
  refine ha X hX W σ Z H st ds st1 _ r h1 fun vs Z1 H1 s1 b1 r1 => ?_
  rw [List.append_nil]
  refine ⟨by rw [r1.E_len, hn], W, Z1, ds, st1, d, st', s1.zh, s1.sz r.sz, b1, ResL.E_repL hE r1, hm1, fun v Z2 H2 s2 b2 r2 => ?_⟩
  exact q v Z2 H2 (s1.trans s2) b2 r2
/-- f() -/
theorem Ok.call0 {mf : List D → M S D} {j : Nat} (h : HasF C.G j x 0 mf) (hj : j ≤ C.k) (hg : C.sc.names.lookup x = some .globalImplicit) (hd : (x == ("__debug__" : Str)) = false := by decide) : Ok .E C Γ (.Call (.Name x p) [] [] pos) (mf []) := .mk fun X hX W σ Z H st d st' Q r hm q => by
  obtain ⟨f, fd, ps, g1, g2, g3, g4⟩ := h.ex
  have F : FnOk X.prog X.w X.K X.mg X.base CX0 j f fd ps (spF X.K 0 mf) := by rw [hX.prog, hX.w, hX.K, hX.mg, hX.base]; exact g4
  refine tU_of (pe_call0 (E := E0) (dvs := []) (ds := []) F (hX.room.mono hj) (hX.glob hg) (by rw [hX.mg]; exact g1) (by rw [hX.K]; exact g2) (by rw [hX.K]; exact g3) .nil pass0 hd) ?_
  exact ⟨rfl, W, Z, [], st, d, st', r.zh, r.sz, r.box, .nil, hm, fun v Z2 H2 s2 b2 r2 => q v Z2 H2 s2 b2 r2⟩
def endF {S : Type} {l : Type} : Fl Unit l → M S D
  | .nx _ => ret .non
  | .rt d => ret d
  | _ => stuck
theorem RepL.start {K : PySem.W.Frag} {β : Addr} {Z : Hp} {N : List Str} : ∀ {ds : List D} {vs : List V}, RepL K β Z ds vs → ∀ (i : Nat) (d : D), (ds.map fun d => some (En.frz d))[i]? = some (some (En.frz d)) → ∃ v, (vs.map some)[i]? = some (some v) ∧ Rep K β Z d v
  | ds, vs, r, i, d, h => by
    rw [List.getElem?_map] at h
    cases e : ds[i]? with
    | none => rw [e] at h; cases h
    | some d' =>
      rw [e] at h
      simp only [Option.map_some, Option.some.injEq, En.frz.injEq] at h
      subst h
      obtain ⟨v, h1, h2⟩ := r.get e
      exact ⟨v, by rw [List.getElem?_map, h1]; rfl, h2⟩
def startΓ (N : List Str) (ds : List D) : SCx := (ds.map fun d => some (En.frz d)) ++ List.replicate (N.length - ds.length) none
/-- a def of the text keeps the promise that its body's mirror makes -/
theorem hasF_mk {G : Glob} {st : Stmt} {f : Addr} {fd : FuncData} {N ps : List Str} {k n : Nat} {mb : List D → M S (Fl Unit Unit)} {qual : Str} (hm : G.mg x = some (.ref f)) (F : Fun G.K x qual st f fd) (Sc : FnScope N ps (defScope st)) (hB : Binds G.K fd ps []) (hn : ps.length = n)
    (hbody : ∀ ds : List D, ds.length = n → OkB ⟨G, N, defScope st, k, fun _ => true⟩ (startΓ N ds) (defBody st) ⟨fun _ : Unit => List.replicate N.length none, fun _ : Unit => List.replicate N.length none⟩ (mb ds)) : HasF G (k + 1) x n fun ds => bnd (mb ds) endF := by
  refine ⟨f, fd, ps, hm, F.kp, hB, F.ok Sc (fun vs H Q E h => by rw [hn]; exact h.1) fun cdv A outer s H vs Q E hr h => ?_⟩
  obtain ⟨hl, W, Z, ds, st0, d, st', zh, sz, bx, rl, hm1, q⟩ := h
  obtain ⟨fl, st1, h1, h2⟩ := bnd_some hm1
  refine ⟨_, pssU, ?_⟩
  have hpl : ps.length ≤ N.length := by have := congrArg List.length Sc.pre; rw [List.length_take] at this; omega
  have dl : ds.length = vs.length := rl.length
  refine hbody ds (by rw [dl, hl]) _ ⟨rfl, rfl, rfl, rfl, rfl, rfl, rfl, Sc.nd, rfl, hr, rfl, fun _ _ => rfl⟩ W (start N vs) Z H st0 fl st1 _ ?_ h1 ?_
  · refine ⟨?_, sz, bx, zh, fun i d' h => ?_, fun i d' h => ?_, fun i j d' e' a h => ?_⟩
    · unfold startΓ L2.start
      simp only [List.length_append, List.length_map, List.length_replicate, dl]
    · unfold startΓ at h
      unfold L2.start
      by_cases hi : i < ds.length
      · rw [List.getElem?_append_left (by simpa using hi)] at h
        rw [List.getElem?_append_left (by simpa [← dl] using hi)]
        exact RepL.start (N := N) rl i d' h
      · rw [List.getElem?_append_right (by simp; omega)] at h
        rw [List.getElem?_replicate] at h
        split at h <;> simp at h
    · unfold startΓ at h
      by_cases hi : i < ds.length
      · rw [List.getElem?_append_left (by simpa using hi), List.getElem?_map] at h
        cases e : ds[i]? with
        | none => rw [e] at h; cases h
        | some d2 => rw [e] at h; simp at h
      · rw [List.getElem?_append_right (by simp; omega), List.getElem?_replicate] at h
        split at h <;> simp at h
    · unfold startΓ at h
      by_cases hi : i < ds.length
      · rw [List.getElem?_append_left (by simpa using hi), List.getElem?_map] at h
        cases e : ds[i]? with
        | none => rw [e] at h; cases h
        | some d2 => rw [e] at h; simp at h
      · rw [List.getElem?_append_right (by simp; omega), List.getElem?_replicate] at h
        split at h <;> simp at h
  · have noOwn : ∀ a, ¬ ownA (startΓ N ds) (start N vs) a := fun a ⟨i, d', h, _⟩ => by
      unfold startΓ at h
      by_cases hi : i < ds.length
      · rw [List.getElem?_append_left (by simpa using hi), List.getElem?_map] at h
        cases e : ds[i]? with
        | none => rw [e] at h; cases h
        | some d2 => rw [e] at h; simp at h
      · rw [List.getElem?_append_right (by simp; omega), List.getElem?_replicate] at h
        split at h <;> simp at h
    have st_of : ∀ {Z' H' : Hp}, (∀ a o, Z' a = some o → H' a = some o ∧ ¬ W.bx a) → BSt W (startΓ N ds) (start N vs) Z H Z' H' → Stp W Z H Z' H' := fun zh' bs =>
      ⟨bs.zz, zh', fun a o h nb => bs.hh a o h nb (noOwn a), fun a o h => (bs.nw a o h).elim .inl fun w => w.elim .inr fun z => (noOwn a z).elim, bs.sz⟩
    cases fl with
    | nx s =>
      intro σ' Z' H' r' bs' _
      obtain ⟨rfl, rfl⟩ := ret_some h2
      exact q _ Z' H' (st_of r'.zh bs') r'.box .non
    | rt d' =>
      intro v Z' H' zh' b' bs' rv
      obtain ⟨rfl, rfl⟩ := ret_some h2
      exact q v Z' H' (st_of zh' bs') b' rv
    | bk s => exact (stuck_some (S := S) (α := D) (s := st1) h2).elim
    | ct s => exact (stuck_some (S := S) (α := D) (s := st1) h2).elim
end

/-! ### comprehensions -/
def Stat.blk (C : Stat) (scope : Scope) : Stat := ⟨C.G, C.N, relS scope C.sc, C.k, fun x => scope.names.lookup x == some .cell⟩
theorem CtxP.blk {C : Stat} {X : Cx} (h : CtxP C X) (scope : Scope) (s : Shared) (H : Hp) (C' : Addr) (cl : List (Str × Addr)) (fp : List Addr) : CtxP (C.blk scope) (X.blk s H scope (compEnvC scope cl C' X.env) fp) :=
  ⟨h.prog, h.w, h.K, h.mg, h.base, h.N, by show relS scope X.env.scope = relS scope C.sc; rw [h.sc], h.nd, h.calm, h.room, rfl, fun _ q => q⟩
def wipeΓ (Γ : SCx) : List Nat → SCx
  | [] => Γ
  | v :: vs => (wipeΓ Γ vs).set v none
section
variable {S : Type} [BoxS S] {K : PySem.W.Frag} {W : Wd} {Γ : SCx} {σ : L2.St} {Z H : Hp} {st : S}
theorem wipeΓ_some {i : Nat} {e : En} : ∀ {vs : List Nat}, (wipeΓ Γ vs)[i]? = some (some e) → Γ[i]? = some (some e) ∧ i ∉ vs
  | [], h => ⟨h, by simp⟩
  | v :: vs, h => by
    unfold wipeΓ at h
    rcases set_cases h with ⟨rfl, he, hl⟩ | ⟨hn, h⟩
    · cases he
    · obtain ⟨h1, h2⟩ := wipeΓ_some h
      exact ⟨h1, by simp only [List.mem_cons, not_or]; exact ⟨hn, h2⟩⟩
theorem wipeΓ_len : ∀ {vs : List Nat}, (wipeΓ Γ vs).length = Γ.length
  | [] => rfl
  | v :: vs => by unfold wipeΓ; rw [List.length_set, wipeΓ_len]
theorem wipe_get {i : Nat} : ∀ {vs : List Nat}, i ∉ vs → (wipe σ vs)[i]? = σ[i]?
  | [], _ => rfl
  | v :: vs, h => by
    simp only [List.mem_cons, not_or] at h
    unfold wipe
    rw [List.getElem?_set_ne (Ne.symm h.1), wipe_get h.2]
theorem SR.wipe {vs : List Nat} (r : SR K W Γ σ Z H st) : SR K W (wipeΓ Γ vs) (L2.wipe σ vs) Z H st where
  ln := by rw [wipeΓ_len, wipe_length]; exact r.ln
  sz := r.sz
  box := r.box
  zh := r.zh
  frz := fun i d h => by
    obtain ⟨h1, h2⟩ := wipeΓ_some h
    rw [wipe_get h2]; exact r.frz i d h1
  own := fun i d h => by
    obtain ⟨h1, h2⟩ := wipeΓ_some h
    rw [wipe_get h2]; exact r.own i d h1
  dis := fun i j d e a h1 h2 h3 h4 => by
    obtain ⟨g1, n1⟩ := wipeΓ_some h1
    obtain ⟨g2, n2⟩ := wipeΓ_some h2
    rw [wipe_get n1] at h3
    rw [wipe_get n2] at h4
    exact r.dis i j d e a g1 g2 h3 h4
end
def tUTs (X : Cx) (ifs : List Expr) : TT := fun σ H Q => ∀ (pins : List (Addr × Obj)) (s : Shared), Inv X pins σ H s →
    wpAny (model X.prog X.w) X.A (forIn ifs true fun c r => if r = true then do let ok ← isTrue c X.env (eval c X.env); pure (ForInStep.yield ok) else pure (ForInStep.yield r)) (TP X pins σ Q) X.xe s
theorem ptsU {X : Cx} {ifs : List Expr} : PTs X ifs (tUTs X ifs) := ⟨fun pins s _ _ _ I h => h pins s I⟩
theorem tUTs_of {X : Cx} {ifs : List Expr} {t : TT} {σ : L2.St} {H : Hp} {Q : Bool → Hp → Prop} (h : PTs X ifs t) (q : t σ H Q) : tUTs X ifs σ H Q := fun pins s I => h.run pins s σ H Q I q
def OkTsD {S : Type} [BoxS S] (C : Stat) (Γ : SCx) (ifs : List Expr) (m : M S Bool) : Prop :=
  ∀ X, CtxP C X → ∀ (W : Wd) (σ : L2.St) (Z H : Hp) (st : S) (d : Bool) (st' : S) (Q : Bool → Hp → Prop), SR X.K W Γ σ Z H st → m st = some (d, st') →
    (∀ Z' H', Stp W Z H Z' H' → BoxS.R st' W.β W.γ H' → Q d H') → tUTs X ifs σ H Q
structure OkTs {S : Type} [BoxS S] (C : Stat) (Γ : SCx) (ifs : List Expr) (m : M S Bool) : Prop where
  mk ::
  run : OkTsD C Γ ifs m
instance {S : Type} [BoxS S] {C : Stat} {Γ : SCx} {ifs : List Expr} {m : M S Bool} : CoeFun (OkTs C Γ ifs m) fun _ => OkTsD C Γ ifs m := ⟨OkTs.run⟩
section
variable {S : Type} [BoxS S] {C : Stat} {Γ Γ' : SCx} {c elt tg iter tg1 iter1 : Expr} {ifs ifs1 : List Expr} {pos : Pos}
theorem OkTs.nil : OkTs (S := S) C Γ [] (ret true) := .mk fun X hX W σ Z H st d st' Q r hm q => by
  obtain ⟨rfl, rfl⟩ := ret_some hm
  exact tUTs_of pts_nil (q Z H r.refl r.box)
theorem OkTs.one {n : M S Bool} (h : OkT C Γ c n) : OkTs C Γ [c] n := .mk fun X hX W σ Z H st d st' Q r hm q => tUTs_of (pts_one ptU) (h X hX W σ Z H st d st' Q r hm q)
def compL {S α β : Type} (f : α → M S (Option β)) : List α → M S (List β)
  | [] => ret []
  | x :: xs => bnd (f x) fun o => bnd (compL f xs) fun ys => ret (match o with | some y => y :: ys | none => ys)
/-- a clause's tests, then the element -/
def eltM {S : Type} (mt : M S Bool) (me : M S D) : M S (Option D) := bnd mt fun t => if t = true then bnd me fun y => ret (some y) else ret none
theorem compL_len {S α β : Type} {f : α → M S (Option β)} : ∀ {xs : List α} {st st' : S} {ys : List β}, compL f xs st = some (ys, st') → ys.length ≤ xs.length
  | [], st, st', ys, h => by obtain ⟨rfl, rfl⟩ := ret_some h; exact Nat.le_refl _
  | x :: xs, st, st', ys, h => by
    obtain ⟨o, st1, h1, h2⟩ := bnd_some (show bnd (f x) _ st = some (ys, st') from h)
    obtain ⟨zs, st2, h3, h4⟩ := bnd_some h2
    obtain ⟨rfl, rfl⟩ := ret_some h4
    have := compL_len h3
    cases o with
    | none => exact Nat.le_succ_of_le this
    | some y => exact Nat.succ_le_succ this
/-- the readings that any parts of a comprehension's block have -/
def bG (X : Cx) (scope : Scope) (tg : Expr) : TG := fun v σ H Q => ∀ (s : Shared) (H0 : Hp) (C' : Addr) (cl : List (Str × Addr)) (fp : List Addr), tUG (X.blk s H0 scope (compEnvC scope cl C' X.env) fp) tg v σ H Q
def bT (X : Cx) (scope : Scope) (ifs : List Expr) : TT := fun σ H Q => ∀ (s : Shared) (H0 : Hp) (C' : Addr) (cl : List (Str × Addr)) (fp : List Addr), tUTs (X.blk s H0 scope (compEnvC scope cl C' X.env) fp) ifs σ H Q
def bE (X : Cx) (scope : Scope) (e : Expr) : TE := fun σ H Q => ∀ (s : Shared) (H0 : Hp) (C' : Addr) (cl : List (Str × Addr)) (fp : List Addr), tU (X.blk s H0 scope (compEnvC scope cl C' X.env) fp) e σ H Q
def bI (X : Cx) (scope : Scope) (tg e : Expr) : TI := fun σ H Q => ∀ (s : Shared) (H0 : Hp) (C' : Addr) (cl : List (Str × Addr)) (fp : List Addr), tUI (X.blk s H0 scope (compEnvC scope cl C' X.env) fp) tg e σ H Q
theorem bG_ok {X : Cx} {scope : Scope} (s : Shared) (H0 : Hp) (C' : Addr) (cl : List (Str × Addr)) (fp : List Addr) : PG (X.blk s H0 scope (compEnvC scope cl C' X.env) fp) tg (bG X scope tg) := ⟨fun pins s' σ' H' v u Q' I rv h => h s H0 C' cl fp pins s' u I rv⟩
theorem bT_ok {X : Cx} {scope : Scope} (s : Shared) (H0 : Hp) (C' : Addr) (cl : List (Str × Addr)) (fp : List Addr) : PTs (X.blk s H0 scope (compEnvC scope cl C' X.env) fp) ifs (bT X scope ifs) := ⟨fun pins s' σ' H' Q' I h => h s H0 C' cl fp pins s' I⟩
theorem bE_ok {X : Cx} {scope : Scope} (s : Shared) (H0 : Hp) (C' : Addr) (cl : List (Str × Addr)) (fp : List Addr) : PE (X.blk s H0 scope (compEnvC scope cl C' X.env) fp) elt (bE X scope elt) := ⟨fun pins s' σ' H' Q' I h => h s H0 C' cl fp pins s' I⟩
theorem bI_ok {X : Cx} {scope : Scope} (s : Shared) (H0 : Hp) (C' : Addr) (cl : List (Str × Addr)) (fp : List Addr) : PI (X.blk s H0 scope (compEnvC scope cl C' X.env) fp) tg iter (bI X scope tg iter) := ⟨fun pins s' σ' H' Q' I h => h s H0 C' cl fp pins s' I⟩
/-- the run from the i-th item on, the list so far -/
theorem lc_rd {scope : Scope} (own : List (Str × Nat)) {mi : M S (List D)} {f : D → M S (Option D)} (hi : OkI false C Γ tg iter mi)
    (hb : ∀ d, BindOk (C.blk scope) (wipeΓ Γ (own.map (·.2))) [tg] [d] (fun i => i ∈ own.map (·.2)) (fun Γ' n => ∃ mt me, OkTs (C.blk scope) Γ' ifs mt ∧ Ok .E (C.blk scope) Γ' elt me ∧ n = eltM mt me) (f d))
    (X : Cx) (hX : CtxP C X) (W : Wd) (σ : L2.St) (Z H : Hp) (st : S) (d : D) (st' : S) (Q : VK) (r : SR X.K W Γ σ Z H st) (hm : (bnd mi fun xs => if xs.length ≤ sizeLine then bnd (compL f xs) fun ys => ret (.lst ys) else stuck) st = some (d, st'))
    (q : ∀ v Z' H', Stp W Z H Z' H' → BoxS.R st' W.β W.γ H' → Res X.K W .N H Z' H' d v → Q v H') : tLc (tUI X tg iter) (bG X scope tg) (bT X scope ifs) (bE X scope elt) (own.map (·.2)) σ H Q := by
  obtain ⟨xs, st1, h1, hm1⟩ := bnd_some hm
  by_cases hxs : xs.length ≤ sizeLine
  · rw [if_pos hxs] at hm1
    obtain ⟨ys, st2, h2, hm2⟩ := bnd_some hm1
    obtain ⟨rfl, rfl⟩ := ret_some hm2
    refine hi X hX W σ Z H st xs st1 _ r h1 fun J A Z1 H1 s1 b1 y1 _ => fun D hD => ?_
    have r1 := r.step s1 b1
    have nbD : ¬ W.bx D := BoxS.bxThere b1 hD
    have zD : Z1 D = none := z_none s1.zh hD
    refine ⟨fun i n H' => ∃ Z' acc dacc st3 rst, n = xs.length - i ∧ i ≤ xs.length ∧ Stp W Z1 (upd H1 D (.lst [])) Z' (upd H' D (.lst [])) ∧ H' D = some (.lst acc) ∧ Z' D = none ∧ (∀ a o, Z' a = some o → H' a = some o ∧ ¬ W.bx a) ∧ Sz H' ∧ acc.length ≤ i ∧ BoxS.R st3 W.β W.γ H' ∧ RepL X.K W.β Z' dacc acc ∧ compL f (xs.drop i) st3 = some (rst, st') ∧ ys = dacc ++ rst,
      ⟨xs.length, Z1, [], [], st1, ys, by omega, Nat.zero_le _, ?_, upd_same, zD, fun a o h => ⟨by rw [upd_ne (ne_of_none (s1.zh a o h).1 hD)]; exact (s1.zh a o h).1, (s1.zh a o h).2⟩, (s1.sz r.sz).upd (Nat.zero_le _), Nat.le_refl _, box_lay b1 hD, .nil, h2, rfl⟩, ?_⟩
    · rw [upd_upd]
      exact Stp.refl fun a o h => ⟨by rw [upd_ne (ne_of_none (s1.zh a o h).1 hD)]; exact (s1.zh a o h).1, (s1.zh a o h).2⟩
    rintro i n H2 ⟨Z2, acc, dacc, st3, rst, rfl, hi2, s2, hD2, zD2, zh2, sz2, hac, b2, rl2, run2, ey⟩
    have ka : ∀ a o, A a → H1 a = some o → H2 a = some o := fun a o ha h => by
      have hne : a ≠ D := ne_of_none h hD
      have := s2.hh a o (by rw [upd_ne hne]; exact h) (y1.1 a ha).2
      rwa [upd_ne hne] at this
    have yy := y1.2 i Z2 H2 st3 s2.zz zh2 ka sz2 b2
    -- the slots behind
    have rr : SR X.K W Γ σ Z2 H2 st3 := by
      have q1 : Stp W Z1 H1 Z2 H2 := ⟨s2.zz, zh2, fun a o h nb => by
          have hne : a ≠ D := ne_of_none h hD
          have := s2.hh a o (by rw [upd_ne hne]; exact h) nb
          rwa [upd_ne hne] at this, fun a o h => by
          rcases s2.nw a o h with w | w
          · exact .inl w
          · by_cases e : a = D
            · subst e; rw [zD2] at h; cases h
            · rw [upd_ne e] at w; exact .inr w, fun _ => sz2⟩
      exact r1.step q1 b2
    by_cases hlt : i < xs.length
    · have hd : xs[i]? = some xs[i] := List.getElem?_eq_getElem hlt
      rw [List.drop_eq_getElem_cons hlt] at run2
      obtain ⟨o, st4, h4, run3⟩ := bnd_some (show bnd (f xs[i]) _ st3 = some (rst, st') from run2)
      obtain ⟨zs, st5, h5, run4⟩ := bnd_some run3
      obtain ⟨er, rfl⟩ := ret_some run4
      obtain ⟨go, yl⟩ := yy.2 _ hd
      refine .inr ⟨go, fun H' => ∃ Z' acc dacc st3 rst, Stp W Z1 (upd H1 D (.lst [])) Z' (upd H' D (.lst [])) ∧ H' D = some (.lst acc) ∧ Z' D = none ∧ (∀ a o, Z' a = some o → H' a = some o ∧ ¬ W.bx a) ∧ Sz H' ∧ acc.length ≤ i + 1 ∧ BoxS.R st3 W.β W.γ H' ∧ RepL X.K W.β Z' dacc acc ∧ compL f (xs.drop (i + 1)) st3 = some (rst, st') ∧ ys = dacc ++ rst, fun H' hN => ?_, fun x H3 hy => ?_⟩
      · obtain ⟨Z', acc, dacc, st3, rst, q1, q2, q3, q4, q5, q6, q7, q8, q9, q10⟩ := hN
        exact ⟨xs.length - (i + 1), by omega, Z', acc, dacc, st3, rst, rfl, hlt, q1, q2, q3, q4, q5, q6, q7, q8, q9, q10⟩
      · obtain ⟨Z3, s3, b3, rx⟩ := yl x H3 hy
        intro s0 H0 C' cl fp
        have hXb := hX.blk scope s0 H0 C' cl fp
        rcases hb xs[i] with hb' | ⟨Γ', vs, ht, hvs, mt, me, ot, oe, en⟩
        · rw [hb' st3] at h4; cases h4
        · obtain ⟨Γ1, v1, v2, t1, ⟨e1, e2⟩, e3⟩ := ht
          subst e1
          subst e2
          rw [List.append_nil] at e3
          subst e3
          rw [en] at h4
          obtain ⟨t, st6, h6, h7⟩ := bnd_some h4
          refine t1 _ hXb W (wipe σ (own.map (·.2))) Z3 H3 st3 x _ ((rr.step s3 b3).wipe) rx fun σ3 r4 w4 o4 => ?_
          refine ⟨by
            have := w4 (own.map (·.2)) hvs
            rw [this]
            have idem : ∀ (us ws : List Nat) (ρ : L2.St), (∀ i ∈ us, i ∈ ws) → wipe (wipe ρ us) ws = wipe ρ ws := by
              intro us ws ρ
              induction us with
              | nil => intro _; rfl
              | cons u us ih =>
                intro h
                show wipe ((wipe ρ us).set u none) ws = wipe ρ ws
                rw [wipe_set (h u List.mem_cons_self), ih fun i hi => h i (List.mem_cons_of_mem _ hi)]
            exact idem _ _ σ fun _ h => h, fun s5 H5 C5 cl5 fp5 => ?_⟩
          have hXc := hX.blk scope s5 H5 C5 cl5 fp5
          refine ot _ hXc W σ3 Z3 H3 st3 t st6 _ r4 h6 fun Z6 H6 s6 b6 => ?_
          have s36 := s3.trans s6
          have D6 : H6 D = some (.lst acc) := s36.hh D _ hD2 nbD
          have zD6 : Z6 D = none := by
            cases q : Z6 D with
            | none => rfl
            | some u =>
              rcases s36.nw D u q with w | w
              · rw [zD2] at w; cases w
              · rw [hD2] at w; cases w
          have push : ∀ {H' Z' Hn : Hp} {ac : List V}, Stp W Z2 H2 Z' H' → Z' D = none → SzO (.lst ac) → Stp W Z1 (upd H1 D (.lst [])) Z' (upd (upd H' D (.lst ac)) D (.lst [])) := by
            intro H' Z' Hn ac sx zx _
            rw [upd_upd]
            refine s2.trans ⟨sx.zz, fun a o h => ?_, fun a o h nb => ?_, fun a o h => ?_, fun hs => ?_⟩
            · have hne : a ≠ D := fun z => by rw [z, zx] at h; cases h
              exact ⟨by rw [upd_ne hne]; exact (sx.zh a o h).1, (sx.zh a o h).2⟩
            · rcases upd_get h with ⟨rfl, rfl⟩ | ⟨hne, h⟩
              · exact upd_same
              · rw [upd_ne hne]; exact sx.hh a o h nb
            · rcases sx.nw a o h with w | w
              · exact .inl w
              · by_cases e : a = D
                · subst e; rw [zx] at h; cases h
                · exact .inr (by rw [upd_ne e]; exact w)
            · exact (sx.sz sz2).upd (Nat.zero_le _)
          have zhp : ∀ {H' Z' : Hp} {ac : List V}, (∀ a o, Z' a = some o → H' a = some o ∧ ¬ W.bx a) → Z' D = none → ∀ a o, Z' a = some o → (upd H' D (.lst ac)) a = some o ∧ ¬ W.bx a := by
            intro H' Z' ac zx zn a o h
            have hne : a ≠ D := fun z => by rw [z, zn] at h; cases h
            exact ⟨by rw [upd_ne hne]; exact (zx a o h).1, (zx a o h).2⟩
          have bxp : ∀ {H' : Hp} {ac : List V} {s' : S}, BoxS.R s' W.β W.γ H' → BoxS.R s' W.β W.γ (upd H' D (.lst ac)) := fun b => BoxS.congr b (upd_ne fun e => nbD (.inl e.symm)) (upd_ne fun e => nbD (.inr e.symm))
          cases t with
          | true =>
            rw [if_pos rfl] at h7 ⊢
            obtain ⟨y, st7, h8, h9⟩ := bnd_some h7
            obtain ⟨rfl, rfl⟩ := ret_some h9
            intro s8 H8 C8 cl8 fp8
            have hXd := hX.blk scope s8 H8 C8 cl8 fp8
            refine oe _ hXd W σ3 Z6 H6 st6 y _ _ (r4.step s6 b6) h8 fun v Z7 H7 s7 b7 r7 => ?_
            have s37 := s36.trans s7
            have D7 : H7 D = some (.lst acc) := s37.hh D _ hD2 nbD
            have zD7 : Z7 D = none := by
              cases q : Z7 D with
              | none => rfl
              | some u =>
                rcases s37.nw D u q with w | w
                · rw [zD2] at w; cases w
                · rw [hD2] at w; cases w
            have hlen : (acc ++ [v]).length ≤ sizeLine := by rw [List.length_append, List.length_singleton]; omega
            refine ⟨acc, D7, by omega, Z7, acc ++ [v], dacc ++ [y], st4, zs, push (Hn := H7) s37 zD7 hlen, upd_same, zD7, zhp s37.zh zD7, (s37.sz sz2).upd hlen, by rw [List.length_append, List.length_singleton]; omega, bxp b7, (rl2.mono s37.zz).append (.cons r7 .nil), h5, ?_⟩
            rw [ey, er, List.append_assoc]; rfl
          | false =>
            rw [if_neg Bool.false_ne_true] at h7 ⊢
            obtain ⟨rfl, rfl⟩ := ret_some h7
            refine ⟨Z6, acc, dacc, st4, zs, ?_, D6, zD6, s36.zh, s36.sz sz2, by omega, b6, rl2.mono s36.zz, h5, by rw [ey, er]⟩
            have := push (Hn := H6) (ac := []) s36 zD6 (Nat.zero_le _)
            rwa [upd_upd] at this
    · have e : i = xs.length := by omega
      subst e
      rw [List.drop_length] at run2
      obtain ⟨rfl, rfl⟩ := ret_some run2
      rw [List.append_nil] at ey
      subst ey
      refine .inl ⟨yy.1 (Nat.le_refl _), ?_⟩
      refine q (.ref D) Z2 H2 ⟨s1.zz.trans s2.zz, zh2, fun a o h nb => ?_, fun a o h => ?_, fun _ => sz2⟩ b2 ⟨⟨D, acc, rfl, hD2, rl2⟩, fun a ea _ => ?_⟩
      · have h' := s1.hh a o h nb
        have hne : a ≠ D := ne_of_none h' hD
        have := s2.hh a o (by rw [upd_ne hne]; exact h') nb
        rwa [upd_ne hne] at this
      · rcases s2.nw a o h with w | w
        · exact s1.nw a o w
        · by_cases e : a = D
          · subst e; rw [zD2] at h; cases h
          · rw [upd_ne e] at w
            cases q' : H a with
            | none => exact .inr rfl
            | some u => rw [s1.hh a u q' (zh2 a o h).2] at w; cases w
      · cases ea
        exact ⟨fresh_back r.box b1 s1 hD, zD2, nbD⟩
  · rw [if_neg hxs] at hm1; exact (stuck_some hm1).elim
/-- a comprehension, as a value and as what a name is bound to -/
def OkC (C : Stat) (Γ : SCx) (e : Expr) (m : M S D) : Prop :=
  Ok .N C Γ e m ∧ ∀ X, CtxP C X → ∀ (i : Nat) (y : Str) (py spos : Pos), C.N[i]? = some y → C.sc.names.lookup y = some .local → swapsWith e (some (.Name y py)) spos.line X.env = pure true →
    ∀ (W : Wd) (σ : L2.St) (Z H : Hp) (st : S) (d : D) (st' : S), SR X.K W Γ σ Z H st → m st = some (d, st') →
      ∃ te, PS X (.Assign [.Name y py] e spos) (tAsg te (gName i)) ∧ ∀ Q : VK, (∀ v Z' H', Stp W Z H Z' H' → BoxS.R st' W.β W.γ H' → Res X.K W .N H Z' H' d v → Q v H') → te σ H Q
theorem Ok.lc {scope : Scope} (own : List (Str × Nat)) {mi : M S (List D)} {f : D → M S (Option D)} (hi : OkI false C Γ tg iter mi)
    (hb : ∀ d, BindOk (C.blk scope) (wipeΓ Γ (own.map (·.2))) [tg] [d] (fun i => i ∈ own.map (·.2)) (fun Γ' n => ∃ mt me, OkTs (C.blk scope) Γ' ifs mt ∧ Ok .E (C.blk scope) Γ' elt me ∧ n = eltM mt me) (f d))
    (ok : blkC C.N C.sc scope own = true := by (try dsimp only [Stat.blk]); decide +kernel) (hs : ∀ (env : Env) x, foldedSetIterable iter env x = pure x := by intro _ _; rfl) : OkC C Γ (.ListComp elt [⟨tg, iter, ifs, 0⟩] scope pos) (bnd mi fun xs => if xs.length ≤ sizeLine then bnd (compL f xs) fun ys => ret (.lst ys) else stuck) := by
  refine ⟨.mk fun X hX W σ Z H st d st' Q r hm q => ?_, fun X hX i y py spos hN hyl hsw W σ Z H st d st' r hm => ?_⟩
  · exact tU_of (pe_lc (own := own) hX.calm (by rw [hX.N]; exact hX.nd) piU (blkOk_by (by rw [hX.N, hX.sc]; exact ok)) bG_ok bT_ok bE_ok (hs _)) (lc_rd own hi hb X hX W σ Z H st d st' Q r hm q)
  · exact ⟨_, ps_setLc (own := own) hX.calm (by rw [hX.N]; exact hX.nd) (by rw [hX.N]; exact hN) (by rw [hX.sc]; exact hyl) hsw piU (blkOk_by (by rw [hX.N, hX.sc]; exact ok)) bG_ok bT_ok bE_ok (hs _), fun Q q => lc_rd own hi hb X hX W σ Z H st d st' Q r hm q⟩
theorem OkC.n {e : Expr} {m : M S D} (h : OkC C Γ e m) : Ok .N C Γ e m := h.1
/-- name = [..] on one line -/
theorem OkB.setC {τ l : Type} {T : Tg τ l} {rest : List Stmt} {m : M S D} {k : D → M S (Fl τ l)} {i : Nat} {x : Str} {pos' : Pos} {gs : List Comprehension} {scope : Scope} {cpos : Pos} (hN : C.N[i]? = some x) (hx : C.sc.names.lookup x = some .local) (hfk : C.sc.kind = .function) (he : OkC C Γ (.ListComp elt gs scope cpos) m) (hb : ∀ d, OkB C (Γ.set i (some (.frz d))) rest T (k d))
    (ha : (scope.names.any fun (n, k) => n == x && (k == .local || k == .cell)) = false := by decide +kernel) (hl : (pos'.line == cpos.line) = true := by rfl) : OkB C Γ (.Assign [.Name x pos'] (.ListComp elt gs scope cpos) pos :: rest) T (bnd m k) := .mk fun X hX W σ Z H st f st' D r hm q => by
  obtain ⟨d, st1, h1, hm1⟩ := bnd_some hm
  obtain ⟨te, ps, qe⟩ := he.2 X hX i x pos' pos hN hx (sw_true (by rw [hX.sc]; exact hfk) (by rw [hX.sc]; exact hx) hl ha) W σ Z H st d st1 r h1
  refine tUS_of (pss_cons ps pssU) (qe _ fun v Z1 H1 s1 b1 r1 => ?_)
  have r1' : ∃ Z2, Stp W Z H Z2 H1 ∧ Rep X.K W.β Z2 d v := by
    by_cases mu : isMut d = true
    · obtain ⟨q4, q5⟩ := r1
      have hv : ∃ p o, v = .ref p ∧ H1 p = some o := by
        cases d with
        | lst ds => obtain ⟨b, vs, eb, hb, _⟩ := q4; exact ⟨b, _, eb, hb⟩
        | dct ds =>
          obtain ⟨b, eb, ⟨kvs, h, _⟩ | ⟨kvs, h, _⟩⟩ := q4
          · exact ⟨b, _, eb, h⟩
          · exact ⟨b, _, eb, h⟩
        | _ => cases mu
      obtain ⟨p, o, rfl, ho⟩ := hv
      obtain ⟨f1, f2, f3⟩ := q5 p rfl mu
      have sz : Sub Z1 (upd Z1 p o) := fun a u h => upd_none f2 h
      refine ⟨upd Z1 p o, ⟨s1.zz.trans sz, fun a u h => ?_, s1.hh, fun a u h => ?_, s1.sz⟩, Rep1.rep (H := H1) (q4.mono sz fun _ _ _ h => h) fun a ea _ => by cases ea; rw [upd_same, ho]⟩
      · rcases upd_get h with ⟨rfl, rfl⟩ | ⟨_, h⟩
        · exact ⟨ho, f3⟩
        · exact s1.zh a u h
      · rcases upd_get h with ⟨rfl, rfl⟩ | ⟨_, h⟩
        · exact .inr f1
        · exact s1.nw a u h
    · refine ⟨Z1, s1, ?_⟩
      have := r1.1
      cases d with
      | lst ds => exact absurd rfl mu
      | dct ds => exact absurd rfl mu
      | _ => exact this
  obtain ⟨Z2, s2, r2⟩ := r1'
  exact hb d X hX W (σ.set i (some v)) Z2 H1 st1 f st' D ((r.step s2 b1).setF r2) hm1 (q.after s2.bst fun a h => .inl (own_setF h))
theorem OkB.setCO {τ l : Type} {T : Tg τ l} {rest : List Stmt} {m : M S D} {k : D → M S (Fl τ l)} {i : Nat} {x : Str} {pos' : Pos} {gs : List Comprehension} {scope : Scope} {cpos : Pos} (hN : C.N[i]? = some x) (hx : C.sc.names.lookup x = some .local) (hfk : C.sc.kind = .function) (he : OkC C Γ (.ListComp elt gs scope cpos) m) (hb : ∀ d, OkB C (Γ.set i (some (.own d))) rest T (k d))
    (ha : (scope.names.any fun (n, k) => n == x && (k == .local || k == .cell)) = false := by decide +kernel) (hl : (pos'.line == cpos.line) = true := by rfl) : OkB C Γ (.Assign [.Name x pos'] (.ListComp elt gs scope cpos) pos :: rest) T (bnd m fun d => if isMut d = true then k d else stuck) := .mk fun X hX W σ Z H st f st' D r hm q => by
  obtain ⟨d, st1, h1, hm1⟩ := bnd_some hm
  by_cases mu : isMut d = true
  · rw [if_pos mu] at hm1
    obtain ⟨te, ps, qe⟩ := he.2 X hX i x pos' pos hN hx (sw_true (by rw [hX.sc]; exact hfk) (by rw [hX.sc]; exact hx) hl ha) W σ Z H st d st1 r h1
    refine tUS_of (pss_cons ps pssU) (qe _ fun v Z1 H1 s1 b1 r1 => ?_)
    have hv : ∃ p, v = .ref p := by
      obtain ⟨q4, _⟩ := r1
      cases d with
      | lst ds => obtain ⟨b, vs, eb, _⟩ := q4; exact ⟨b, eb⟩
      | dct ds => obtain ⟨b, eb, _⟩ := q4; exact ⟨b, eb⟩
      | _ => cases mu
    obtain ⟨p, rfl⟩ := hv
    obtain ⟨f1, f2, f3⟩ := r1.2 p rfl mu
    have no : ¬ ownA Γ σ p := fun h => by
      obtain ⟨o, ho⟩ := r.ownThere h
      rw [f1] at ho; cases ho
    refine hb d X hX W (σ.set i (some (.ref p))) Z1 H1 st1 f st' D ((r.step s1 b1).setO mu r1.1 f2 f3 no) hm1 (q.after s1.bst fun a h => ?_)
    rcases own_setO h with h | rfl
    · exact .inl h
    · exact .inr f1
  · rw [if_neg mu] at hm1; exact (stuck_some hm1).elim
end
end Sn

namespace Sn
open PySem PySem.Spec PyProof.Rows L2

/-! ### what operations make of data -/
mutual
def toPy : D → PyData
  | .non => .none
  | .bl b => .bool b
  | .int i => .int i
  | .str x => .str x
  | .tup xs => .tuple (toPys xs)
  | .lst xs => .list (toPys xs)
  | .dct _ => .dict []
  | .box => .dict []
def toPys : List D → List PyData
  | [] => []
  | x :: xs => toPy x :: toPys xs
end
section
variable {K : PySem.W.Frag} {β : Addr} {Z H : Hp}
mutual
theorem Rep.dp : ∀ {d : D} {v : V}, Rep K β Z d v → (toPy d).canLay0 = true → Dp K Z v (toPy d)
  | _, _, .non, _ => .non
  | _, _, .bl b, _ => .bl b
  | _, _, .int i, _ => .int i
  | _, _, .str x, _ => .str x
  | _, _, .box, h => by simp [toPy, PyData.canLay0] at h
  | _, _, .tup h r, c => .tup ((Sub.refl _).sqT h) (RepL.dp r (by simpa [toPy, PyData.canLay0] using c))
  | _, _, .lst h r, c => .lst (.inl (.inl h)) (RepL.dp r (by simpa [toPy, PyData.canLay0] using c))
  | _, _, .dK h r, c => by simp [toPy, PyData.canLay0] at c
  | _, _, .dT h r, c => by simp [toPy, PyData.canLay0] at c
theorem RepL.dp : ∀ {d : List D} {v : List V}, RepL K β Z d v → PyData.canLayAll0 (toPys d) = true → DpAll K Z v (toPys d)
  | _, _, .nil, _ => .nil
  | _, _, .cons h r, c => by
    simp only [toPys, PyData.canLayAll0, Bool.and_eq_true] at c
    exact .cons (Rep.dp h c.1) (RepL.dp r c.2)
end
mutual
theorem dp_mono {H' : Hp} (s : Sub H H') : ∀ {v : V} {d : PyData}, Dp K H v d → Dp K H' v d
  | _, _, .non => .non
  | _, _, .bl b => .bl b
  | _, _, .int i => .int i
  | _, _, .str x => .str x
  | _, _, .lst h r => .lst (s.sqL h) (dpAll_mono s r)
  | _, _, .tup h r => .tup (s.sqTT h) (dpAll_mono s r)
theorem dpAll_mono {H' : Hp} (s : Sub H H') : ∀ {v : List V} {d : List PyData}, DpAll K H v d → DpAll K H' v d
  | _, _, .nil => .nil
  | _, _, .cons h r => .cons (dp_mono s h) (dpAll_mono s r)
end
theorem Rep1.dp {d : D} {v : V} (s : Sub Z H) (r : Rep1 K β Z H d v) (c : (toPy d).canLay0 = true) : Dp K H v (toPy d) := by
  cases d with
  | lst ds =>
    obtain ⟨a, vs, rfl, h, r⟩ := r
    exact .lst (.inl (.inl h)) (dpAll_mono s (RepL.dp r (by simpa [toPy, PyData.canLay0] using c)))
  | dct ds => simp [toPy, PyData.canLay0] at c
  | non => exact dp_mono s (Rep.dp r c)
  | bl b => exact dp_mono s (Rep.dp r c)
  | int i => exact dp_mono s (Rep.dp r c)
  | str x => exact dp_mono s (Rep.dp r c)
  | tup x => exact dp_mono s (Rep.dp r c)
  | box => exact dp_mono s (Rep.dp r c)
end
/-- deep, plain: may be compared at any depth -/
def shD (d : D) : Bool := SeqAt.shaped (toPy d)
def eqB (x y : D) : Bool := PyData.eqv (toPy x) (toPy y)
def eqD (x y : D) : Option D := if shD x = true ∧ shD y = true then some (.bl (eqB x y)) else none
def neD (x y : D) : Option D := if shD x = true ∧ shD y = true then some (.bl (!eqB x y)) else none
def inD (x y : D) : Option D :=
  match y with
  | .lst ys => if shD x = true ∧ shD (.lst ys) = true then some (.bl (ys.any fun z => eqB z x)) else none
  | .tup ys => if shD x = true ∧ shD (.tup ys) = true then some (.bl (ys.any fun z => eqB z x)) else none
  | _ => none
def ninD (x y : D) : Option D :=
  match y with
  | .lst ys => if shD x = true ∧ shD (.lst ys) = true then some (.bl (!ys.any fun z => eqB z x)) else none
  | .tup ys => if shD x = true ∧ shD (.tup ys) = true then some (.bl (!ys.any fun z => eqB z x)) else none
  | _ => none
def addD : D → D → Option D
  | .int i, .int j => some (.int (i + j))
  | .str x, .str y => if x.length + y.length ≤ sizeLine then some (.str (x ++ y)) else none
  | .tup xs, .tup ys => if xs.length + ys.length ≤ sizeLine then some (.tup (xs ++ ys)) else none
  | .lst xs, .lst ys => if xs.length + ys.length ≤ sizeLine then some (.lst (xs ++ ys)) else none
  | _, _ => none
def subD : D → D → Option D
  | .int i, .int j => some (.int (i - j))
  | _, _ => none
def mulOk (i j : Int) : Prop := (-(2 ^ 64) < i ∧ i < 2 ^ 64) ∨ (-(2 ^ 64) < j ∧ j < 2 ^ 64)
instance (i j : Int) : Decidable (mulOk i j) := by unfold mulOk; infer_instance
def mulD : D → D → Option D
  | .int i, .int j => if mulOk i j then some (.int (i * j)) else none
  | .lst xs, .int k => if -(2 ^ 63) ≤ k ∧ k < 2 ^ 63 ∧ xs.length * k.toNat ≤ sizeLine then some (.lst (List.replicate k.toNat xs).flatten) else none
  | .tup xs, .int k => if -(2 ^ 63) ≤ k ∧ k < 2 ^ 63 ∧ (xs = [] ∨ k = 1 ∨ (2 ≤ k ∧ k ≤ 1000 ∧ xs.length ≤ 1000)) then some (.tup (List.replicate k.toNat xs).flatten) else none
  | _, _ => none
def divD : D → D → Option D
  | .int i, .int j => if 0 < j ∧ j < 1073741824 then some (.int (i / j)) else none
  | _, _ => none
def modD : D → D → Option D
  | .int i, .int j => if 0 < j then some (.int (i % j)) else none
  | _, _ => none
def ltD : D → D → Option D
  | .int i, .int j => some (.bl (decide (i < j)))
  | _, _ => none
def leD : D → D → Option D
  | .int i, .int j => some (.bl (decide (i ≤ j)))
  | _, _ => none
def gtD : D → D → Option D
  | .int i, .int j => some (.bl (decide (j < i)))
  | _, _ => none
def geD : D → D → Option D
  | .int i, .int j => some (.bl (decide (j ≤ i)))
  | _, _ => none
def isNonD : D → Bool
  | .non => true
  | _ => false
/-- is None; is of two bools -/
def isD : D → D → Option D
  | x, .non => some (.bl (isNonD x))
  | .bl a, .bl b => some (.bl (decide (a = b)))
  | _, _ => none
def isntD : D → D → Option D
  | x, .non => some (.bl (!isNonD x))
  | .bl a, .bl b => some (.bl (!decide (a = b)))
  | _, _ => none

section
variable {C : Stat}
theorem lift_int {X : Cx} {f : Value → Value → Sem Value} {i j : Int} {r : V} {d : D} {W : Wd} {Z H : Hp} {Q : VK} {S : Type} [BoxS S] {st : S} (zh : ∀ a o, Z a = some o → H a = some o ∧ ¬ W.bx a) (bx : BoxS.R st W.β W.γ H)
    (hr : Rep X.K W.β Z d r) (hm : isMut d = false) (q : ∀ v Z' H', Stp W Z H Z' H' → BoxS.R st W.β W.γ H' → Res X.K W .N H Z' H' d v → Q v H') : Q r H := by
  refine q r Z H (Stp.refl zh) bx ⟨?_, fun a _ h => by rw [hm] at h; cases h⟩
  cases d with
  | lst ds => cases hm
  | dct ds => cases hm
  | _ => exact hr
theorem fin_plain {K : PySem.W.Frag} {r : V} {d : D} {W : Wd} {Z H : Hp} {Q : VK} {S : Type} [BoxS S] {st : S} (zh : ∀ a o, Z a = some o → H a = some o ∧ ¬ W.bx a) (bx : BoxS.R st W.β W.γ H)
    (hr : Rep K W.β Z d r) (hm : isMut d = false) (q : ∀ v Z' H', Stp W Z H Z' H' → BoxS.R st W.β W.γ H' → Res K W .N H Z' H' d v → Q v H') : Q r H := by
  refine q r Z H (Stp.refl zh) bx ⟨?_, fun a _ h => by rw [hm] at h; cases h⟩
  cases d with
  | lst ds => cases hm
  | dct ds => cases hm
  | _ => exact hr
/-- a new tuple -/
theorem fin_tup {K : PySem.W.Frag} {ds : List D} {vs : List V} {p : Addr} {W : Wd} {Z H : Hp} {Q : VK} {S : Type} [BoxS S] {st : S} (zh : ∀ a o, Z a = some o → H a = some o ∧ ¬ W.bx a) (bx : BoxS.R st W.β W.γ H)
    (hp : H p = none) (hr : RepL K W.β Z ds vs) (hl : vs.length ≤ sizeLine) (q : ∀ v Z' H', Stp W Z H Z' H' → BoxS.R st W.β W.γ H' → Res K W .N H Z' H' (.tup ds) v → Q v H') : Q (.ref p) (upd H p (.tup vs)) := by
  have s2 := Stp.layZ (o := .tup vs) zh bx hp hl
  exact q _ _ _ s2 (box_lay bx hp) ⟨Rep.tup (.inl upd_same) (hr.mono s2.zz), fun a _ h => by cases h⟩
/-- a new list -/
theorem fin_lst {K : PySem.W.Frag} {ds : List D} {vs : List V} {p : Addr} {W : Wd} {Z H : Hp} {Q : VK} {S : Type} [BoxS S] {st : S} (zh : ∀ a o, Z a = some o → H a = some o ∧ ¬ W.bx a) (bx : BoxS.R st W.β W.γ H)
    (hp : H p = none) (hr : RepL K W.β Z ds vs) (hl : vs.length ≤ sizeLine) (q : ∀ v Z' H', Stp W Z H Z' H' → BoxS.R st W.β W.γ H' → Res K W .N H Z' H' (.lst ds) v → Q v H') : Q (.ref p) (upd H p (.lst vs)) := by
  have s2 := Stp.layH (o := .lst vs) zh hp hl
  refine q _ _ _ s2 (box_lay bx hp) ⟨⟨p, vs, rfl, upd_same, hr⟩, fun a e _ => ?_⟩
  cases e
  exact ⟨hp, z_none zh hp, BoxS.bxThere bx hp⟩
theorem subOf {W : Wd} {Z H : Hp} (zh : ∀ a o, Z a = some o → H a = some o ∧ ¬ W.bx a) : Sub Z H := fun a o h => (zh a o h).1
theorem o_add : Op2 C (binaryOp .Add) addD := fun X hX S _ W Z H st x y dx dy d Q zh sz bx r1 r2 hg q => by
  cases dx with
  | int i => cases dy with
    | int j => cases r1; cases r2; cases hg; exact rU_of op_add ⟨i, j, rfl, rfl, fin_plain zh bx (.int _) rfl q⟩
    | _ => cases hg
  | str i => cases dy with
    | str j =>
      cases r1; cases r2
      have hg' : (if i.length + j.length ≤ sizeLine then some (D.str (i ++ j)) else none) = some d := hg
      split at hg'
      · cases hg'; exact rU_of op_add_str ⟨i, j, rfl, rfl, by assumption, fin_plain zh bx (.str _) rfl q⟩
      · cases hg'
    | _ => cases hg
  | tup xs => cases dy with
    | tup ys =>
      have hg' : (if xs.length + ys.length ≤ sizeLine then some (D.tup (xs ++ ys)) else none) = some d := hg
      split at hg'
      · rename_i hl
        cases hg'
        cases r1 with | @tup a vs _ h1 l1 => cases r2 with | @tup b us _ h2 l2 =>
          have hv := l1.length
          have hu := l2.length
          refine rU_of op_catA ⟨a, b, vs, us, rfl, rfl, (subOf zh).sqT h1, (subOf zh).sqT h2, by omega, fun e => ?_, fun e e2 => ?_, fun _ _ p hp => ?_⟩
          · subst e
            cases l1
            exact fin_plain zh bx (.tup h2 l2) rfl q
          · subst e2
            cases l2
            rw [List.append_nil] at q
            exact fin_plain zh bx (.tup h1 l1) rfl q
          · exact fin_tup zh bx hp (l1.append l2) (by rw [List.length_append]; omega) q
      · cases hg'
    | _ => cases hg
  | lst xs => cases dy with
    | lst ys =>
      have hg' : (if xs.length + ys.length ≤ sizeLine then some (D.lst (xs ++ ys)) else none) = some d := hg
      split at hg'
      · rename_i hl
        cases hg'
        obtain ⟨a, vs, rfl, h1, l1⟩ := r1
        obtain ⟨b, us, rfl, h2, l2⟩ := r2
        have hv := l1.length
        have hu := l2.length
        exact rU_of op_cat ⟨a, b, vs, us, rfl, rfl, h1, h2, by omega, fun p hp => fin_lst zh bx hp (l1.append l2) (by rw [List.length_append]; omega) q⟩
      · cases hg'
    | _ => cases hg
  | _ => cases hg
theorem o_sub : Op2 C (binaryOp .Sub) subD := fun X hX S _ W Z H st x y dx dy d Q zh sz bx r1 r2 hg q => by
  cases dx with
  | int i => cases dy with
    | int j => cases r1; cases r2; cases hg; exact rU_of op_sub ⟨i, j, rfl, rfl, fin_plain zh bx (.int _) rfl q⟩
    | _ => cases hg
  | _ => cases hg
theorem RepL.rep {K : PySem.W.Frag} {β : Addr} {Z : Hp} {ds : List D} {vs : List V} (r : RepL K β Z ds vs) : ∀ k : Nat, RepL K β Z (List.replicate k ds).flatten (List.replicate k vs).flatten
  | 0 => .nil
  | k + 1 => by
    rw [List.replicate_succ, List.replicate_succ, List.flatten_cons, List.flatten_cons]
    exact r.append (RepL.rep r k)
set_option maxHeartbeats 4000000 in
theorem tuple_mul_self (l : Addr) (items : Array Value) (n : Nat) (dd : Option Addr) (sl : Array (Option Value)) (x : Int) (u : Tok) (c0 : (decide (x < -(2 ^ 63)) || decide (x ≥ 2 ^ 63)) = false) (c1 : (items.isEmpty || x == 1) = true) :
    Meets (Builtin.«tuple.__mul__» ⟨[.ref l, .int x u], []⟩) (fun _ R s => s.heap.get? l = some { cls := .type "tuple", dict := dd, data := .seq items n, slots := sl } ∧ R (.ok (.ret (.ref l))) s) :=
  .of_wp fun prog w A R s h => by
    obtain ⟨hp, g, d, tk, os⟩ := s; obtain ⟨hl, h⟩ := h; have f1 := AutoSeq1.idx_int
    wp_walk using wpAny_loadPart' hl
    refine wpAny_ite_false (decide_eq_false (by rw [c0]; exact Bool.false_ne_true)) ?_; wp_walk using wpAny_loadPart' hl
    exact ⟨_, rfl, h⟩
theorem op_repSelf {X : Cx} : OpR X (binaryOp .Mult) (fun x y H Q => ∃ l k xs, x = .ref l ∧ y = .int k ∧ SqT X.K H l xs ∧ (xs = [] ∨ k = 1) ∧ -(2 ^ 63) ≤ k ∧ k < 2 ^ 63 ∧ Q (.ref l) H) := by
  intro pins s σ H x y v u Q I rx ry h
  obtain ⟨l, k, xs, rfl, rfl, hT, hc1, hb1, hb2, q⟩ := h
  cases rx; obtain ⟨t, rfl⟩ := ry
  obtain ⟨its, r, ⟨⟨cls, dd, data, sl⟩, ho, hc, n, hd⟩, hs⟩ := I.tuple hT
  simp only at hc hd; subst hc hd
  have c0 : (decide (k < -(2 ^ 63)) || decide (k ≥ 2 ^ 63)) = false := by
    rw [decide_eq_false (by omega), decide_eq_false (by omega)]; rfl
  have c1 : (its.toArray.isEmpty || k == 1) = true := by
    rcases hc1 with h | h
    · subst h; cases r; rfl
    · subst h; simp
  exact wpAny_binaryOp_repeat_ref (T := "tuple") (U := "int") (by decide) ⟨_, ho, rfl⟩ (fun s' => typeIs_int s' k t) noFill_tuple_mul F.fills_int_mul F.slot_int_rmul repeat_tuple F.slot_int_index.lookup (call_meets F.slot_int_rmul (typeIs_int s k t) F.entry_int_rmul (F.args_int_rmul_2 _ _) (int_rmul_tuple k t l its.toArray n dd sl)
    ⟨ho, rfl, ⟨_, ho, rfl⟩, call_meets F.slot_tuple_mul ⟨_, ho, rfl⟩ F.entry_tuple_mul (F.args_tuple_mul_2 _ _) (tuple_mul_self l its.toArray n dd sl k t c0 c1) ⟨ho, .ref l, H, I, rfl, q⟩⟩)
theorem o_mul : Op2 C (binaryOp .Mult) mulD := fun X hX S _ W Z H st x y dx dy d Q zh sz bx r1 r2 hg q => by
  cases dx with
  | int i => cases dy with
    | int j =>
      cases r1; cases r2
      have hg' : (if mulOk i j then some (D.int (i * j)) else none) = some d := hg
      split at hg'
      · rename_i hc
        cases hg'; exact rU_of op_mul ⟨i, j, rfl, rfl, hc, fin_plain zh bx (.int _) rfl q⟩
      · cases hg'
    | _ => cases hg
  | lst xs => cases dy with
    | int k =>
      cases r2
      have hg' : (if -(2 ^ 63) ≤ k ∧ k < 2 ^ 63 ∧ xs.length * k.toNat ≤ sizeLine then some (D.lst (List.replicate k.toNat xs).flatten) else none) = some d := hg
      split at hg'
      · rename_i hc
        cases hg'
        obtain ⟨a, vs, rfl, h1, l1⟩ := r1
        have hv := l1.length
        rw [hv] at hc
        refine rU_of op_rep ⟨a, k, vs, rfl, rfl, h1, hc.1, hc.2.1, hc.2.2, fun p hp => fin_lst zh bx hp (l1.rep _) ?_ q⟩
        rw [List.length_flatten, List.map_replicate, List.sum_replicate_nat, Nat.mul_comm]
        exact hc.2.2
      · cases hg'
    | _ => cases hg
  | tup xs => cases dy with
    | int k =>
      cases r2
      have hg' : (if -(2 ^ 63) ≤ k ∧ k < 2 ^ 63 ∧ (xs = [] ∨ k = 1 ∨ (2 ≤ k ∧ k ≤ 1000 ∧ xs.length ≤ 1000)) then some (D.tup (List.replicate k.toNat xs).flatten) else none) = some d := hg
      split at hg'
      · rename_i hc
        cases hg'
        cases r1 with | @tup a vs _ h1 l1 =>
          have hv := l1.length
          have same : xs = [] ∨ k = 1 → (List.replicate k.toNat xs).flatten = xs := fun h => by
            rcases h with h | h
            · rw [h, List.flatten_replicate_nil]
            · rw [h]; simp
          by_cases hs : xs = [] ∨ k = 1
          · rw [same hs] at q
            refine rU_of op_repSelf ⟨a, k, vs, rfl, rfl, (subOf zh).sqT h1, ?_, hc.1, hc.2.1, fin_plain zh bx (.tup h1 l1) rfl q⟩
            rcases hs with h | h
            · exact .inl (by subst h; cases l1; rfl)
            · exact .inr h
          · have hc3 : 2 ≤ k ∧ k ≤ 1000 ∧ xs.length ≤ 1000 := by
              rcases hc.2.2 with h | h | h
              · exact absurd (.inl h) hs
              · exact absurd (.inr h) hs
              · exact h
            refine rU_of op_repT ⟨a, k, vs, rfl, rfl, (subOf zh).sqT h1, fun e => hs (.inl ?_), hc3.1, hc3.2.1, by omega, fun p hp => fin_tup zh bx hp (l1.rep _) ?_ q⟩
            · subst e; cases l1; rfl
            · rw [List.length_flatten, List.map_replicate, List.sum_replicate_nat, sizeLine_eq]
              have : k.toNat * vs.length ≤ 1000 * 1000 := Nat.mul_le_mul (by omega) (by omega)
              omega
      · cases hg'
    | _ => cases hg
  | _ => cases hg
theorem o_div : Op2 C (binaryOp .FloorDiv) divD := fun X hX S _ W Z H st x y dx dy d Q zh sz bx r1 r2 hg q => by
  cases dx with
  | int i => cases dy with
    | int j =>
      cases r1; cases r2
      have hg' : (if 0 < j ∧ j < 1073741824 then some (D.int (i / j)) else none) = some d := hg
      split at hg'
      · rename_i hc
        cases hg'; exact rU_of op_fdiv ⟨i, j, rfl, rfl, hc, fin_plain zh bx (.int _) rfl q⟩
      · cases hg'
    | _ => cases hg
  | _ => cases hg
theorem o_mod : Op2 C (binaryOp .Mod) modD := fun X hX S _ W Z H st x y dx dy d Q zh sz bx r1 r2 hg q => by
  cases dx with
  | int i => cases dy with
    | int j =>
      cases r1; cases r2
      have hg' : (if 0 < j then some (D.int (i % j)) else none) = some d := hg
      split at hg'
      · rename_i hc
        cases hg'; exact rU_of op_mod ⟨i, j, rfl, rfl, hc, fin_plain zh bx (.int _) rfl q⟩
      · cases hg'
    | _ => cases hg
  | _ => cases hg
theorem o_lt : Op2 C (compareOp .Lt) ltD := fun X hX S _ W Z H st x y dx dy d Q zh sz bx r1 r2 hg q => by
  cases dx with
  | int i => cases dy with
    | int j => cases r1; cases r2; cases hg; exact rU_of op_lt ⟨i, j, rfl, rfl, fin_plain zh bx (.bl _) rfl q⟩
    | _ => cases hg
  | _ => cases hg
theorem o_le : Op2 C (compareOp .LtE) leD := fun X hX S _ W Z H st x y dx dy d Q zh sz bx r1 r2 hg q => by
  cases dx with
  | int i => cases dy with
    | int j => cases r1; cases r2; cases hg; exact rU_of op_le ⟨i, j, rfl, rfl, fin_plain zh bx (.bl _) rfl q⟩
    | _ => cases hg
  | _ => cases hg
theorem o_gt : Op2 C (compareOp .Gt) gtD := fun X hX S _ W Z H st x y dx dy d Q zh sz bx r1 r2 hg q => by
  cases dx with
  | int i => cases dy with
    | int j => cases r1; cases r2; cases hg; exact rU_of op_gt ⟨i, j, rfl, rfl, fin_plain zh bx (.bl _) rfl q⟩
    | _ => cases hg
  | _ => cases hg
theorem o_ge : Op2 C (compareOp .GtE) geD := fun X hX S _ W Z H st x y dx dy d Q zh sz bx r1 r2 hg q => by
  cases dx with
  | int i => cases dy with
    | int j => cases r1; cases r2; cases hg; exact rU_of op_ge ⟨i, j, rfl, rfl, fin_plain zh bx (.bl _) rfl q⟩
    | _ => cases hg
  | _ => cases hg
theorem o_eq : Op2 C (compareOp .Eq) eqD := fun X hX S _ W Z H st x y dx dy d Q zh sz bx r1 r2 hg q => by
  unfold eqD at hg
  split at hg
  · rename_i hc
    cases hg
    exact rU_of (op_eqD (by have := hX.units; omega)) ⟨toPy dx, toPy dy, r1.dp (subOf zh) (SeqAt.canLay_of_shaped hc.1), r2.dp (subOf zh) (SeqAt.canLay_of_shaped hc.2), hc.1, hc.2, fin_plain zh bx (.bl _) rfl q⟩
  · cases hg
theorem o_ne : Op2 C (compareOp .NotEq) neD := fun X hX S _ W Z H st x y dx dy d Q zh sz bx r1 r2 hg q => by
  unfold neD at hg
  split at hg
  · rename_i hc
    cases hg
    exact rU_of (op_neD (by have := hX.units; omega)) ⟨toPy dx, toPy dy, r1.dp (subOf zh) (SeqAt.canLay_of_shaped hc.1), r2.dp (subOf zh) (SeqAt.canLay_of_shaped hc.2), hc.1, hc.2, fin_plain zh bx (.bl _) rfl q⟩
  · cases hg
theorem any_toPys (p : PyData → Bool) : ∀ ys : List D, (toPys ys).any p = ys.any fun z => p (toPy z)
  | [] => rfl
  | y :: ys => by rw [toPys, List.any_cons, List.any_cons, any_toPys p ys]
def rInT (K : PySem.W.Frag) : R2 := fun x y H Q => ∃ d ds, Dp K H x d ∧ Dp K H y (.tuple ds) ∧ SeqAt.shaped d = true ∧ SeqAt.shaped (.tuple ds) = true ∧ Q (.bl (ds.any fun z => PyData.eqv z d)) H
def rNotInT (K : PySem.W.Frag) : R2 := fun x y H Q => ∃ d ds, Dp K H x d ∧ Dp K H y (.tuple ds) ∧ SeqAt.shaped d = true ∧ SeqAt.shaped (.tuple ds) = true ∧ Q (.bl (!ds.any fun z => PyData.eqv z d)) H
theorem room_inT {A : Around} {d : PyData} {n : Nat} (h : SeqAt.shaped d = true) (hu : A.units + 65 < cLine) : A.units + 1 + min n d.depth < cLine := by
  have h1 := SeqAt.depth_of_shaped h
  have h2 : min n d.depth ≤ d.depth := Nat.min_le_right _ _
  omega
theorem op_inT {X : Cx} (hu : X.A.units + 65 < cLine) : OpR X (compareOp .In) (rInT X.K) := by
  intro pins s σ H x y v u Q I rx ry h
  obtain ⟨d, ds, hd, he, sd, se, q⟩ := h
  obtain ⟨as, r1⟩ := Dp.reads I d x v hd rx
  obtain ⟨bs, r2⟩ := Dp.reads I (.tuple ds) y u he ry
  exact SeqAt.in_tuple_reads r2 r1 (by simpa [PyData.canLay0] using SeqAt.canLay_of_shaped se) (SeqAt.canLay_of_shaped sd) (room_inT sd hu) ⟨.bl _, H, I, rfl, q⟩
theorem op_notInT {X : Cx} (hu : X.A.units + 65 < cLine) : OpR X (compareOp .NotIn) (rNotInT X.K) := by
  intro pins s σ H x y v u Q I rx ry h
  obtain ⟨d, ds, hd, he, sd, se, q⟩ := h
  obtain ⟨as, r1⟩ := Dp.reads I d x v hd rx
  obtain ⟨bs, r2⟩ := Dp.reads I (.tuple ds) y u he ry
  exact SeqAt.notIn_tuple_reads r2 r1 (by simpa [PyData.canLay0] using SeqAt.canLay_of_shaped se) (SeqAt.canLay_of_shaped sd) (room_inT sd hu) ⟨.bl _, H, I, rfl, q⟩
theorem o_in : Op2 C (compareOp .In) inD := fun X hX S _ W Z H st x y dx dy d Q zh sz bx r1 r2 hg q => by
  cases dy with
  | lst ys =>
    unfold inD at hg
    simp only at hg
    split at hg
    · rename_i hc
      cases hg
      refine rU_of (op_inD hX.units) ⟨toPy dx, toPys ys, r1.dp (subOf zh) (SeqAt.canLay_of_shaped hc.1), r2.dp (subOf zh) (SeqAt.canLay_of_shaped hc.2), hc.1, hc.2, ?_⟩
      rw [any_toPys]
      exact fin_plain zh bx (.bl _) rfl q
    · cases hg
  | tup ys =>
    unfold inD at hg
    simp only at hg
    split at hg
    · rename_i hc
      cases hg
      refine rU_of (op_inT hX.units) ⟨toPy dx, toPys ys, r1.dp (subOf zh) (SeqAt.canLay_of_shaped hc.1), r2.dp (subOf zh) (SeqAt.canLay_of_shaped hc.2), hc.1, hc.2, ?_⟩
      rw [any_toPys]
      exact fin_plain zh bx (.bl _) rfl q
    · cases hg
  | _ => cases hg
theorem o_nin : Op2 C (compareOp .NotIn) ninD := fun X hX S _ W Z H st x y dx dy d Q zh sz bx r1 r2 hg q => by
  cases dy with
  | lst ys =>
    unfold ninD at hg
    simp only at hg
    split at hg
    · rename_i hc
      cases hg
      refine rU_of (op_notInD hX.units) ⟨toPy dx, toPys ys, r1.dp (subOf zh) (SeqAt.canLay_of_shaped hc.1), r2.dp (subOf zh) (SeqAt.canLay_of_shaped hc.2), hc.1, hc.2, ?_⟩
      rw [any_toPys]
      exact fin_plain zh bx (.bl _) rfl q
    · cases hg
  | tup ys =>
    unfold ninD at hg
    simp only at hg
    split at hg
    · rename_i hc
      cases hg
      refine rU_of (op_notInT hX.units) ⟨toPy dx, toPys ys, r1.dp (subOf zh) (SeqAt.canLay_of_shaped hc.1), r2.dp (subOf zh) (SeqAt.canLay_of_shaped hc.2), hc.1, hc.2, ?_⟩
      rw [any_toPys]
      exact fin_plain zh bx (.bl _) rfl q
    · cases hg
  | _ => cases hg
theorem Rep1.isNon {K : PySem.W.Frag} {β : Addr} {Z H : Hp} {d : D} {v : V} (r : Rep1 K β Z H d v) : decide (v = .non) = isNonD d := by
  cases d with
  | non => cases r; rfl
  | bl b => cases r; rfl
  | int i => cases r; rfl
  | str x => cases r; rfl
  | tup xs => cases r; rfl
  | lst xs => obtain ⟨a, vs, rfl, _⟩ := r; rfl
  | dct xs => obtain ⟨a, rfl, _⟩ := r; rfl
  | box => cases r; rfl
theorem o_is : Op2 C (compareOp .Is) isD := fun X hX S _ W Z H st x y dx dy d Q zh sz bx r1 r2 hg q => by
  cases dy with
  | non =>
    cases r2
    have e : d = .bl (isNonD dx) := by cases dx <;> exact (Option.some.inj hg).symm
    subst e
    exact rU_of op_isN ⟨rfl, by rw [r1.isNon]; exact fin_plain zh bx (.bl _) rfl q⟩
  | bl b =>
    cases dx with
    | bl a => cases r1; cases r2; cases hg; exact rU_of op_is_bl ⟨a, b, rfl, rfl, fin_plain zh bx (.bl _) rfl q⟩
    | _ => cases hg
  | _ => cases dx <;> cases hg
theorem o_isnt : Op2 C (compareOp .IsNot) isntD := fun X hX S _ W Z H st x y dx dy d Q zh sz bx r1 r2 hg q => by
  cases dy with
  | non =>
    cases r2
    have e : d = .bl (!isNonD dx) := by cases dx <;> exact (Option.some.inj hg).symm
    subst e
    exact rU_of op_notN ⟨rfl, by rw [r1.isNon]; exact fin_plain zh bx (.bl _) rfl q⟩
  | bl b =>
    cases dx with
    | bl a => cases r1; cases r2; cases hg; exact rU_of op_isnot_bl ⟨a, b, rfl, rfl, fin_plain zh bx (.bl _) rfl q⟩
    | _ => cases hg
  | _ => cases dx <;> cases hg
end

/-! ### calls of built-ins -/
section
variable {S : Type} [BoxS S] {C : Stat} {Γ : SCx} {e a b : Expr} {es : List Expr} {m ma mb : M S D} {md : Md} {pos p : Pos} {x : Str}
theorem ResL.views {K : PySem.W.Frag} {W : Wd} {H Z' H' : Hp} (zh : ∀ a o, Z' a = some o → H' a = some o ∧ ¬ W.bx a) : ∀ {mds : List Md} {ds : List D} {vs : List V}, ResL K W mds H Z' H' ds vs → ResL K W (ds.map fun _ => Md.V) H' Z' H' ds vs
  | [], [], [], _ => trivial
  | _ :: _, _ :: _, _ :: _, ⟨h, r⟩ => ⟨h.view zh, ResL.views zh r⟩
  | [], [], _ :: _, h => h.elim
  | [], _ :: _, _, h => h.elim
  | _ :: _, [], _, h => h.elim
  | _ :: _, _ :: _, [], h => h.elim
theorem Ok.bfun {id : String} {g : List D → Option D} {mds : List Md} {mr : M S (List D)} (ho : OpL C (.builtin id) g) (hv : bootBuiltins x = some (.builtin id)) (hg : C.sc.names.lookup x = some .globalImplicit) (hm : C.G.mg x = none) (ha : OkA mds C Γ (e :: es) mr)
    (hn : x ≠ "__name__" := by decide) (hdb : (x == ("__debug__" : Str)) = false := by decide) (hp : plainArg e = true := by rfl) (hes : ∀ env : Env, (backTo pos (starEach es env)).any (·.1) = false := by intro _; rfl) : Ok .N C Γ (.Call (.Name x p) (e :: es) [] pos) (bnd mr fun xs => lift (g xs)) := .mk fun X hX W σ Z H st d st' Q r hm' q => by
  obtain ⟨xs, st1, h1, hm1⟩ := bnd_some hm'
  obtain ⟨hg', rfl⟩ := lift_some hm1
  refine tU_of (pe_callB crU (hX.glob hg) (hX.none hm) hv paU hn hdb (starEach_plain _ hp) (hes _)) ?_
  refine ha X hX W σ Z H st xs _ _ r h1 fun vs Z1 H1 s1 b1 r1 => ?_
  exact ho X hX W Z1 H1 _ vs xs d Q s1.zh (s1.sz r.sz) b1 (r1.views s1.zh) hg' fun v Z' H' s' b' r' => q v Z' H' (s1.trans s') b' (r'.back r.box b1 s1)
theorem Ok.tfun {T : String} {g : List D → Option D} {mds : List Md} {mr : M S (List D)} (ho : OpL C (.type T) g) (hv : bootBuiltins x = some (.type T)) (hg : C.sc.names.lookup x = some .globalImplicit) (hm : C.G.mg x = none) (ha : OkA mds C Γ (e :: es) mr)
    (hn : x ≠ "__name__" := by decide) (hdb : (x == ("__debug__" : Str)) = false := by decide) (hp : plainArg e = true := by rfl) (hes : ∀ env : Env, (backTo pos (starEach es env)).any (·.1) = false := by intro _; rfl) : Ok .N C Γ (.Call (.Name x p) (e :: es) [] pos) (bnd mr fun xs => lift (g xs)) := .mk fun X hX W σ Z H st d st' Q r hm' q => by
  obtain ⟨xs, st1, h1, hm1⟩ := bnd_some hm'
  obtain ⟨hg', rfl⟩ := lift_some hm1
  refine tU_of (pe_callTy crU (hX.glob hg) (hX.none hm) hv paU hn hdb (starEach_plain _ hp) (hes _)) ?_
  refine ha X hX W σ Z H st xs _ _ r h1 fun vs Z1 H1 s1 b1 r1 => ?_
  exact ho X hX W Z1 H1 _ vs xs d Q s1.zh (s1.sz r.sz) b1 (r1.views s1.zh) hg' fun v Z' H' s' b' r' => q v Z' H' (s1.trans s') b' (r'.back r.box b1 s1)
end
section
variable {C : Stat}
theorem ResL.one {K : PySem.W.Frag} {W : Wd} {H Z' H' : Hp} {d : D} {vs : List V} (h : ResL K W ([d].map fun _ => Md.V) H Z' H' [d] vs) : ∃ v, vs = [v] ∧ Rep1 K W.β Z' H' d v := by
  match vs, h with
  | [v], h => exact ⟨v, rfl, h.1.1⟩
  | [], h => exact h.elim
  | _ :: _ :: _, h => exact h.2.elim
theorem ResL.two {K : PySem.W.Frag} {W : Wd} {H Z' H' : Hp} {d e : D} {vs : List V} (h : ResL K W ([d, e].map fun _ => Md.V) H Z' H' [d, e] vs) : ∃ v u, vs = [v, u] ∧ Rep1 K W.β Z' H' d v ∧ Rep1 K W.β Z' H' e u := by
  match vs, h with
  | [v, u], h => exact ⟨v, u, rfl, h.1.1, h.2.1.1⟩
  | [], h => exact h.elim
  | [_], h => exact h.2.elim
  | _ :: _ :: _ :: _, h => exact h.2.2.elim
def lenD : List D → Option D
  | [.tup xs] => some (.int xs.length)
  | [.lst xs] => some (.int xs.length)
  | [.str x] => if x.length ≤ sizeLine then some (.int x.length) else none
  | _ => none
theorem o_len : OpL C (.builtin "len") lenD := fun X hX S _ W Z H st xs dxs d Q zh sz bx r0 hg q => by
  match dxs, hg with
  | [.tup xs], hg =>
    cases hg
    obtain ⟨v, rfl, r⟩ := r0.one
    cases r with | tup h l => exact cU_of call_len ⟨_, _, rfl, .inr ⟨_, (subOf zh).sqT h, rfl⟩, by rw [← l.length]; exact fin_plain zh bx (.int _) rfl q⟩
  | [.lst xs], hg =>
    cases hg
    obtain ⟨v, rfl, r⟩ := r0.one
    obtain ⟨a, vs, rfl, h, l⟩ := r
    exact cU_of call_len ⟨_, _, rfl, .inl ⟨_, .inl (.inl h), rfl⟩, by rw [← l.length]; exact fin_plain zh bx (.int _) rfl q⟩
  | [.str x], hg =>
    have hg' : (if x.length ≤ sizeLine then some (D.int x.length) else none) = some d := hg
    split at hg'
    · cases hg'
      obtain ⟨v, rfl, r⟩ := r0.one
      cases r
      exact cU_of call_len ⟨_, _, rfl, ⟨by assumption, rfl⟩, fin_plain zh bx (.int _) rfl q⟩
    · cases hg'
def tupleD : List D → Option D
  | [.tup xs] => some (.tup xs)
  | [.lst xs] => some (.tup xs)
  | _ => none
theorem o_tuple : OpL C (.type "tuple") tupleD := fun X hX S _ W Z H st xs dxs d Q zh sz bx r0 hg q => by
  match dxs, hg with
  | [.tup xs], hg =>
    cases hg
    obtain ⟨v, rfl, r⟩ := r0.one
    cases r with | tup h l => exact cU_of call_tuple_of ⟨_, _, rfl, .inr ⟨(subOf zh).sqT h, fin_plain zh bx (.tup h l) rfl q⟩⟩
  | [.lst xs], hg =>
    cases hg
    obtain ⟨v, rfl, r⟩ := r0.one
    obtain ⟨a, vs, rfl, h, l⟩ := r
    exact cU_of call_tuple_of ⟨_, _, rfl, .inl ⟨.inl (.inl h), fun p hp => fin_tup zh bx hp l (sz.lst h) q⟩⟩
def listD : List D → Option D
  | [.tup xs] => some (.lst xs)
  | [.lst xs] => some (.lst xs)
  | _ => none
theorem o_list : OpL C (.type "list") listD := fun X hX S _ W Z H st xs dxs d Q zh sz bx r0 hg q => by
  match dxs, hg with
  | [.tup xs], hg =>
    cases hg
    obtain ⟨v, rfl, r⟩ := r0.one
    cases r with | tup h l => exact cU_of call_list_of ⟨_, _, rfl, .inr ((subOf zh).sqT h), fun p hp => fin_lst zh bx hp l (sz.tup ((subOf zh).tupAt h)) q⟩
  | [.lst xs], hg =>
    cases hg
    obtain ⟨v, rfl, r⟩ := r0.one
    obtain ⟨a, vs, rfl, h, l⟩ := r
    exact cU_of call_list_of ⟨_, _, rfl, .inl (.inl (.inl h)), fun p hp => fin_lst zh bx hp l (sz.lst h) q⟩
def intD : List D → Option D
  | [.int i] => some (.int i)
  | [.bl b] => some (.int (if b then 1 else 0))
  | _ => none
theorem o_int : OpL C (.type "int") intD := fun X hX S _ W Z H st xs dxs d Q zh sz bx r0 hg q => by
  match dxs, hg with
  | [.int i], hg =>
    cases hg
    obtain ⟨v, rfl, r⟩ := r0.one
    cases r
    exact cU_of call_int1 (.inl ⟨i, rfl, fin_plain zh bx (.int _) rfl q⟩)
  | [.bl b], hg =>
    cases hg
    obtain ⟨v, rfl, r⟩ := r0.one
    cases r
    exact cU_of call_int1 (.inr ⟨b, rfl, fin_plain zh bx (.int _) rfl q⟩)
def absD : List D → Option D
  | [.int i] => some (.int (if i < 0 then -i else i))
  | _ => none
theorem o_abs : OpL C (.builtin "abs") absD := fun X hX S _ W Z H st xs dxs d Q zh sz bx r0 hg q => by
  match dxs, hg with
  | [.int i], hg =>
    cases hg
    obtain ⟨v, rfl, r⟩ := r0.one
    cases r
    exact cU_of call_abs ⟨i, rfl, fin_plain zh bx (.int _) rfl q⟩
/-- the ints, the bools of a list -/
def asInts : List D → Option (List Int)
  | [] => some []
  | .int i :: ds => (asInts ds).map fun is => i :: is
  | _ :: _ => none
def asBls : List D → Option (List Bool)
  | [] => some []
  | .bl i :: ds => (asBls ds).map fun is => i :: is
  | _ :: _ => none
theorem asInts_rep {K : PySem.W.Frag} {β : Addr} {Z : Hp} : ∀ {ds : List D} {vs : List V} {is : List Int}, RepL K β Z ds vs → asInts ds = some is → vs = is.map V.int
  | _, _, is, .nil, h => by cases h; rfl
  | d :: ds, v :: vs, is, .cons r rs, h => by
    cases d with
    | int i =>
      cases r
      cases e : asInts ds with
      | none => simp [asInts, e] at h
      | some js =>
        simp only [asInts, e, Option.map_some, Option.some.injEq] at h
        subst h
        rw [asInts_rep rs e]; rfl
    | _ => cases h
theorem asBls_rep {K : PySem.W.Frag} {β : Addr} {Z : Hp} : ∀ {ds : List D} {vs : List V} {is : List Bool}, RepL K β Z ds vs → asBls ds = some is → vs = is.map V.bl
  | _, _, is, .nil, h => by cases h; rfl
  | d :: ds, v :: vs, is, .cons r rs, h => by
    cases d with
    | bl i =>
      cases r
      cases e : asBls ds with
      | none => simp [asBls, e] at h
      | some js =>
        simp only [asBls, e, Option.map_some, Option.some.injEq] at h
        subst h
        rw [asBls_rep rs e]; rfl
    | _ => cases h
def allD : List D → Option D
  | [.lst xs] => (asBls xs).map fun bs => .bl (bs.all id)
  | _ => none
def anyD : List D → Option D
  | [.lst xs] => (asBls xs).map fun bs => .bl (bs.any id)
  | _ => none
theorem o_all : OpL C (.builtin "all") allD := fun X hX S _ W Z H st xs dxs d Q zh sz bx r0 hg q => by
  match dxs, hg with
  | [.lst xs], hg =>
    obtain ⟨v, rfl, r⟩ := r0.one
    obtain ⟨a, vs, rfl, h, l⟩ := r
    obtain ⟨bs, e, rfl⟩ := Option.map_eq_some_iff.mp hg
    have ev := asBls_rep l e
    subst ev
    exact cU_of (cr_all hX.calm) ⟨a, bs, rfl, .inl (.inl h), fin_plain zh bx (.bl _) rfl q⟩
theorem o_any : OpL C (.builtin "any") anyD := fun X hX S _ W Z H st xs dxs d Q zh sz bx r0 hg q => by
  match dxs, hg with
  | [.lst xs], hg =>
    obtain ⟨v, rfl, r⟩ := r0.one
    obtain ⟨a, vs, rfl, h, l⟩ := r
    obtain ⟨bs, e, rfl⟩ := Option.map_eq_some_iff.mp hg
    have ev := asBls_rep l e
    subst ev
    exact cU_of (cr_any hX.calm) ⟨a, bs, rfl, .inl (.inl h), fin_plain zh bx (.bl _) rfl q⟩
def maxI : List Int → Option Int
  | [] => none
  | i :: is => some (is.foldl (fun a b => if a < b then b else a) i)
def minI : List Int → Option Int
  | [] => none
  | i :: is => some (is.foldl (fun a b => if b < a then b else a) i)
theorem maxI_uniq {ns : List Int} {m n : Int} (h : maxI ns = some n) (hm : m ∈ ns) (hb : ∀ y ∈ ns, y ≤ m) : m = n := by
  cases ns with
  | nil => cases h
  | cons i is =>
    have g : ∀ (is : List Int) (i : Int), (is.foldl (fun a b => if a < b then b else a) i) ∈ i :: is ∧ ∀ y ∈ i :: is, y ≤ is.foldl (fun a b => if a < b then b else a) i := by
      intro is
      induction is with
      | nil => intro i; exact ⟨by simp, fun y hy => by simp at hy; subst hy; exact Int.le_refl _⟩
      | cons j js ih =>
        intro i
        rw [List.foldl_cons]
        obtain ⟨h1, h2⟩ := ih (if i < j then j else i)
        constructor
        · rcases List.mem_cons.mp h1 with e | e
          · rw [e]; split <;> simp
          · exact List.mem_cons_of_mem _ (List.mem_cons_of_mem _ e)
        · intro y hy
          have h3 := h2 (if i < j then j else i) List.mem_cons_self
          have h4 : i ≤ (if i < j then j else i) ∧ j ≤ (if i < j then j else i) := by split <;> omega
          rcases List.mem_cons.mp hy with e | hy
          · rw [e]; exact Int.le_trans h4.1 h3
          · rcases List.mem_cons.mp hy with e | hy
            · rw [e]; exact Int.le_trans h4.2 h3
            · exact h2 y (List.mem_cons_of_mem _ hy)
    obtain ⟨h1, h2⟩ := g is i
    have e : is.foldl (fun a b => if a < b then b else a) i = n := Option.some.inj h
    rw [e] at h1 h2
    have a1 := h2 m hm
    have a2 := hb n h1
    omega
theorem minI_uniq {ns : List Int} {m n : Int} (h : minI ns = some n) (hm : m ∈ ns) (hb : ∀ y ∈ ns, m ≤ y) : m = n := by
  cases ns with
  | nil => cases h
  | cons i is =>
    have g : ∀ (is : List Int) (i : Int), (is.foldl (fun a b => if b < a then b else a) i) ∈ i :: is ∧ ∀ y ∈ i :: is, is.foldl (fun a b => if b < a then b else a) i ≤ y := by
      intro is
      induction is with
      | nil => intro i; exact ⟨by simp, fun y hy => by simp at hy; subst hy; exact Int.le_refl _⟩
      | cons j js ih =>
        intro i
        rw [List.foldl_cons]
        obtain ⟨h1, h2⟩ := ih (if j < i then j else i)
        constructor
        · rcases List.mem_cons.mp h1 with e | e
          · rw [e]; split <;> simp
          · exact List.mem_cons_of_mem _ (List.mem_cons_of_mem _ e)
        · intro y hy
          have h3 := h2 (if j < i then j else i) List.mem_cons_self
          have h4 : (if j < i then j else i) ≤ i ∧ (if j < i then j else i) ≤ j := by split <;> omega
          rcases List.mem_cons.mp hy with e | hy
          · rw [e]; exact Int.le_trans h3 h4.1
          · rcases List.mem_cons.mp hy with e | hy
            · rw [e]; exact Int.le_trans h3 h4.2
            · exact h2 y (List.mem_cons_of_mem _ hy)
    obtain ⟨h1, h2⟩ := g is i
    have e : is.foldl (fun a b => if b < a then b else a) i = n := Option.some.inj h
    rw [e] at h1 h2
    have a1 := h2 m hm
    have a2 := hb n h1
    omega
def maxD : List D → Option D
  | [.lst xs] => ((asInts xs).bind maxI).map .int
  | [.int i, .int j] => some (.int (if j > i then j else i))
  | _ => none
def minD : List D → Option D
  | [.lst xs] => ((asInts xs).bind minI).map .int
  | [.int i, .int j] => some (.int (if j < i then j else i))
  | _ => none
def sumD : List D → Option D
  | [.lst xs] => (asInts xs).map fun is => .int is.sum
  | _ => none
theorem o_max : OpL C (.builtin "max") maxD := fun X hX S _ W Z H st xs dxs d Q zh sz bx r0 hg q => by
  match dxs, hg with
  | [.lst xs], hg =>
    obtain ⟨v, rfl, r⟩ := r0.one
    obtain ⟨a, vs, rfl, h, l⟩ := r
    obtain ⟨n, e, rfl⟩ := Option.map_eq_some_iff.mp hg
    obtain ⟨ns, e1, e2⟩ := Option.bind_eq_some_iff.mp e
    have ev := asInts_rep l e1
    subst ev
    refine cU_of (cr_max hX.calm) ⟨a, ns, rfl, .inl (.inl h), ?_, fun m hm hb => ?_⟩
    · cases ns with
      | nil => cases e2
      | cons _ _ => simp
    · rw [maxI_uniq e2 hm hb]; exact fin_plain zh bx (.int _) rfl q
  | [.int i, .int j], hg =>
    cases hg
    obtain ⟨v, u, rfl, r, r'⟩ := r0.two
    cases r; cases r'
    exact cU_of (call_max2 hX.calm) ⟨i, j, rfl, fin_plain zh bx (.int _) rfl q⟩
theorem o_min : OpL C (.builtin "min") minD := fun X hX S _ W Z H st xs dxs d Q zh sz bx r0 hg q => by
  match dxs, hg with
  | [.lst xs], hg =>
    obtain ⟨v, rfl, r⟩ := r0.one
    obtain ⟨a, vs, rfl, h, l⟩ := r
    obtain ⟨n, e, rfl⟩ := Option.map_eq_some_iff.mp hg
    obtain ⟨ns, e1, e2⟩ := Option.bind_eq_some_iff.mp e
    have ev := asInts_rep l e1
    subst ev
    refine cU_of (cr_min hX.calm) ⟨a, ns, rfl, .inl (.inl h), ?_, fun m hm hb => ?_⟩
    · cases ns with
      | nil => cases e2
      | cons _ _ => simp
    · rw [minI_uniq e2 hm hb]; exact fin_plain zh bx (.int _) rfl q
  | [.int i, .int j], hg =>
    cases hg
    obtain ⟨v, u, rfl, r, r'⟩ := r0.two
    cases r; cases r'
    exact cU_of (call_min2 hX.calm) ⟨i, j, rfl, fin_plain zh bx (.int _) rfl q⟩
theorem o_sum : OpL C (.builtin "sum") sumD := fun X hX S _ W Z H st xs dxs d Q zh sz bx r0 hg q => by
  match dxs, hg with
  | [.lst xs], hg =>
    obtain ⟨v, rfl, r⟩ := r0.one
    obtain ⟨a, vs, rfl, h, l⟩ := r
    obtain ⟨ns, e1, rfl⟩ := Option.map_eq_some_iff.mp hg
    have ev := asInts_rep l e1
    subst ev
    exact cU_of (cr_sum hX.calm) ⟨a, ns, rfl, .inl (.inl h), fin_plain zh bx (.int _) rfl q⟩
/-! ### isinstance -/
def tyName : D → Option String
  | .non => some "NoneType"
  | .bl _ => some "bool"
  | .int _ => some "int"
  | .str _ => some "str"
  | .tup _ => some "tuple"
  | .lst _ => some "list"
  | .dct _ => some "dict"
  | .box => none
theorem tyX_of {K : PySem.W.Frag} {β : Addr} {Z H : Hp} {d : D} {v : V} {n : String} (s : Sub Z H) (r : Rep1 K β Z H d v) (h : tyName d = some n) : TyX K H v (.type n) := by
  cases d with
  | non => cases h; cases r; exact .base .non
  | bl b => cases h; cases r; exact .base (.bl b)
  | int i => cases h; cases r; exact .base (.int i)
  | str x => cases h; cases r; exact .base (.str x)
  | tup xs =>
    cases h
    cases r with
    | tup hq l =>
      rcases hq with hq | ⟨o, its, n, hk, hc, _⟩
      · exact .base (.tup (s _ _ hq))
      · exact .kTuple hk hc
  | lst xs => cases h; obtain ⟨a, vs, rfl, hq, l⟩ := r; exact .base (.lst hq)
  | dct xs =>
    cases h
    obtain ⟨a, rfl, ⟨kvs, hq, l⟩ | ⟨kvs, hq, l⟩⟩ := r
    · exact .base (.dK hq)
    · exact .base (.dT hq)
  | box => cases h
end
section
variable {S : Type} [BoxS S] {C : Stat} {Γ : SCx} {e a b : Expr} {es : List Expr} {m ma mb : M S D} {md : Md} {pos p p2 : Pos} {x : Str}
def isiD (T : String) (d : D) : Option D := (tyName d).bind fun n => (kitB n T).map .bl
theorem Ok.isinst {T : String} {y : Str} (ha : Ok .V C Γ a ma) (hg : C.sc.names.lookup ("isinstance" : Str) = some .globalImplicit) (hm : C.G.mg "isinstance" = none) (hgT : C.sc.names.lookup y = some .globalImplicit) (hmT : C.G.mg y = none)
    (hvT : bootBuiltins y = some (.type T)) (hn : y ≠ "__name__" := by decide) (hdb : (y == ("__debug__" : Str)) = false := by decide) (hp : plainArg a = true := by rfl) (hvI : bootBuiltins "isinstance" = some (.builtin "isinstance") := by decide +kernel) :
    Ok .E C Γ (.Call (.Name "isinstance" p) [a, .Name y p2] [] pos) (bnd ma fun x => lift (isiD T x)) := .mk fun X hX W σ Z H st d st' Q r hm' q => by
  obtain ⟨x, st1, h1, hm1⟩ := bnd_some hm'
  obtain ⟨hg', rfl⟩ := lift_some hm1
  obtain ⟨n, hn', hb'⟩ := Option.bind_eq_some_iff.mp hg'
  obtain ⟨b, hk, rfl⟩ := Option.map_eq_some_iff.mp hb'
  refine tU_of (pe_callB call_isi (hX.glob hg) (hX.none hm) hvI (pa_cons peU (pa_cons (pe_bltn (v := .ty T) (hX.glob hgT) (hX.none hmT) hvT rfl hn hdb) pa_nil) (starEach_plain _ hp)) (by decide) (by decide) (starEach_plain _ hp)) ?_
  refine ha X hX W σ Z H st x _ _ r h1 fun v Z1 H1 s1 b1 r1 => ?_
  exact ⟨v, .ty T, .type n, .type T, b, rfl, .ty T, tyX_of s1.sub r1.1 hn', kit_ty hk, q _ Z1 H1 s1 b1 (.bl b)⟩
end
end Sn

namespace Sn
open PySem PySem.Spec PyProof.Rows L2

/-! ### subscripts, slices -/
theorem atI_rep {K : PySem.W.Frag} {β : Addr} {Z : Hp} {ds : List D} {vs : List V} {i : Int} {d : D} (r : RepL K β Z ds vs) (h : atI ds i = some d) : ∃ v, atI vs i = some v ∧ Rep K β Z d v := by
  unfold atI at h ⊢
  rw [← r.length]
  cases e : ixN ds.length i with
  | none => rw [e] at h; cases h
  | some j =>
    rw [e] at h
    obtain ⟨v, h1, h2⟩ := r.get (show ds[j]? = some d from h)
    exact ⟨v, h1, h2⟩
def ixD (d k : D) : Option D :=
  match d, k with
  | .tup xs, .int i => atI xs i
  | .lst xs, .int i => atI xs i
  | .str z, .int i => if z.length ≤ sizeLine then (atI z.cps.toList i).map fun c => .str ⟨#[c]⟩ else none
  | _, _ => none
def cutL {α : Type} (xs : List α) (lo hi : Option Int) : List α := (xs.drop (HT.sIx xs.length 0 lo)).take (HT.sIx xs.length xs.length hi - HT.sIx xs.length 0 lo)
theorem cutL_rep {K : PySem.W.Frag} {β : Addr} {Z : Hp} {ds : List D} {vs : List V} (r : RepL K β Z ds vs) (lo hi : Option Int) : RepL K β Z (cutL ds lo hi) (cutV vs lo hi) := by
  unfold cutL cutV
  rw [r.length]
  exact (r.drop _).take _
def slD (d : D) (lo hi : Option Int) : Option D :=
  match d with
  | .tup xs => some (.tup (cutL xs lo hi))
  | .lst xs => some (.lst (cutL xs lo hi))
  | _ => none
section
variable {S : Type} [BoxS S] {C : Stat} {Γ : SCx} {e a b : Expr} {es : List Expr} {m ma mb : M S D} {md : Md} {pos p p2 : Pos} {x : Str}
theorem Ok.ix (ha : Ok .V C Γ a ma) (hb : Ok .V C Γ b mb) (hs : PlainIx b := by exact fun _ _ => rfl) : Ok .E C Γ (.Subscript a b pos) (bnd ma fun x => bnd mb fun y => lift (ixD x y)) := .mk fun X hX W σ Z H st d st' Q r hm q => by
  obtain ⟨x, st1, h1, hm1⟩ := bnd_some hm
  obtain ⟨y, st2, h2, hm2⟩ := bnd_some hm1
  obtain ⟨hg, rfl⟩ := lift_some hm2
  have hr := ((ix_list (X := X)).or ix_tup).or ix_str
  refine tU_of (pe_ix hr peU peU hs) (Ok.two ha hb hX r h1 h2 fun vx vy Z2 H2 s2 b2 r1 r2 => ?_)
  cases y with
  | int i =>
    cases r2.1
    cases x with
    | tup xs =>
      cases r1.1 with | tup hq l =>
        obtain ⟨v, e1, e2⟩ := atI_rep l (show atI xs i = some d from hg)
        exact .inl (.inr ⟨_, _, i, v, rfl, rfl, s2.sub.sqT hq, e1, q v Z2 H2 s2 b2 e2⟩)
    | lst xs =>
      obtain ⟨a, vs, rfl, hq, l⟩ := r1.1
      obtain ⟨v, e1, e2⟩ := atI_rep l (show atI xs i = some d from hg)
      exact .inl (.inl ⟨a, vs, i, v, rfl, rfl, .inl (.inl hq), e1, q v Z2 H2 s2 b2 e2⟩)
    | str z =>
      have hg' : (if z.length ≤ sizeLine then (atI z.cps.toList i).map fun c => D.str ⟨#[c]⟩ else none) = some d := hg
      split at hg'
      · obtain ⟨c, e1, rfl⟩ := Option.map_eq_some_iff.mp hg'
        cases r1.1
        exact .inr ⟨z, i, c, rfl, rfl, by assumption, e1, q _ Z2 H2 s2 b2 (.str _)⟩
      · cases hg'
    | _ => cases hg
  | _ => cases x <;> cases hg
def OkOD {S : Type} [BoxS S] (C : Stat) (Γ : SCx) (oe : Option Expr) (m : M S (Option Int)) : Prop :=
  ∀ X, CtxP C X → ∀ (W : Wd) (σ : L2.St) (Z H : Hp) (st : S) (d : Option Int) (st' : S) (Q : Option Int → Hp → Prop), SR X.K W Γ σ Z H st → m st = some (d, st') →
    (∀ Z' H', Stp W Z H Z' H' → BoxS.R st' W.β W.γ H' → Q d H') → ∃ t, PO X oe t ∧ t σ H Q
structure OkO {S : Type} [BoxS S] (C : Stat) (Γ : SCx) (oe : Option Expr) (m : M S (Option Int)) : Prop where
  mk ::
  run : OkOD C Γ oe m
instance {S : Type} [BoxS S] {C : Stat} {Γ : SCx} {oe : Option Expr} {m : M S (Option Int)} : CoeFun (OkO C Γ oe m) fun _ => OkOD C Γ oe m := ⟨OkO.run⟩
theorem OkO.none : OkO (S := S) C Γ none (ret none) := .mk fun X hX W σ Z H st d st' Q r hm q => by
  obtain ⟨rfl, rfl⟩ := ret_some hm
  exact ⟨_, po_none, q Z H r.refl r.box⟩
def asI {S : Type} : D → M S Int
  | .int i => ret i
  | _ => stuck
theorem asI_some {S : Type} {d : D} {s s' : S} {b : Int} (h : asI d s = some (b, s')) : d = .int b ∧ s' = s := by
  cases d with
  | int c => obtain ⟨rfl, rfl⟩ := ret_some h; exact ⟨rfl, rfl⟩
  | _ => exact (stuck_some (S := S) (α := Int) (s := s) h).elim
theorem OkO.some (ha : Ok .V C Γ a ma) : OkO C Γ (some a) (bnd (bnd ma asI) fun i => ret (some i)) := .mk fun X hX W σ Z H st d st' Q r hm q => by
  obtain ⟨i, st1, h1, hm1⟩ := bnd_some hm
  obtain ⟨x, st2, h2, h3⟩ := bnd_some h1
  obtain ⟨rfl, rfl⟩ := asI_some h3
  obtain ⟨rfl, rfl⟩ := ret_some hm1
  refine ⟨_, po_some peU, ha X hX W σ Z H st _ _ _ r h2 fun v Z1 H1 s1 b1 r1 => ?_⟩
  cases r1.1
  exact ⟨i, rfl, q Z1 H1 s1 b1⟩
theorem Ok.sl {lo hi : Option Expr} {ml mh : M S (Option Int)} (ha : Ok .V C Γ a ma) (hl : OkO C Γ lo ml) (hh : OkO C Γ hi mh) : Ok .N C Γ (.Subscript a (.Slice lo hi none p2) pos) (bnd ma fun x => bnd ml fun i => bnd mh fun j => lift (slD x i j)) := .mk fun X hX W σ Z H st d st' Q r hm q => by
  obtain ⟨x, st1, h1, hm1⟩ := bnd_some hm
  obtain ⟨i, st2, h2, hm2⟩ := bnd_some hm1
  obtain ⟨j, st3, h3, hm3⟩ := bnd_some hm2
  obtain ⟨hg, rfl⟩ := lift_some hm3
  have hr := (sl_tupA (X := X)).or sl_list
  -- the parts' readings, for any end
  let tl : TO := fun σ H Q => ∀ (pins : List (Addr × Obj)) (s : Shared), Inv X pins σ H s → wpAny (model X.prog X.w) X.A (evalPart lo X.env) (fun u s' => ∃ o H', Inv X pins σ H' s' ∧ IsPart u o ∧ Q o H') X.xe s
  let th : TO := fun σ H Q => ∀ (pins : List (Addr × Obj)) (s : Shared), Inv X pins σ H s → wpAny (model X.prog X.w) X.A (evalPart hi X.env) (fun u s' => ∃ o H', Inv X pins σ H' s' ∧ IsPart u o ∧ Q o H') X.xe s
  have pl : PO X lo tl := ⟨fun pins s σ H Q I h => h pins s I⟩
  have ph : PO X hi th := ⟨fun pins s σ H Q I h => h pins s I⟩
  refine tU_of (pe_slice hr peU pl ph) ?_
  refine ha X hX W σ Z H st x st1 _ r h1 fun vx Z1 H1 s1 b1 r1 => ?_
  intro pins1 sh1 I1
  obtain ⟨t1, p1, q1⟩ := hl X hX W σ Z1 H1 st1 i st2 (fun o H2 => th σ H2 fun o2 H3 => (rSlA X.K vx o o2 H3 Q ∨ rSlL X.K vx o o2 H3 Q)) (r.step s1 b1) h2 fun Z2 H2 s2 b2 => by
    intro pins2 sh2 I2
    obtain ⟨t2, p2, q2⟩ := hh X hX W σ Z2 H2 st2 j _ (fun o2 H3 => (rSlA X.K vx i o2 H3 Q ∨ rSlL X.K vx i o2 H3 Q)) ((r.step s1 b1).step s2 b2) h3 fun Z3 H3 s3 b3 => by
      have s13 := (s1.trans s2).trans s3
      have r3 : Res X.K W .V H Z3 H3 x vx := (r1.stp s2).stp s3
      have q' : ∀ v Z' H', Stp W Z3 H3 Z' H' → BoxS.R _ W.β W.γ H' → Res X.K W .N H3 Z' H' d v → Q v H' := fun v Z' H' s' b' r' => q v Z' H' (s13.trans s') b' (r'.back r.box b3 s13)
      cases x with
      | tup xs =>
        cases hg
        cases r3.1 with | tup hq l =>
          refine .inl ⟨_, _, rfl, s13.sub.sqT hq, fun hw => ?_, fun hw p hp => fin_tup s13.zh b3 hp (cutL_rep l i j) (Nat.le_trans (cutV_length _ _ _) ((s13.sz r.sz).tup (s13.sub.tupAt hq))) q'⟩
          refine fin_plain s13.zh b3 (.tup hq ?_) rfl q'
          have e : cutL xs i j = xs := by
            unfold cutL
            rw [← l.length] at hw
            rw [hw.1, hw.2]; simp
          rw [e]; exact l
      | lst xs =>
        cases hg
        obtain ⟨a, vs, rfl, hq, l⟩ := r3.1
        exact .inr ⟨a, vs, rfl, .inl (.inl hq), fun p hp => fin_lst s13.zh b3 hp (cutL_rep l i j) (Nat.le_trans (cutV_length _ _ _) ((s13.sz r.sz).lst hq)) q'⟩
      | _ => cases hg
    exact p2.run pins2 sh2 σ H2 _ I2 q2
  exact p1.run pins1 sh1 σ H1 _ I1 q1
end

/-! ### what is walked -/
def iterD : D → Option (List D)
  | .tup xs => some xs
  | .lst xs => some xs
  | _ => none
def iterM {S : Type} (d : D) : M S (List D) := fun s => (iterD d).map fun xs => (xs, s)
theorem iterM_some {S : Type} {d : D} {s s' : S} {xs : List D} (h : iterM d s = some (xs, s')) : iterD d = some xs ∧ s' = s := by
  unfold iterM at h
  cases e : iterD d with
  | none => rw [e] at h; cases h
  | some x => rw [e] at h; simp only [Option.map_some, Option.some.injEq, Prod.mk.injEq] at h; exact ⟨by rw [h.1], h.2.symm⟩
section
variable {S : Type} [BoxS S] {C : Stat} {Γ : SCx} {e a b tg : Expr} {es : List Expr} {m ma mb : M S D} {md : Md} {pos p p2 : Pos} {x : Str}
theorem yld_lst {X : Cx} {W : Wd} {Z H : Hp} {a : Addr} {vs : List V} {ds : List D} (nb : ¬ W.bx a) (h : H a = some (.lst vs)) (l : RepL X.K W.β Z ds vs) : Yld X.K W (Itl X.K a) ds (fun b => b = a) Z H := by
  refine ⟨fun b e => by subst e; exact ⟨⟨_, h⟩, nb⟩, fun i Z2 H2 st sz zh ka _ bx => ⟨fun hi => ?_, fun d hd => ?_⟩⟩
  · exact ⟨vs, .inl (.inl (ka a _ rfl h)), by rw [← l.length]; exact hi⟩
  · obtain ⟨v, h1, h2⟩ := l.get hd
    refine ⟨⟨vs, v, .inl (.inl (ka a _ rfl h)), h1⟩, fun x H3 y => ?_⟩
    obtain ⟨rfl, y⟩ := y
    have e := y vs (.inl (.inl (ka a _ rfl h)))
    rw [h1] at e; cases e
    exact ⟨Z2, Stp.refl zh, bx, h2.mono sz⟩
theorem yld_tup {X : Cx} {W : Wd} {Z H : Hp} {a : Addr} {vs : List V} {ds : List D} (h : TupAt X.K Z a vs) (l : RepL X.K W.β Z ds vs) : Yld X.K W (Itt X.K a) ds (fun _ => False) Z H := by
  refine ⟨fun b e => e.elim, fun i Z2 H2 st sz zh ka _ bx => ?_⟩
  have h2 : SqT X.K H2 a vs := (subOf zh).sqT (sz.tupAt h)
  refine ⟨fun hi => ⟨vs, h2, by rw [← l.length]; exact hi⟩, fun d hd => ?_⟩
  obtain ⟨v, h1, hr⟩ := l.get hd
  refine ⟨⟨vs, v, h2, h1⟩, fun x H3 y => ?_⟩
  obtain ⟨rfl, y⟩ := y
  have e := y vs h2
  rw [h1] at e; cases e
  exact ⟨Z2, Stp.refl zh, bx, hr.mono sz⟩
theorem OkI.val {bb : Bool} (ha : Ok md C Γ a ma) (hmd : md = .V → bb = false) : OkI bb C Γ tg a (bnd ma iterM) := .mk fun X hX W σ Z H st xs st' R r hm q => by
  obtain ⟨d, st1, h1, hm1⟩ := bnd_some hm
  obtain ⟨hi, rfl⟩ := iterM_some hm1
  cases d with
  | tup ds =>
    cases hi
    refine tUI_of (pi_tup peU) (ha X hX W σ Z H st _ _ _ r h1 fun v Z1 H1 s1 b1 r1 => ?_)
    have r2 := r1.view s1.zh
    cases r2.1 with | tup hq l =>
      exact ⟨_, rfl, ⟨_, s1.sub.sqT hq⟩, q _ _ Z1 H1 s1 b1 (yld_tup hq l) fun _ _ h => h.elim⟩
  | lst ds =>
    cases hi
    refine tUI_of (pi_list peU) (ha X hX W σ Z H st _ _ _ r h1 fun v Z1 H1 s1 b1 r1 => ?_)
    have r2 := r1.view s1.zh
    obtain ⟨p, vs, rfl, hq, l⟩ := r2.1
    refine ⟨p, rfl, ⟨vs, .inl (.inl hq)⟩, q _ _ Z1 H1 s1 b1 (yld_lst (r2.2 p rfl rfl) hq l) fun hb a ea => ?_⟩
    subst ea
    cases md with
    | V => rw [hmd rfl] at hb; cases hb
    | E =>
      cases r1 with | lst hz _ =>
        refine ⟨fun ho => ?_, .inl (by rw [hz]; exact fun e => nomatch e)⟩
        obtain ⟨i, d', g1, g2⟩ := ho
        obtain ⟨b', e', zb, _, _, _⟩ := (r.step s1 b1).own i d' g1
        rw [g2] at e'; cases e'
        rw [zb] at hz; cases hz
    | N =>
      obtain ⟨f1, _, _⟩ := r1.2 a rfl rfl
      refine ⟨fun ho => ?_, .inr f1⟩
      obtain ⟨o, ho'⟩ := r.ownThere ho
      rw [f1] at ho'; cases ho'
  | _ => cases hi
def rng (lo hi : Int) : List D := (List.range (hi - lo).toNat).map fun k : Nat => .int (lo + (k : Int))
theorem yld_rng {K : PySem.W.Frag} {W : Wd} {Z H : Hp} {lo hi : Int} : Yld K W (Itr lo (hi - lo).toNat) (rng lo hi) (fun _ => False) Z H := by
  refine ⟨fun b e => e.elim, fun i Z2 H2 st sz zh ka _ bx => ⟨fun h => ?_, fun d hd => ?_⟩⟩
  · unfold rng at h
    rw [List.length_map, List.length_range] at h
    exact h
  · unfold rng at hd
    rw [List.getElem?_map] at hd
    by_cases hlt : i < (hi - lo).toNat
    · rw [List.getElem?_range hlt] at hd
      cases hd
      refine ⟨hlt, fun x H3 y => ?_⟩
      obtain ⟨rfl, rfl⟩ := y
      exact ⟨Z2, Stp.refl zh, bx, .int _⟩
    · rw [List.getElem?_eq_none (by simpa using hlt)] at hd; cases hd
/-- range(..) -/
def rngM {S : Type} : List D → M S (List D)
  | [.int j] => if -(2 ^ 62) ≤ j ∧ j < 2 ^ 62 then ret (rng 0 j) else stuck
  | [.int i, .int j] => if -(2 ^ 62) ≤ i ∧ i < 2 ^ 62 ∧ -(2 ^ 62) ≤ j ∧ j < 2 ^ 62 then ret (rng i j) else stuck
  | _ => stuck
theorem OkI.range1 {bb : Bool} (ha : Ok .V C Γ a ma) (hg : C.sc.names.lookup ("range" : Str) = some .globalImplicit) (hm : C.G.mg "range" = none) (hp : plainArg a = true := by rfl) : OkI bb C Γ tg (.Call (.Name "range" p) [a] [] pos) (bnd ma fun x => rngM [x]) := .mk fun X hX W σ Z H st xs st' R r hm' q => by
  obtain ⟨d, st1, h1, hm1⟩ := bnd_some hm'
  cases d with
  | int j =>
    have hm2 : (if -(2 ^ 62) ≤ j ∧ j < 2 ^ 62 then ret (rng 0 j) else stuck : M S (List D)) st1 = some (xs, st') := hm1
    split at hm2
    · rename_i hc
      obtain ⟨rfl, rfl⟩ := ret_some hm2
      refine tUI_of (pi_range1 (hX.glob hg) (hX.none hm) (pa_cons peU pa_nil (starEach_plain _ hp)) (starEach_plain _ hp)) (ha X hX W σ Z H st _ _ _ r h1 fun v Z1 H1 s1 b1 r1 => ?_)
      cases r1.1
      refine ⟨j, rfl, hc.1, hc.2, ?_⟩
      have y := yld_rng (K := X.K) (W := W) (Z := Z1) (H := H1) (lo := 0) (hi := j)
      rw [show (j - 0).toNat = j.toNat by rw [Int.sub_zero]] at y
      exact q _ _ Z1 H1 s1 b1 y fun _ _ h => h.elim
    · exact (stuck_some hm2).elim
  | _ => exact (stuck_some (S := S) (α := List D) (s := st1) hm1).elim
theorem OkI.range2 {bb : Bool} (ha : Ok .V C Γ a ma) (hb : Ok .V C Γ b mb) (hg : C.sc.names.lookup ("range" : Str) = some .globalImplicit) (hm : C.G.mg "range" = none) (hp : plainArg a = true := by rfl) (hp2 : plainArg b = true := by rfl) :
    OkI bb C Γ tg (.Call (.Name "range" p) [a, b] [] pos) (bnd ma fun x => bnd mb fun y => rngM [x, y]) := .mk fun X hX W σ Z H st xs st' R r hm' q => by
  obtain ⟨d, st1, h1, hm1⟩ := bnd_some hm'
  obtain ⟨d2, st2, h2, hm2⟩ := bnd_some hm1
  cases d with
  | int i => cases d2 with
    | int j =>
      have hm3 : (if -(2 ^ 62) ≤ i ∧ i < 2 ^ 62 ∧ -(2 ^ 62) ≤ j ∧ j < 2 ^ 62 then ret (rng i j) else stuck : M S (List D)) st2 = some (xs, st') := hm2
      split at hm3
      · rename_i hc
        obtain ⟨rfl, rfl⟩ := ret_some hm3
        refine tUI_of (pi_range2 (hX.glob hg) (hX.none hm) (pa_cons peU (pa_cons peU pa_nil (starEach_plain _ hp2)) (starEach_plain _ hp)) (by rw [starEach_plain _ hp, starEach_plain _ hp2]; rfl) (by rw [starEach_plain _ hp2]; rfl)) ?_
        refine Ok.two ha hb hX r h1 h2 fun vx vy Z2 H2 s2 b2 r1 r2 => ?_
        cases r1.1
        cases r2.1
        exact ⟨i, j, rfl, hc, q _ _ Z2 H2 s2 b2 yld_rng fun _ _ h => h.elim⟩
      · exact (stuck_some hm3).elim
    | _ => exact (stuck_some (S := S) (α := List D) (s := st2) hm2).elim
  | _ => exact (stuck_some (S := S) (α := List D) (s := st2) hm2).elim
end

/-! ### own lists change -/
set_option maxHeartbeats 4000000 in
theorem list_extend_tup (l : Addr) (items : Array Value) (n : Nat) (b : Addr) (items2 : Array Value) (n2 : Nat) (dd : Option Addr) (sl : Array (Option Value)) (hs0 : ¬(!items.isEmpty && Builtin.List.listTooLong (items.size + items2.size)) = true) (hs1 : items.size ≤ sizeLine) (hs2 : items.size + items2.size ≤ sizeLine + 1) :
    Meets (Builtin.«list.extend» ⟨[.ref l, .ref b], []⟩) (fun _ R s => s.heap.get? l = some { cls := .type "list", dict := none, data := .seq items n, slots := #[] } ∧ s.heap.get? b = some { cls := .type "tuple", dict := dd, data := .seq items2 n2, slots := sl } ∧ R (.ok (.ret Value.none)) { s with heap := s.heap.update l (Obj.mapSeq fun x => x ++ items2), toks := s.toks }) :=
  .of_wp fun prog w A R s h => by
    obtain ⟨hp, g, d, tk, os⟩ := s; obtain ⟨hl, hb, h⟩ := h; have f4 := AutoSeq1.sub_tuple_list; have f3 := AutoSeq1.sub_list_list
    have hz' : (items ++ items2).size ≤ sizeLine + 1 := by rw [Array.size_append]; exact hs2
    wp_walk using (wpAny_updateSeq hl rfl (hz := hs1) (_hz' := hz')), AutoSeq1.wpAny_loadPart' hl, AutoSeq1.wpAny_loadPart' hb; exact ⟨_, rfl, h⟩
def rExt3 (K : PySem.W.Frag) : V → List V → Hp → VK → Prop := fun x vs H Q => ∃ l b xs zs, x = .ref l ∧ vs = [.ref b] ∧ H l = some (.lst xs) ∧ (H b = some (.lst zs) ∨ SqT K H b zs) ∧ xs.length + zs.length ≤ sizeLine ∧ Q .non (upd H l (.lst (xs ++ zs)))
theorem mt_extend3 {X : Cx} : MtM X "list.extend" (rExt3 X.K) := by
  intro pins s σ H x vs v us Q I rx rv h
  obtain ⟨l, b, xs, zs, rfl, rfl, hH, hB, hz, q⟩ := h
  rcases hB with hB | hB
  · exact mt_extend pins s σ H _ _ v us Q I rx rv ⟨l, b, xs, zs, rfl, rfl, hH, hB, hz, q⟩
  · cases rx; obtain ⟨u, rfl, ru⟩ := rv.one; cases ru
    obtain ⟨z, its, n, r, hl, e⟩ := I.lstM hH
    obtain ⟨its2, r2, ⟨⟨cls, dd, data, sl⟩, ho, hc, n2, hd⟩, hs⟩ := I.tuple hB
    simp only at hc hd; subst hc hd
    have hl2 := r2.length
    have hsz : its.toArray.size + its2.toArray.size ≤ sizeLine := by rw [List.size_toArray, List.size_toArray]; omega
    have hlong : ¬ (!its.toArray.isEmpty && Builtin.List.listTooLong (its.toArray.size + its2.toArray.size)) = true := by rw [notLongL hsz, Bool.and_false]; exact Bool.false_ne_true
    refine call_meets F.slot_list_extend ⟨_, e, rfl⟩ F.entry_list_extend (F.args_list_extend_2 _ _) (list_extend_tup l its.toArray n b its2.toArray n2 dd sl hlong (by rw [List.size_toArray]; omega) (by omega)) ⟨e, ho, .non, _, I.lset (its' := its ++ its2) hH e (by simp) (r.append r2) (by rw [List.length_append]; omega), rfl, q⟩
section
variable {S : Type} [BoxS S] {C : Stat} {Γ : SCx} {e a b c : Expr} {rest : List Stmt} {m me : M S D} {pos p ap cp : Pos} {τ l : Type} {T : Tg τ l} {i : Nat} {x : Str} {d : D}
/-- behind a change of the own object at slot i -/
theorem bst_mut {X : Cx} {W : Wd} {σ : L2.St} {Z H : Hp} {st : S} {p : Addr} {o : HO} (r : SR X.K W Γ σ Z H st) (h0 : Γ[i]? = some (some (.own d))) (hp : σ[i]? = some (some (.ref p))) (so : SzO o) : BSt W Γ σ Z H Z (upd H p o) :=
  ⟨Sub.refl _, fun a u h _ no => by
    have hne : a ≠ p := fun e => no ⟨i, d, h0, by rw [e]; exact hp⟩
    rw [upd_ne hne]; exact h, fun _ _ h => .inl h, fun h => h.upd so⟩
def appD (d y : D) : Option D :=
  match d with
  | .lst xs => if xs.length < sizeLine then some (.lst (xs ++ [y])) else none
  | _ => none
theorem OkB.app {k : D → M S (Fl τ l)} (hN : C.N[i]? = some x) (hv : Vis C.sc x) (h0 : Γ[i]? = some (some (.own d))) (he : Ok .E C Γ e me) (hb : ∀ d', OkB C (Γ.set i (some (.own d'))) rest T (k d'))
    (hp : plainArg e = true := by rfl) (hd : (x == ("__debug__" : Str)) = false := by decide) (hcd : (x == ("__classdict__" : Str)) = false := by decide) (hline : (ap.endLine == cp.line) = true := by rfl)
    (hs : ∀ env : Env, swapsWith (.Call (.Attribute (.Name x p) "append" ap) [e] [] cp) none pos.line env = pure false := by intro _; rfl) :
    OkB C Γ (.Expr (.Call (.Attribute (.Name x p) "append" ap) [e] [] cp) pos :: rest) T (bnd me fun y => bnd (lift (appD d y)) k) := .mk fun X hX W σ Z H st f st' D r hm q => by
  obtain ⟨y, st1, h1, hm1⟩ := bnd_some hm
  obtain ⟨d', st2, h2, hm2⟩ := bnd_some hm1
  obtain ⟨hg, rfl⟩ := lift_some h2
  cases d with
  | lst xs =>
    have hg' : (if xs.length < sizeLine then some (Sn.D.lst (xs ++ [y])) else none) = some d' := hg
    split at hg'
    · rename_i hl
      cases hg'
      refine tUS_of (pss_cons (ps_expr (pe_bm PySem.F.plainAttrs_list PySem.F.slot_list_append PySem.F.type_list_append mt_append (pe_var (i := i) (by rw [hX.N]; exact hN) (by rw [hX.sc]; exact hv) hd hcd) (pa_cons peU pa_nil (starEach_plain _ hp)) rfl (by rw [starEach_plain _ hp]; rfl) hline (starEach_plain _ hp)) (hs _)) pssU) ?_
      obtain ⟨pa, ep, z, nb, mu, a', vs, ea, hq, lr⟩ := r.own i _ h0
      cases ea
      refine ⟨_, ep, .inl ⟨rfl, _, .inl (.inl hq)⟩, ?_⟩
      refine he X hX W σ Z H st y _ _ r h1 fun v Z1 H1 s1 b1 r1 => ?_
      have rr := r.step s1 b1
      have hq1 := s1.hh _ _ hq nb
      have ll := lr.length
      refine ⟨pa, vs, v, rfl, rfl, hq1, by omega, ?_⟩
      have so : SzO (.lst (vs ++ [v])) := by
        show (vs ++ [v]).length ≤ sizeLine
        rw [List.length_append, List.length_singleton]; omega
      refine hb _ X hX W σ Z1 (upd H1 pa (.lst (vs ++ [v]))) _ f st' D (rr.mut (d' := Sn.D.lst (xs ++ [y])) h0 ep rfl ⟨pa, _, rfl, upd_same, (lr.mono s1.zz).append (.cons r1 .nil)⟩ so) hm2 ?_
      exact (q.after s1.bst OwLe.refl (Γ1 := Γ) (σ1 := σ)).after (bst_mut rr h0 ep so) fun a h => .inl (own_mut h0 h)
    · cases hg'
  | _ => cases hg
def extD (d y : D) : Option D :=
  match d, y with
  | .lst xs, .lst ys => if xs.length + ys.length ≤ sizeLine then some (.lst (xs ++ ys)) else none
  | .lst xs, .tup ys => if xs.length + ys.length ≤ sizeLine then some (.lst (xs ++ ys)) else none
  | _, _ => none
theorem extD_some {d y d' : D} (h : extD d y = some d') : ∃ xs ys, d = .lst xs ∧ (y = .lst ys ∨ y = .tup ys) ∧ xs.length + ys.length ≤ sizeLine ∧ d' = .lst (xs ++ ys) := by
  cases d with
  | lst xs => cases y with
    | lst ys =>
      have h' : (if xs.length + ys.length ≤ sizeLine then some (Sn.D.lst (xs ++ ys)) else none) = some d' := h
      split at h'
      · cases h'; exact ⟨xs, ys, rfl, .inl rfl, by assumption, rfl⟩
      · cases h'
    | tup ys =>
      have h' : (if xs.length + ys.length ≤ sizeLine then some (Sn.D.lst (xs ++ ys)) else none) = some d' := h
      split at h'
      · cases h'; exact ⟨xs, ys, rfl, .inr rfl, by assumption, rfl⟩
      · cases h'
    | _ => cases h
  | _ => cases h
theorem OkB.ext {k : D → M S (Fl τ l)} (hN : C.N[i]? = some x) (hv : Vis C.sc x) (h0 : Γ[i]? = some (some (.own d))) (he : Ok .V C Γ e me) (hb : ∀ d', OkB C (Γ.set i (some (.own d'))) rest T (k d'))
    (hp : plainArg e = true := by rfl) (hd : (x == ("__debug__" : Str)) = false := by decide) (hcd : (x == ("__classdict__" : Str)) = false := by decide) (hline : (ap.endLine == cp.line) = true := by rfl)
    (hs : ∀ env : Env, swapsWith (.Call (.Attribute (.Name x p) "extend" ap) [e] [] cp) none pos.line env = pure false := by intro _; rfl) :
    OkB C Γ (.Expr (.Call (.Attribute (.Name x p) "extend" ap) [e] [] cp) pos :: rest) T (bnd me fun y => bnd (lift (extD d y)) k) := .mk fun X hX W σ Z H st f st' D r hm q => by
  obtain ⟨y, st1, h1, hm1⟩ := bnd_some hm
  obtain ⟨d', st2, h2, hm2⟩ := bnd_some hm1
  obtain ⟨hg, rfl⟩ := lift_some h2
  obtain ⟨xs, ys, rfl, hy, hl, rfl⟩ := extD_some hg
  refine tUS_of (pss_cons (ps_expr (pe_bm PySem.F.plainAttrs_list PySem.F.slot_list_extend PySem.F.type_list_extend mt_extend3 (pe_var (i := i) (by rw [hX.N]; exact hN) (by rw [hX.sc]; exact hv) hd hcd) (pa_cons peU pa_nil (starEach_plain _ hp)) rfl (by rw [starEach_plain _ hp]; rfl) hline (starEach_plain _ hp)) (hs _)) pssU) ?_
  obtain ⟨pa, ep, z, nb, mu, a', vs, ea, hq, lr⟩ := r.own i _ h0
  cases ea
  refine ⟨_, ep, .inl ⟨rfl, _, .inl (.inl hq)⟩, ?_⟩
  refine he X hX W σ Z H st _ _ _ r h1 fun v Z1 H1 s1 b1 r1 => ?_
  have rr := r.step s1 b1
  have hq1 := s1.hh _ _ hq nb
  have ll := lr.length
  have hb2 : ∃ pb us, v = .ref pb ∧ (H1 pb = some (.lst us) ∨ SqT X.K H1 pb us) ∧ RepL X.K W.β Z1 ys us := by
    rcases hy with rfl | rfl
    · obtain ⟨pb, us, rfl, hqb, lb⟩ := r1.1
      exact ⟨pb, us, rfl, .inl hqb, lb⟩
    · cases r1.1 with | tup hqb lb => exact ⟨_, _, rfl, .inr (s1.sub.sqT hqb), lb⟩
  obtain ⟨pb, us, rfl, hqb, lb⟩ := hb2
  have lb' := lb.length
  refine ⟨pa, pb, vs, us, rfl, rfl, hq1, hqb, by omega, ?_⟩
  have so : SzO (.lst (vs ++ us)) := by
    show (vs ++ us).length ≤ sizeLine
    rw [List.length_append]; omega
  refine hb _ X hX W σ Z1 (upd H1 pa (.lst (vs ++ us))) _ f st' D (rr.mut (d' := Sn.D.lst (xs ++ ys)) h0 ep rfl ⟨pa, _, rfl, upd_same, (lr.mono s1.zz).append lb⟩ so) hm2 ?_
  exact (q.after s1.bst OwLe.refl (Γ1 := Γ) (σ1 := σ)).after (bst_mut rr h0 ep so) fun a h => .inl (own_mut h0 h)
/-- x[k] = e -/
def setD (d k y : D) : Option D :=
  match d, k with
  | .lst xs, .int i => (ixN xs.length i).map fun j => .lst (xs.set j y)
  | _, _ => none
theorem OkB.setIx {mk : M S D} {k : D → M S (Fl τ l)} {pp : Pos} (hN : C.N[i]? = some x) (hv : Vis C.sc x) (h0 : Γ[i]? = some (some (.own d))) (he : Ok .E C Γ e me) (hk : Ok .V C Γ b mk) (hb : ∀ d', OkB C (Γ.set i (some (.own d'))) rest T (k d'))
    (hd : (x == ("__debug__" : Str)) = false := by decide) (hcd : (x == ("__classdict__" : Str)) = false := by decide)
    (hs : ∀ env : Env, swapsWithSole [.Subscript (.Name x p) b pp] e pos.line env = pure false := by intro _; rfl) (hw : ∀ env : Env, swappedStores [.Subscript (.Name x p) b pp] e env = pure none := by intro _; rfl)
    (ha : ∀ (env : Env) v, assign (.Subscript (.Name x p) b pp) env v = (do
      let ov ← holding [v] (eval (.Name x p) env)
      let iv ← holding [v, ov] (eval b env)
      standAt pp
      holding [v, ov, iv] (setItem ov iv v)
      release [v, ov, iv] []) := by intro _ _; rfl) :
    OkB C Γ (.Assign [.Subscript (.Name x p) b pp] e pos :: rest) T (bnd me fun y => bnd mk fun j => bnd (lift (setD d j y)) k) := .mk fun X hX W σ Z H st f st' D r hm q => by
  obtain ⟨y, st1, h1, hm1⟩ := bnd_some hm
  obtain ⟨j, st2, h2, hm2⟩ := bnd_some hm1
  obtain ⟨d', st3, h3, hm3⟩ := bnd_some hm2
  obtain ⟨hg, rfl⟩ := lift_some h3
  cases d with
  | lst xs => cases j with
    | int ii =>
      obtain ⟨jj, ej, rfl⟩ := Option.map_eq_some_iff.mp hg
      refine tUS_of (pss_cons (ps_asg peU (pg_sub (pe_var (i := i) (by rw [hX.N]; exact hN) (by rw [hX.sc]; exact hv) hd hcd) peU set_list (ha _)) (hs _) (hw _)) pssU) ?_
      refine he X hX W σ Z H st y _ _ r h1 fun v Z1 H1 s1 b1 r1 => ?_
      have rr := r.step s1 b1
      obtain ⟨pa, ep, z, nb, mu, a', vs, ea, hq, lr⟩ := rr.own i _ h0
      cases ea
      refine ⟨_, ep, ?_⟩
      refine hk X hX W σ Z1 H1 st1 _ _ _ rr h2 fun vj Z2 H2 s2 b2 r2 => ?_
      cases r2.1
      have rr2 := rr.step s2 b2
      have hq1 := s2.hh _ _ hq nb
      have ll := lr.length
      refine ⟨pa, vs, ii, jj, rfl, rfl, hq1, by rw [← ll]; exact ej, ?_⟩
      have so : SzO (.lst (vs.set jj v)) := by
        show (vs.set jj v).length ≤ sizeLine
        rw [List.length_set]; exact rr2.sz.lst hq1
      refine hb _ X hX W σ Z2 (upd H2 pa (.lst (vs.set jj v))) _ f st' D (rr2.mut (d' := Sn.D.lst (xs.set jj y)) h0 ep rfl ⟨pa, _, rfl, upd_same, (lr.mono s2.zz).set jj (q := r1.mono s2.zz)⟩ so) hm3 ?_
      exact (q.after (s1.trans s2).bst OwLe.refl (Γ1 := Γ) (σ1 := σ)).after (bst_mut rr2 h0 ep so) fun a h => .inl (own_mut h0 h)
    | _ => cases hg
  | _ => cases hg
/-- x, y = e, f: two local names on a line -/
theorem swapped_two {env : Env} {y : Str} {px py pt pt2 : Pos} {kt k2 : Nat} {u v : Expr} (hk : env.scope.kind = .function) (hx : env.scope.names.lookup x = some .local) (hy : env.scope.names.lookup y = some .local) (hl : (px.line == py.line) = true)
    (hu : plainArg u = true) (hv : plainArg v = true) (hne : (y == x) = false) (hf : [u, v].all (foldedForSure 8) = false) (hc : [u, v].all (constantsAlone 8) = false) :
    swappedStores [.Tuple [.Name x px, .Name y py] kt pt] (.Tuple [u, v] k2 pt2) env = pure (some [x, y]) := by
  have kx : env.kindOf x = some .local := hx
  have ky : env.kindOf y = some .local := hy
  have hb : env.blockKind = .function := by unfold Env.blockKind; rw [hk]; rfl
  have hl' : (py.line == px.line) = true := by rw [beq_iff_eq] at hl ⊢; exact hl.symm
  unfold swappedStores
  have s1 : ([u, v].any fun | .Starred .. => true | _ => false) = false := by
    cases u <;> first | (cases hu; done) | (cases v <;> first | (cases hv; done) | rfl)
  simp only [hb, List.length_cons, List.length_nil, s1, List.head?_cons, Option.map_some, Option.getD_some, Expr.pos, List.filterMap_cons, List.filterMap_nil, kx, ky, hl', hf, hc, beq_self_eq_true, Bool.and_self, if_true]
  have hd : ([x, y].eraseDups).length = 2 := by
    simp [List.eraseDups, List.eraseDupsBy, List.eraseDupsBy.loop, hne]
  rw [if_neg (by decide), if_neg (by
    intro h
    simp only [List.any_cons, List.any_nil, Bool.or_false, Bool.or_eq_true] at h
    rcases h with h | h
    · cases u <;> first | (cases h; done) | (cases hu; done)
    · cases v <;> first | (cases h; done) | (cases hv; done)), hd]
  rfl
/-- x, y = e, f, stored from the right; each kept for good, or an own list -/
def mdEn (md : Md) (d : D) : En := match md with
  | .N => .own d
  | _ => .frz d
def okMd (md : Md) (d : D) : Bool := match md with
  | .N => isMut d
  | _ => true
theorem OkB.par2 {u v : Expr} {mu mv : M S D} {mdu mdv : Md} {j : Nat} {y : Str} {px py pt pt2 : Pos} {kt k2 : Nat} {k : D → D → M S (Fl τ l)} (hN : C.N[i]? = some x) (hN2 : C.N[j]? = some y) (hij : i ≠ j) (hfk : C.sc.kind = .function)
    (hx : C.sc.names.lookup x = some .local) (hy : C.sc.names.lookup y = some .local) (hu : Ok mdu C Γ u mu) (hv : Ok mdv C Γ v mv) (eu : mdu = .E ∨ mdu = .N) (ev : mdv = .E ∨ mdv = .N)
    (hb : ∀ d e, OkB C ((Γ.set i (some (mdEn mdu d))).set j (some (mdEn mdv e))) rest T (k d e))
    (hl : (px.line == py.line) = true := by rfl) (pu : plainArg u = true := by rfl) (pv : plainArg v = true := by rfl) (hne : (y == x) = false := by decide) (hf : [u, v].all (foldedForSure 8) = false := by rfl) (hc : [u, v].all (constantsAlone 8) = false := by rfl)
    (hs : ∀ env : Env, swapsWithSole [.Tuple [.Name x px, .Name y py] kt pt] (.Tuple [u, v] k2 pt2) pos.line env = pure false := by intro _; rfl) :
    OkB C Γ (.Assign [.Tuple [.Name x px, .Name y py] kt pt] (.Tuple [u, v] k2 pt2) pos :: rest) T (bnd mu fun d => bnd mv fun e => if okMd mdu d = true ∧ okMd mdv e = true then k d e else stuck) := .mk fun X hX W σ Z H st f st' D r hm q => by
  obtain ⟨du, st1, h1, hm1⟩ := bnd_some hm
  obtain ⟨dv, st2, h2, hm2⟩ := bnd_some hm1
  split at hm2
  · rename_i hok
    refine tUS_of (pss_cons (ps_par hX.calm (i := i) (j := j) (by rw [hX.N]; exact hX.nd) (by rw [hX.N]; exact hN) (by rw [hX.N]; exact hN2) hij (by rw [hX.sc]; exact hx) (by rw [hX.sc]; exact hy) (pa_cons peU (pa_cons peU pa_nil (starEach_plain _ pv)) (starEach_plain _ pu))
      (swapped_two (by rw [hX.sc]; exact hfk) (by rw [hX.sc]; exact hx) (by rw [hX.sc]; exact hy) hl pu pv hne hf hc) (hs _)) pssU) ?_
    refine hu X hX W σ Z H st du st1 _ r h1 fun vx Z1 H1 s1 b1 r1' => ?_
    refine hv X hX W σ Z1 H1 st1 dv st2 _ (r.step s1 b1) h2 fun vy Z2 H2 s12 b2 r2' => ?_
    have s2 := s1.trans s12
    have r1 := r1'.stp s12
    have r2 := r2'.back r.box b1 s1
    refine ⟨vx, vy, rfl, ?_⟩
    have rr := r.step s2 b2
    have dj : ∀ {md : Md} {d : Sn.D} {w : V}, md = .E ∨ md = .N → okMd md d = true → Res X.K W md H Z2 H2 d w → (md = .E ∧ Rep X.K W.β Z2 d w) ∨ (md = .N ∧ ∃ p, w = .ref p ∧ isMut d = true ∧ Rep1 X.K W.β Z2 H2 d (.ref p) ∧ Z2 p = none ∧ ¬ W.bx p ∧ H p = none) := by
      intro md d w e ok rs
      rcases e with rfl | rfl
      · exact .inl ⟨rfl, rs⟩
      · refine .inr ⟨rfl, ?_⟩
        have mu : isMut d = true := ok
        obtain ⟨q4, q5⟩ := rs
        have hv : ∃ p, w = .ref p := by
          cases d with
          | lst ds => obtain ⟨b, vs, eb, _⟩ := q4; exact ⟨b, eb⟩
          | dct ds => obtain ⟨b, eb, _⟩ := q4; exact ⟨b, eb⟩
          | _ => cases mu
        obtain ⟨p, rfl⟩ := hv
        obtain ⟨f1, f2, f3⟩ := q5 p rfl mu
        exact ⟨p, rfl, mu, q4, f2, f3, f1⟩
    have noOld : ∀ p, H p = none → ¬ ownA Γ σ p := fun p f1 h => by
      obtain ⟨o, ho⟩ := r.ownThere h
      rw [f1] at ho; cases ho
    rcases dj eu hok.1 r1 with ⟨rfl, g1⟩ | ⟨rfl, p, rfl, mu1, g1, z1, n1, f1⟩
    · rcases dj ev hok.2 r2 with ⟨rfl, g2⟩ | ⟨rfl, p2, rfl, mu2, g2, z2, n2, f2⟩
      · exact hb du dv X hX W _ Z2 H2 st2 f st' D ((rr.setF g1).setF g2) hm2 (q.after s2.bst fun a h => .inl (own_setF (own_setF h)))
      · refine hb du dv X hX W _ Z2 H2 st2 f st' D ((rr.setF g1).setO mu2 g2 z2 n2 fun h => noOld _ f2 (own_setF h)) hm2 (q.after s2.bst fun a h => ?_)
        rcases own_setO h with h | rfl
        · exact .inl (own_setF h)
        · exact .inr f2
    · rcases dj ev hok.2 r2 with ⟨rfl, g2⟩ | ⟨rfl, p2, rfl, mu2, g2, z2, n2, f2⟩
      · refine hb du dv X hX W _ Z2 H2 st2 f st' D ((rr.setO mu1 g1 z1 n1 (noOld _ f1)).setF g2) hm2 (q.after s2.bst fun a h => ?_)
        rcases own_setO (own_setF h) with h | rfl
        · exact .inl h
        · exact .inr f1
      · -- two new lists: they stand apart
        have hp1 : ∃ o, H1 p = some o := by
          obtain ⟨q4, _⟩ := r1'
          cases du with
          | lst ds => obtain ⟨b, vs, eb, hb', _⟩ := q4; cases eb; exact ⟨_, hb'⟩
          | dct ds =>
            obtain ⟨b, eb, ⟨kvs, h, _⟩ | ⟨kvs, h, _⟩⟩ := q4
            · cases eb; exact ⟨_, h⟩
            · cases eb; exact ⟨_, h⟩
          | _ => cases mu1
        have hne' : p2 ≠ p := fun e => by
          obtain ⟨o, ho⟩ := hp1
          rw [← e, (r2'.2 p2 rfl mu2).1] at ho; cases ho
        refine hb du dv X hX W _ Z2 H2 st2 f st' D ((rr.setO mu1 g1 z1 n1 (noOld _ f1)).setO mu2 g2 z2 n2 fun h => ?_) hm2 (q.after s2.bst fun a h => ?_)
        · rcases own_setO h with h | e
          · exact noOld _ f2 h
          · exact hne' e
        · rcases own_setO h with h | rfl
          · rcases own_setO h with h | rfl
            · exact .inl h
            · exact .inr f1
          · exact .inr f2
  · exact (stuck_some hm2).elim
end
end Sn

namespace Sn
open PySem PySem.Spec PyProof.Rows L2

/-! ### the law's box -/
structure Bx where
  cells : List Int
  dig : Int
  seed : Int
  hd : 0 ≤ dig
  hs : 0 ≤ seed ∧ seed < 2147483648
def bxR (b : Bx) (β γ : Addr) (H : Hp) : Prop := H β = some (.lst [.ref γ, .int b.dig, .int b.seed]) ∧ H γ = some (.lst (b.cells.map V.int))
instance : BoxS Bx where
  R := bxR
  there := fun h => ⟨⟨_, h.1⟩, ⟨_, h.2⟩⟩
  congr := fun h e1 e2 => ⟨e1.trans h.1, e2.trans h.2⟩
/-- what the box is filled with: the number, the cells left, the seed -/
def bxSeed (seed : Int) : Int × Int × Int :=
  let first := (seed * 48271 + 17) % 2147483629
  let second := (first * 69621 + 5) % 2147483587
  let s := (second * 40692 + 3) % 2147483563
  (first, second, s)
def bxLast (cells : List Int) (seed : Int) : Int × List Int × Int :=
  ((bxSeed seed).1 * 4611686014132420609 + (bxSeed seed).2.1 * 2147483647 + (bxSeed seed).2.2, cells, (bxSeed seed).2.2)
def bxSize (c : Int) : Int := if 0 ≤ c then 2 * c else -2 * c - 1
def bxLoad (cells : List Int) (seed : Int) : Int × List Int × Int :=
  match cells with
  | [] => bxLast [] seed
  | c :: cs => if 1000000000000000000 ≤ bxSize c then (bxSize c, cs, seed) else bxLast cs ((seed * 69621 + bxSize c * 48271 + 11) % 2147483647)
theorem bxSize_nn (c : Int) : 0 ≤ bxSize c := by unfold bxSize; split <;> omega
theorem bxSeed_nn (seed : Int) : (0 ≤ (bxSeed seed).1 ∧ (bxSeed seed).1 < 2147483648) ∧ (0 ≤ (bxSeed seed).2.1 ∧ (bxSeed seed).2.1 < 2147483648) ∧ (0 ≤ (bxSeed seed).2.2 ∧ (bxSeed seed).2.2 < 2147483648) := by
  unfold bxSeed
  simp only
  omega
theorem bxLast_nn (cells : List Int) (seed : Int) : 0 ≤ (bxLast cells seed).1 ∧ 0 ≤ (bxLast cells seed).2.2 ∧ (bxLast cells seed).2.2 < 2147483648 := by
  obtain ⟨h1, h2, h3⟩ := bxSeed_nn seed
  unfold bxLast
  simp only
  omega
theorem bxLoad_nn (cells : List Int) (seed : Int) (h : 0 ≤ seed ∧ seed < 2147483648) : 0 ≤ (bxLoad cells seed).1 ∧ 0 ≤ (bxLoad cells seed).2.2 ∧ (bxLoad cells seed).2.2 < 2147483648 := by
  unfold bxLoad
  split
  · exact bxLast_nn _ _
  · rename_i c cs
    have := bxSize_nn c
    split
    · exact ⟨this, h⟩
    · exact bxLast_nn _ _
theorem bxLoad_len (cells : List Int) (seed : Int) : (bxLoad cells seed).2.1.length ≤ cells.length := by
  unfold bxLoad bxLast
  split
  · exact Nat.le_refl _
  · split
    · exact Nat.le_succ _
    · exact Nat.le_succ _
/-- one draw: the digit, the box behind it -/
def drawB (b : Bx) (many : Int) (hm : 0 < many) : Int × Bx :=
  if b.dig < many then
    ((bxLoad b.cells b.seed).1 % many, ⟨(bxLoad b.cells b.seed).2.1, (bxLoad b.cells b.seed).1 / many, (bxLoad b.cells b.seed).2.2, Int.ediv_nonneg (bxLoad_nn b.cells b.seed b.hs).1 (Int.le_of_lt hm), (bxLoad_nn b.cells b.seed b.hs).2⟩)
  else (b.dig % many, ⟨b.cells, b.dig / many, b.seed, Int.ediv_nonneg b.hd (Int.le_of_lt hm), b.hs⟩)
def drawM (many : Int) : M Bx D := fun b => if h : 0 < many ∧ many < 1073741824 then some (.int (drawB b many h.1).1, (drawB b many h.1).2) else none
def m_draw : List D → M Bx D
  | [.box, .int many] => drawM many
  | _ => stuck

section
variable {P : Program} {w : World} {K : PySem.W.Frag} {mg : Str → Option Value} {base : Heap}
/-- other addresses stand -/
def Else2 (H H' : Hp) (β γ : Addr) : Prop := ∀ a, a ≠ β → a ≠ γ → H' a = H a
def spLoad : Sp := fun vs H Q _ => ∃ (β γ : Addr) (cells : List Int) (dig seed : Int), vs = [.ref β] ∧ H β = some (.lst [.ref γ, .int dig, .int seed]) ∧ H γ = some (.lst (cells.map V.int)) ∧ cells.length ≤ sizeLine ∧ 0 ≤ seed ∧ seed < 2147483648 ∧
  ∀ H', Else2 H H' β γ → H' β = some (.lst [.ref γ, .int dig, .int (bxLoad cells seed).2.2]) → H' γ = some (.lst ((bxLoad cells seed).2.1.map V.int)) → Q (.int (bxLoad cells seed).1) H'
theorem Sz.only {H : Hp} (h : Only H) : Sz H := fun b vs hv => by
  rcases h b with e | ⟨o, xs, e⟩ <;> rw [e] at hv <;> rcases hv with hv | hv <;> cases hv
def spBox (K : PySem.W.Frag) : Sp := fun vs H Q _ => ∃ (a : Addr) (ns : List Int), vs = [.ref a] ∧ SqL K H a (ns.map V.int) ∧ ns.length ≤ 63 ∧
  ∀ (H' : Hp) (β γ : Addr), Same H H' → H β = none → H γ = none → H' β = some (.lst [.ref γ, .int 0, .int (4711 + (ns.length : Int))]) → H' γ = some (.lst (ns.map V.int)) → (Sz H → Sz H') → Q (.ref β) H'
def spLaw (K : PySem.W.Frag) : Sp := fun vs H Q _ => ∃ (a : Addr) (ns : List Int), vs = [.ref a] ∧ SqL K H a (ns.map V.int) ∧ ns.length ≤ 63 ∧ Sz H ∧ ∀ H', Q (.bl true) H'
theorem ok_law_of {st : Stmt} {f fB : Addr} {fd fdB : FuncData} {N : List Str} {k jB i : Nat} {rest : List Stmt} {x1 xB x3 : Str} {p1 p2 p3 pc ps : Pos} {m : M Bx (Fl Unit Unit)} {Γ1 : SCx} {qual xl : Str}
    (F : Fun K xl qual st f fd) (Sc : FnScope N ["script"] (defScope st)) (GB : FnOk P w K mg base CX0 jB fB fdB ["script"] (spBox K)) (kpB : PySem.W.keepIn K (.ref fB) = true) (bB : Binds K fdB ["script"] []) (gB : mg xB = some (.ref fB)) (hj : jB ≤ k)
    (hb : defBody st = .Assign [.Name x1 p1] (.Call (.Name xB p2) [.Name x3 p3] [] pc) ps :: rest) (h3 : x3 = "script") (hgl : (defScope st).names.lookup xB = some .globalImplicit) (hv3 : Vis (defScope st) x3) (hi : N[i]? = some x1) (hi0 : N[0]? = some x3) (hx1 : Loc (defScope st) x1)
    (hΓ : Γ1 = (List.replicate N.length none).set i (some (.frz .box)))
    (hrest : OkB (S := Bx) ⟨⟨P, w, K, mg, base⟩, N, defScope st, k, fun _ => true⟩ Γ1 rest ⟨fun _ : Unit => List.replicate N.length none, fun _ : Unit => List.replicate N.length none⟩ m)
    (hm : ∀ b : Bx, ∃ b', bnd m endF b = some (.bl true, b')) (hd : (x3 == ("__debug__" : Str)) = false := by decide) (hcd : (x3 == ("__classdict__" : Str)) = false := by decide) (hdB : (xB == ("__debug__" : Str)) = false := by decide) :
    FnOk P w K mg base CX0 (k + 1) f fd ["script"] (spLaw K) := by
  refine F.ok Sc (fun vs H Q E h => ?_) (fun cdv A outer s H vs Q E hr h => ?_)
  · obtain ⟨a, ns, rfl, _⟩ := h
    rfl
  obtain ⟨a, ns, rfl, hS, hlen, sz, q⟩ := h
  rw [hb]
  refine ⟨_, pss_cons (ps_set (i := i) Sc.nd hi hx1 (pe_call GB (hr.mono hj) hgl gB kpB bB .nil pass0 (pa_cons (pe_var (i := 0) hi0 hv3 hd hcd) pa_nil) hdB)) pssU, ?_⟩
  have hNl : 0 < N.length := by
    cases N with
    | nil => cases hi0
    | cons _ _ => simp
  refine ⟨.ref a, ?_, a, ns, rfl, hS, hlen, fun H1 β γ sm nβ nγ hβ hγ szi => ?_⟩
  · unfold L2.start; rfl
  let b0 : Bx := ⟨ns, 0, 4711 + (ns.length : Int), Int.le_refl 0, by omega⟩
  obtain ⟨b', hb'⟩ := hm b0
  obtain ⟨fl, b1, h1, h2⟩ := bnd_some hb'
  have hil : i < N.length := by
    cases h : N[i]? with
    | none => rw [hi] at h; cases h
    | some y => exact (List.getElem?_eq_some_iff.mp h).1
  refine hrest _ ⟨rfl, rfl, rfl, rfl, rfl, rfl, rfl, Sc.nd, rfl, hr, rfl, fun _ _ => rfl⟩ ⟨β, γ⟩ ((L2.start N [.ref a]).set i (some (.ref β))) (fun _ => none) H1 b0 fl b1 _ ?_ h1 ?_
  · subst hΓ
    refine ⟨?_, szi sz, (⟨hβ, hγ⟩ : bxR b0 β γ H1), (fun _ _ h => nomatch h), (fun j d h => ?_), (fun j d h => ?_), (fun j j' d d' a' h => ?_)⟩
    · unfold L2.start
      simp only [List.length_set, List.length_append, List.length_map, List.length_cons, List.length_nil, List.length_replicate]
      omega
    · rcases set_cases h with ⟨rfl, he, hl⟩ | ⟨hn, h⟩
      · cases he
        refine ⟨.ref β, List.getElem?_set_self ?_, .box⟩
        unfold L2.start
        simp only [List.length_append, List.length_map, List.length_cons, List.length_nil, List.length_replicate]
        omega
      · rw [List.getElem?_replicate] at h
        split at h <;> simp at h
    · rcases set_cases h with ⟨rfl, he, hl⟩ | ⟨hn, h⟩
      · cases he
      · rw [List.getElem?_replicate] at h
        split at h <;> simp at h
    · rcases set_cases h with ⟨rfl, he, hl⟩ | ⟨hn, h⟩
      · cases he
      · rw [List.getElem?_replicate] at h
        split at h <;> simp at h
  · cases fl with
    | nx s' =>
      obtain ⟨e, _⟩ := ret_some h2
      cases e
    | rt d =>
      obtain ⟨e, _⟩ := ret_some h2
      intro v Z' H' _ _ _ rv
      subst e
      cases rv
      exact q H'
    | bk s' => exact (stuck_some (S := Bx) (α := D) (s := b1) h2).elim
    | ct s' => exact (stuck_some (S := Bx) (α := D) (s := b1) h2).elim
end
end Sn

namespace Sn
open PySem PySem.Spec PyProof.Rows L2
/-! ### short words for mirrors -/
section
variable {S : Type} {τ l τ' l' : Type}
def op2M (g : D → D → Option D) (ma mb : M S D) : M S D := bnd ma fun x => bnd mb fun y => lift (g x y)
def cmpT (g : D → D → Option D) (ma mb : M S D) : M S Bool := bnd ma fun x => bnd mb fun y => bnd (lift (g x y)) asB
def chainM (g g' : D → D → Option D) (ma mb mc : M S D) : M S D := bnd ma fun x => bnd mb fun y => bnd (bnd (lift (g x y)) asB) fun t => if t = true then bnd mc fun z => lift (g' y z) else ret (.bl false)
def chainT (g g' : D → D → Option D) (ma mb mc : M S D) : M S Bool := bnd ma fun x => bnd mb fun y => bnd (bnd (lift (g x y)) asB) fun t => if t = true then bnd mc fun z => bnd (lift (g' y z)) asB else ret false
def valT (ma : M S D) : M S Bool := bnd ma truM
def notT (n : M S Bool) : M S Bool := bnd n fun b => ret (!b)
def andT (n k : M S Bool) : M S Bool := bnd n fun t => if t = true then k else ret false
def orT (n k : M S Bool) : M S Bool := bnd n fun t => if t = true then ret true else k
def andM (ma mb : M S D) : M S D := bnd (bnd ma asB) fun t => if t = true then mb else ret (.bl false)
def orM (ma mb : M S D) : M S D := bnd (bnd ma asB) fun t => if t = true then ret (.bl true) else mb
def notM (ma : M S D) : M S D := bnd (bnd ma truM) fun t => ret (.bl (!t))
def negD : D → Option D
  | .int i => some (.int (-i))
  | _ => none
def negM (ma : M S D) : M S D := bnd ma fun x => lift (negD x)
def ifM {α : Type} (n : M S Bool) (ma mb : M S α) : M S α := bnd n fun t => if t = true then ma else mb
def consM (m : M S D) (mr : M S (List D)) : M S (List D) := bnd m fun x => bnd mr fun xs => ret (x :: xs)
def tupM (mr : M S (List D)) : M S D := bnd mr fun xs => lift (tupD xs)
def lstM (mr : M S (List D)) : M S D := bnd mr fun xs => lift (lstD xs)
def ixM (ma mb : M S D) : M S D := bnd ma fun x => bnd mb fun y => lift (ixD x y)
def ptM (ma : M S D) : M S (Option Int) := bnd (bnd ma asI) fun i => ret (some i)
def slM (ma : M S D) (ml mh : M S (Option Int)) : M S D := bnd ma fun x => bnd ml fun i => bnd mh fun j => lift (slD x i j)
def bcM (g : List D → Option D) (mr : M S (List D)) : M S D := bnd mr fun xs => lift (g xs)
def isiM (T : String) (ma : M S D) : M S D := bnd ma fun x => lift (isiD T x)
def itM (ma : M S D) : M S (List D) := bnd ma iterM
def rng1M (ma : M S D) : M S (List D) := bnd ma fun x => rngM [x]
def rng2M (ma mb : M S D) : M S (List D) := bnd ma fun x => bnd mb fun y => rngM [x, y]
def compM (mi : M S (List D)) (f : D → M S (Option D)) : M S D := bnd mi fun xs => if xs.length ≤ sizeLine then bnd (compL f xs) fun ys => ret (.lst ys) else stuck
def retF (m : M S D) : M S (Fl τ l) := bnd m fun d => ret (.rt d)
def iteF (n : M S Bool) (mA mB : M S (Fl τ' l)) (k : τ' → M S (Fl τ l)) : M S (Fl τ l) := bnd n fun t => bnd (if t = true then mA else mB) fun f => seqF f k
def forM' (mi : M S (List D)) (f : τ → D → M S (Fl τ τ)) (s0 : τ) (k : τ → M S (Fl τ' l')) : M S (Fl τ' l') := bnd mi fun xs => forL f k xs s0
def ownM (m : M S D) (k : D → M S (Fl τ l)) : M S (Fl τ l) := bnd m fun d => if isMut d = true then k d else stuck
def parM (mdu mdv : Md) (mu mv : M S D) (k : D → D → M S (Fl τ l)) : M S (Fl τ l) := bnd mu fun d => bnd mv fun e => if okMd mdu d = true ∧ okMd mdv e = true then k d e else stuck
def appM (d : D) (me : M S D) (k : D → M S (Fl τ l)) : M S (Fl τ l) := bnd me fun y => bnd (lift (appD d y)) k
def extM (d : D) (me : M S D) (k : D → M S (Fl τ l)) : M S (Fl τ l) := bnd me fun y => bnd (lift (extD d y)) k
def setM (d : D) (me mk : M S D) (k : D → M S (Fl τ l)) : M S (Fl τ l) := bnd me fun y => bnd mk fun j => bnd (lift (setD d j y)) k
end
/-- more turns than any while of ours makes -/
def fuel : Nat := 1000000000
section
variable {S : Type} [BoxS S] {C : Stat} {Γ : SCx} {e a b : Expr} {es : List Expr} {m ma mb : M S D} {md : Md} {pos p : Pos}
theorem Ok.neg' (h : Ok .V C Γ a ma) : Ok .E C Γ (.UnaryOp .USub a pos) (negM ma) := by
  have := Ok.neg (pos := pos) h
  have e : (fun x : D => (lift (match x with | .int i => some (.int (-i)) | _ => none) : M S D)) = fun x => lift (negD x) := by
    funext x
    cases x <;> rfl
  unfold negM
  rw [← e]
  exact this
theorem OkB.stuck {τ l : Type} {T : Tg τ l} {ss : List Stmt} : OkB (S := S) C Γ ss T Sn.stuck := .mk fun X hX W σ Z H st f st' D r hm q => (stuck_some hm).elim
theorem hasF_stuck {G : Glob} {st : Stmt} {f : Addr} {fd : FuncData} {ps : List Str} {k n : Nat} {x qual : Str} (hm : G.mg x = some (.ref f)) (F : Fun G.K x qual st f fd) (hB : Binds G.K fd ps []) (hn : ps.length = n) : HasF (S := S) G k x n fun _ => Sn.stuck := by
  refine ⟨f, fd, ps, hm, F.kp, hB, ⟨fun vs H Q E h => by rw [hn]; exact h.1, fun A outer s H args us vs Q E hr he hb hv hs => ?_⟩⟩
  obtain ⟨_, W, Z, ds, st, d, st', _, _, _, _, hm, _⟩ := hs
  exact (stuck_some (S := S) (α := D) (s := st) hm).elim
end
end Sn

namespace Sn
open PySem PySem.Spec PyProof.Rows L2
/-! ### what is never reached -/
section
variable {S : Type} [BoxS S] {C : Stat} {Γ : SCx} {e a b tg : Expr} {es : List Expr} {m ma mb : M S D} {md : Md} {mds : List Md} {pos p : Pos} {x : Str}
theorem Ok.stuck : Ok md C Γ e (Sn.stuck : M S D) := .mk fun X hX W σ Z H st d st' Q r hm q => (stuck_some hm).elim
theorem OkT.stuck : OkT C Γ e (Sn.stuck : M S Bool) := .mk fun X hX W σ Z H st d st' Q r hm q => (stuck_some hm).elim
theorem OkW.stuck : OkW C Γ e (Sn.stuck : M S Bool) := .mk fun X hX W σ Z H st d st' Q r hm q => (stuck_some hm).elim
theorem OkI.stuck {bb : Bool} : OkI bb C Γ tg e (Sn.stuck : M S (List D)) := .mk fun X hX W σ Z H st d st' Q r hm q => (stuck_some hm).elim
end
/-! ### tuple[::-1] -/
section
open HT
variable {prog : Program} {w : World} {A : Around} {E : Value → Shared → Prop} {s : Shared}
theorem adj_rev (n : Nat) : Builtin.Slice.sliceAdjust none none (-1) (n : Int) = ((n : Int) - 1, -1) := rfl
theorem plc_rev (n : Nat) : Builtin.Slice.slicePlaces ((n : Int) - 1) (-1) (-1) = n := by
  unfold Builtin.Slice.slicePlaces
  rw [if_neg (by decide)]
  split
  · rw [show (-(-1 : Int)) = 1 by decide, Int.ediv_one]; omega
  · have : n = 0 := by omega
    subst this; rfl
theorem applied_rev {sl : Addr} {vs : Value} {n : Nat} {Q : Int × Int × Nat → Shared → Prop} (hs : s.heap.IsSliceOf sl .none .none vs) (ps : IsPart vs (some (-1))) (h : Q ((n : Int) - 1, -1, n) s) :
    wpAny (model prog w) A (Builtin.Slice.sliceApplied (.ref sl) (pure (n : Int))) Q E s := by
  obtain ⟨os, o1, o2, o3⟩ := id hs
  unfold Builtin.Slice.sliceApplied Builtin.Slice.sliceFields
  refine wpAny_bind (wpAny_bind (wpAny_field o1 o3 (x := .none) rfl (wpAny_bind (wpAny_field o1 o3 (x := .none) rfl (wpAny_bind (wpAny_field o1 o3 (x := vs) rfl (wpAny_pure ?_))))))); refine wpAny_bind (slicePart_ ps ?_)
  show wpAny _ _ (if (((some (-1 : Int)).getD 1 : Int) == 0) = true then _ else _) _ _ s
  rw [if_neg (by decide)]; refine wpAny_bind (slicePart_ .none (wpAny_bind (slicePart_ .none (wpAny_bind (wpAny_pure ?_)))))
  show wpAny _ _ (pure (((n : Int) - 1), (-1 : Int), Builtin.Slice.slicePlaces ((n : Int) - 1) (-1) (-1))) _ _ s
  rw [plc_rev]; exact wpAny_pure h
theorem fm_congr {α β : Type} {f g : α → Option β} : ∀ {xs : List α}, (∀ x ∈ xs, f x = g x) → xs.filterMap f = xs.filterMap g
  | [], _ => rfl
  | x :: xs, h => by
    rw [List.filterMap_cons, List.filterMap_cons, h x List.mem_cons_self, fm_congr fun y hy => h y (List.mem_cons_of_mem _ hy)]
theorem pick_rev {α : Type} (xs : Array α) : ((List.range xs.size).filterMap fun (k : Nat) => xs[(((xs.size : Nat) : Int) - 1 + (k : Int) * -1).toNat]?).toArray = xs.toList.reverse.toArray := by
  congr 1
  have e : (List.range xs.size).filterMap (fun (k : Nat) => xs[(((xs.size : Nat) : Int) - 1 + (k : Int) * -1).toNat]?) = ((List.range xs.size).map fun k => xs.size - 1 - k).filterMap (xs[·]?) := by
    rw [List.filterMap_map]
    refine fm_congr fun k hk => ?_
    rw [List.mem_range] at hk
    have e : (((xs.size : Nat) : Int) - 1 + (k : Int) * -1).toNat = xs.size - 1 - k := by omega
    show xs[(((xs.size : Nat) : Int) - 1 + (k : Int) * -1).toNat]? = xs[xs.size - 1 - k]?
    rw [e]
  rw [e, PySem.W.krv_range, List.filterMap_reverse, PySem.W.krv_all]
theorem getItem_tuple_rev {t sl : Addr} {items : Array Value} {vs : Value} {Q : Value → Shared → Prop} (ht : IsTup s.heap t items) (hs : s.heap.IsSliceOf sl .none .none vs) (ps : IsPart vs (some (-1)))
    (h : Q (.ref s.heap.objs.size) { s with heap := s.heap.push { cls := .type "tuple", data := .seq items.toList.reverse.toArray } }) (hz : items.size ≤ sizeLine) : wpAny (model prog w) A (getItem (.ref t) (.ref sl)) Q E s := by
  have ok : sizeOk (.seq items.toList.reverse.toArray) := by
    show items.toList.reverse.toArray.size ≤ sizeLine
    rw [List.size_toArray, List.length_reverse, Array.length_toList]; exact hz
  obtain ⟨os, o1, o2, o3⟩ := id hs
  have ty : s.TypeIs (.ref sl) "slice" := ⟨os, o1, o2⟩
  unfold getItem; (try with_reducible refine wpAny_holding ?_); (first | refine wpAny_bind (wpAny_pure ?_) | skip); refine wpAny_bind (wpAny_sequenceKey ht.typeIs (by decide) ?_)
  refine wpAny_bind (wpAny_callSpecial?_slot (name := Str.ofString "__getitem__") ht.typeIs PyProof.Rows.slot_tuple_getitem (wpAny_call_entry PyProof.Rows.slot_tuple_getitem ht.typeIs entry_tuple_getitem ?_ (args_tuple_getitem _ _)))
  show wpAny _ _ (Builtin.Tuple.tupleItemsOf (.ref t) >>= _) _ _ s; refine wpAny_bind (tupleItemsOf_ ht ?_); refine wpAny_bind (wpAny_typeOf ty ?_); rw [if_pos (by decide)]; refine wpAny_bind (applied_rev hs ps ?_)
  show wpAny _ _ (if (((items.size : Nat) : Int) - 1 == 0 && (-1 : Int) == 1 && items.size == items.size) = true then _ else _) _ _ s
  rw [if_neg (by simp), pick_rev]
  first
    | exact wpAny_bind (m := Builtin.Tuple.tupleExact _) (wpAny_newObj_type (wpAny_pure ⟨_, rfl, wpAny_pure h⟩) ok)
    | exact wpAny_bind (m := Builtin.Tuple.tupleExact _) (wpAny_newObj_type (wpAny_bind (wpAny_pure (wpAny_pure ⟨_, rfl, wpAny_pure h⟩))) ok)
    | exact wpAny_bind (wpAny_bind (m := Builtin.Tuple.tupleExact _) (wpAny_newObj_type (wpAny_pure (wpAny_pure ⟨_, rfl, wpAny_pure h⟩)) ok))
    | exact wpAny_bind (wpAny_bind (m := Builtin.Tuple.tupleExact _) (wpAny_newObj_type (wpAny_pure ⟨_, rfl, wpAny_pure h⟩) ok))
end
/-- x[::-1] of tuples and lists -/
def rRev (K : PySem.W.Frag) : V → Hp → VK → Prop := fun x H Q => ∃ a xs, x = .ref a ∧ ((SqT K H a xs ∧ ∀ p, H p = none → Q (.ref p) (upd H p (.tup xs.reverse))) ∨ (SqL K H a xs ∧ ∀ p, H p = none → Q (.ref p) (upd H p (.lst xs.reverse))))
theorem pe_rev2 {X : Cx} {e : Expr} {te : TE} {k : Nat} {p1 p2 p3 pos : Pos} (he : PE X e te) : PE X (.Subscript e (.Slice none none (some (.UnaryOp .USub (.Constant (.int 1) k p1) p2)) p3) pos) (fun σ H Q => te σ H fun x H1 => rRev X.K x H1 Q) := by
  refine ⟨fun pins s σ H Q I h => Subscript_ (thn (he.run pins s σ H _ I h) fun v s1 ⟨x, H1, I1, r1, a, xs, ex, q⟩ => ?_)⟩
  subst ex; cases r1
  have hst : PO X (some (.UnaryOp .USub (.Constant (.int 1) k p1) p2)) (tPart (tUn (L2.rU fun i => .int (-i)) (tC (.int 1)))) := po_some (pe_un un_neg pe_int)
  refine wpAny_Slice (thn (po_none.run pins s1 σ H1 (fun o H2 => o = none ∧ H2 = H1) I1 ⟨rfl, rfl⟩) fun vl s2 ⟨l, H2, I2, pl, el, e2⟩ => ?_); subst el e2; cases pl
  refine thn (po_none.run pins s2 σ H2 (fun o H3 => o = none ∧ H3 = H2) I2 ⟨rfl, rfl⟩) fun vu s3 ⟨u, H3, I3, pu, eu, e3⟩ => ?_; subst eu e3; cases pu
  refine thn (hst.run pins s3 σ H3 (fun o H4 => o = some (-1) ∧ H4 = H3) I3 ⟨1, rfl, -1, rfl, rfl, rfl⟩) fun vs s4 ⟨o, H4, I4, ps, eo, e4⟩ => ?_; subst eo e4
  have I5 : Inv X pins σ H4 { s4 with heap := s4.heap.push { cls := .type "slice", data := .fields #[.none, .none, vs] } } := I4.kept (t' := s4.toks) fun b ob q => Heap.get?_push_of_some _ q
  show wpAny (model X.prog X.w) X.A (subscriptTail e (.Slice none none (some (.UnaryOp .USub (.Constant (.int 1) k p1) p2)) p3) (.ref a) (.ref s4.heap.objs.size)) (EP X pins σ Q) X.xe _
  rcases q with ⟨hx, q⟩ | ⟨hx, q⟩
  · obtain ⟨its, r, ht, hz⟩ := I5.tuple hx
    refine tail_any (ops := [.ref a, .ref s4.heap.objs.size]) ht.typeIs PyProof.Rows.slot_tuple_getitem.lookup (getItem_tuple_rev ht (Heap.IsSliceOf.new _ .none .none vs) ps ?_ (by rw [List.size_toArray, ← r.length]; exact hz)) (by with_unfolding_all rfl)
    refine ⟨.ref _, _, I5.laid (t' := s4.toks) (o := .tup xs.reverse) (fun b ob q => Heap.get?_push_of_some _ q) (Nat.le_refl _) ?_, rfl, q _ (I5.hok.fresh (Nat.le_refl _))⟩
    exact ⟨by rw [List.length_reverse]; exact hz, _, r.reverse, IsTup.new _ _⟩
  · obtain ⟨its, r, ht, hz⟩ := I5.list hx
    refine tail_any (ops := [.ref a, .ref s4.heap.objs.size]) ht.isList.typeIs PySem.slot_list_getitem.lookup (wpAny_getItem_list_slice ht.isList (Heap.IsSliceOf.new _ .none .none vs) .none .none ps (by decide) ?_ (by rw [List.size_toArray, ← r.length]; exact hz)) (by with_unfolding_all rfl)
    rw [PySem.W.krv_pick]
    refine ⟨.ref _, _, I5.laid (t' := s4.toks) (o := .lst xs.reverse) (fun b ob q => Heap.get?_push_of_some _ q) (Nat.le_refl _) ?_, rfl, q _ (I5.hok.fresh (Nat.le_refl _))⟩
    exact ⟨by rw [List.length_reverse]; exact hz, _, 0, r.reverse, Heap.get?_push_size _ rfl⟩
def revD : D → Option D
  | .tup xs => some (.tup xs.reverse)
  | .lst xs => some (.lst xs.reverse)
  | _ => none
section
variable {S : Type} [BoxS S] {C : Stat} {Γ : SCx} {e a b tg : Expr} {es : List Expr} {m ma mb : M S D} {md mda mdb : Md} {mds : List Md} {pos p p1 p2 p3 : Pos} {x : Str} {k : Nat}
theorem Ok.rev (ha : Ok .V C Γ a ma) : Ok .N C Γ (.Subscript a (.Slice none none (some (.UnaryOp .USub (.Constant (.int 1) k p1) p2)) p3) pos) (bnd ma fun x => lift (revD x)) := .mk fun X hX W σ Z H st d st' Q r hm q => by
  obtain ⟨x, st1, h1, hm1⟩ := bnd_some hm
  obtain ⟨hg, rfl⟩ := lift_some hm1
  refine tU_of (pe_rev2 peU) (ha X hX W σ Z H st x _ _ r h1 fun vx Z1 H1 s1 b1 r1 => ?_)
  have q' : ∀ v Z' H', Stp W Z1 H1 Z' H' → BoxS.R st' W.β W.γ H' → Res X.K W .N H1 Z' H' d v → Q v H' := fun v Z' H' s' b' r' => q v Z' H' (s1.trans s') b' (r'.back r.box b1 s1)
  cases x with
  | tup xs =>
    cases hg
    cases r1.1 with | tup hq l => exact ⟨_, _, rfl, .inl ⟨s1.sub.sqT hq, fun p hp => fin_tup s1.zh b1 hp l.rev (by rw [List.length_reverse]; exact (s1.sz r.sz).tup (s1.sub.tupAt hq)) q'⟩⟩
  | lst xs =>
    cases hg
    obtain ⟨a, vs, rfl, hq, l⟩ := r1.1
    exact ⟨_, _, rfl, .inr ⟨.inl (.inl hq), fun p hp => fin_lst s1.zh b1 hp l.rev (by rw [List.length_reverse]; exact (s1.sz r.sz).lst hq) q'⟩⟩
  | _ => cases hg
/-! ### str(x) -/
def strD : List D → Option D
  | [.int i] => if i.natAbs.log2 < 1920 then some (.str (toString i)) else none
  | [.str z] => some (.str z)
  | _ => none
theorem o_str : OpL C (.type "str") strD := fun X hX S _ W Z H st xs dxs d Q zh sz bx r0 hg q => by
  match dxs, hg with
  | [.int i], hg =>
    have hg' : (if i.natAbs.log2 < 1920 then some (D.str (toString i)) else none) = some d := hg
    split at hg'
    · cases hg'
      obtain ⟨v, rfl, r⟩ := r0.one
      cases r
      exact cU_of call_str_int ⟨i, rfl, by assumption, fin_plain zh bx (.str _) rfl q⟩
    · cases hg'
  | [.str z], hg =>
    cases hg
    obtain ⟨v, rfl, r⟩ := r0.one
    cases r
    exact cU_of SkE.call_str_str ⟨z, rfl, fin_plain zh bx (.str _) rfl q⟩
/-! ### zip -/
def zipT (xs ys : List D) : List D := (xs.zip ys).map fun p => .tup [p.1, p.2]
theorem zipT_at {xs ys : List D} {i : Nat} {d : D} (h : (zipT xs ys)[i]? = some d) : ∃ x y, xs[i]? = some x ∧ ys[i]? = some y ∧ d = .tup [x, y] := by
  unfold zipT at h
  rw [List.getElem?_map] at h
  cases e : (xs.zip ys)[i]? with
  | none => rw [e] at h; cases h
  | some p =>
    rw [e] at h; cases h
    obtain ⟨h1, h2⟩ := List.getElem?_zip_eq_some.mp e
    exact ⟨p.1, p.2, h1, h2, rfl⟩
theorem zipT_len (xs ys : List D) : (zipT xs ys).length = min xs.length ys.length := by unfold zipT; rw [List.length_map, List.length_zip]
/-- a new pair -/
theorem yld_pair {K : PySem.W.Frag} {W : Wd} {Z2 H2 : Hp} {S : Type} [BoxS S] {st : S} {T : Addr} {x y : V} {dx dy : D} (zh : ∀ a o, Z2 a = some o → H2 a = some o ∧ ¬ W.bx a) (bx : BoxS.R st W.β W.γ H2) (hT : H2 T = none) (rx : Rep K W.β Z2 dx x) (ry : Rep K W.β Z2 dy y) :
    ∃ Z3, Stp W Z2 H2 Z3 (upd H2 T (.tup [x, y])) ∧ BoxS.R st W.β W.γ (upd H2 T (.tup [x, y])) ∧ Rep K W.β Z3 (.tup [dx, dy]) (.ref T) := by
  have s2 := Stp.layZ (o := .tup [x, y]) zh bx hT (by show 2 ≤ sizeLine; decide)
  exact ⟨_, s2, box_lay bx hT, .tup (.inl upd_same) ((RepL.cons rx (.cons ry .nil)).mono s2.zz)⟩
theorem yld_zipL {X : Cx} {W : Wd} {Z H : Hp} {a b : Addr} {vs us : List V} {xs ys : List D} (na : ¬ W.bx a) (nb : ¬ W.bx b) (ha : H a = some (.lst vs)) (hb : H b = some (.lst us)) (l : RepL X.K W.β Z xs vs) (l2 : RepL X.K W.β Z ys us) :
    Yld X.K W (Itz X.K a b) (zipT xs ys) (fun c => c = a ∨ c = b) Z H := by
  refine ⟨fun c e => ?_, fun i Z2 H2 st sz zh ka _ bx => ⟨fun hi => ?_, fun d hd => ?_⟩⟩
  · rcases e with rfl | rfl
    · exact ⟨⟨_, ha⟩, na⟩
    · exact ⟨⟨_, hb⟩, nb⟩
  · rw [zipT_len, l.length, l2.length] at hi
    exact ⟨vs, us, .inl (.inl (ka a _ (.inl rfl) ha)), .inl (.inl (ka b _ (.inr rfl) hb)), by omega⟩
  · obtain ⟨x, y, h1, h2, rfl⟩ := zipT_at hd
    obtain ⟨v, g1, rv⟩ := l.get h1
    obtain ⟨u, g2, ru⟩ := l2.get h2
    have qa : SqL X.K H2 a vs := .inl (.inl (ka a _ (.inl rfl) ha))
    have qb : SqL X.K H2 b us := .inl (.inl (ka b _ (.inr rfl) hb))
    refine ⟨⟨vs, us, v, u, qa, qb, g1, g2⟩, fun z H3 yy => ?_⟩
    obtain ⟨T, v', u', rfl, hT, rfl, e1, e2⟩ := yy
    have e1 := e1 _ qa; rw [g1] at e1; cases e1
    have e2 := e2 _ qb; rw [g2] at e2; cases e2
    exact yld_pair zh bx hT (rv.mono sz) (ru.mono sz)
theorem yld_zipT {X : Cx} {W : Wd} {Z H : Hp} {a b : Addr} {vs us : List V} {xs ys : List D} (ha : TupAt X.K Z a vs) (hb : TupAt X.K Z b us) (l : RepL X.K W.β Z xs vs) (l2 : RepL X.K W.β Z ys us) :
    Yld X.K W (RZ.ItzT X.K a b) (zipT xs ys) (fun _ => False) Z H := by
  refine ⟨fun c e => e.elim, fun i Z2 H2 st sz zh ka _ bx => ?_⟩
  have qa : SqT X.K H2 a vs := (subOf zh).sqT (sz.tupAt ha)
  have qb : SqT X.K H2 b us := (subOf zh).sqT (sz.tupAt hb)
  refine ⟨fun hi => ?_, fun d hd => ?_⟩
  · rw [zipT_len, l.length, l2.length] at hi
    exact ⟨vs, us, qa, qb, by omega⟩
  · obtain ⟨x, y, h1, h2, rfl⟩ := zipT_at hd
    obtain ⟨v, g1, rv⟩ := l.get h1
    obtain ⟨u, g2, ru⟩ := l2.get h2
    refine ⟨⟨vs, us, v, u, qa, qb, g1, g2⟩, fun z H3 yy => ?_⟩
    obtain ⟨T, v', u', rfl, hT, rfl, e1, e2⟩ := yy
    have e1 := e1 _ qa; rw [g1] at e1; cases e1
    have e2 := e2 _ qb; rw [g2] at e2; cases e2
    exact yld_pair zh bx hT (rv.mono sz) (ru.mono sz)
def zipM {S : Type} (x y : D) : M S (List D) :=
  match x, y with
  | .tup xs, .tup ys => ret (zipT xs ys)
  | .lst xs, .lst ys => ret (zipT xs ys)
  | _, _ => Sn.stuck
theorem OkI.zip {bb : Bool} {elts : List Expr} {kk : Nat} {tpos : Pos} (ha : Ok mda C Γ a ma) (hb : Ok mdb C Γ b mb) (hg : C.sc.names.lookup ("zip" : Str) = some .globalImplicit) (hm : C.G.mg "zip" = none) (h1 : mda = .V → bb = false) (h2 : mdb = .V → bb = false)
    (hp : plainArg a = true := by rfl) (hp2 : plainArg b = true := by rfl) : OkI bb C Γ (.Tuple elts kk tpos) (.Call (.Name "zip" p) [a, b] [] pos) (bnd ma fun x => bnd mb fun y => zipM x y) := .mk fun X hX W σ Z H st xs st' R r hm' q => by
  obtain ⟨d, st1, g1, hm1⟩ := bnd_some hm'
  obtain ⟨d2, st2, g2, hm2⟩ := bnd_some hm1
  refine tUI_of (RZ.pi_zipA (hX.glob hg) (hX.none hm) (pa_cons peU (pa_cons peU pa_nil (starEach_plain _ hp2)) (starEach_plain _ hp)) (by rw [starEach_plain _ hp]) (by rw [starEach_plain _ hp2]; rfl)) ?_
  refine ha X hX W σ Z H st d st1 _ r g1 fun v1 Z1 H1 s1 b1 r1 => ?_
  refine hb X hX W σ Z1 H1 st1 d2 st2 _ (r.step s1 b1) g2 fun v2 Z2 H2 s2 b2 r2 => ?_
  have r1v := (r1.stp s2).view (s1.trans s2).zh
  have r2v := r2.view s2.zh
  have notOwn : ∀ {md : Md} {H0 : Hp} {Z0 : Hp} {d : D} {p : Addr}, Res X.K W md H0 Z2 H2 d (.ref p) → isMut d = true → (md = .V → bb = false) → bb = true → (∀ a, H0 a = none → H a = none) → ¬ ownA Γ σ p ∧ (Z2 p ≠ none ∨ H p = none) := by
    intro md H0 Z0 d p rr mu hV hbb back
    cases md with
    | V => rw [hV rfl] at hbb; cases hbb
    | E =>
      have hz : Z2 p ≠ none := by
        cases d with
        | lst ds => cases rr with | lst hz _ => rw [hz]; exact fun e => nomatch e
        | dct ds => cases rr with
          | dK hz _ => rw [hz]; exact fun e => nomatch e
          | dT hz _ => rw [hz]; exact fun e => nomatch e
        | _ => cases mu
      refine ⟨fun ho => ?_, .inl hz⟩
      obtain ⟨i, d', k1, k2⟩ := ho
      obtain ⟨b', e', zb, _, _, _⟩ := ((r.step s1 b1).step s2 b2).own i d' k1
      rw [k2] at e'; cases e'
      exact hz zb
    | N =>
      obtain ⟨f1, _, _⟩ := rr.2 p rfl mu
      refine ⟨fun ho => ?_, .inr (back _ f1)⟩
      obtain ⟨o, ho'⟩ := r.ownThere ho
      rw [back _ f1] at ho'; cases ho'
  cases d with
  | tup xs1 => cases d2 with
    | tup ys1 =>
      obtain ⟨rfl, rfl⟩ := ret_some hm2
      cases r1v.1 with | tup hq l => cases r2v.1 with | tup hq2 l2 =>
        exact ⟨_, _, _, _, rfl, .inr ⟨(s1.trans s2).sub.sqT hq, s2.sub.sqT hq2, q _ _ Z2 H2 (s1.trans s2) b2 (yld_zipT hq hq2 l l2) fun _ _ h => h.elim⟩⟩
    | _ => exact (stuck_some (S := S) (α := List D) (s := st2) hm2).elim
  | lst xs1 => cases d2 with
    | lst ys1 =>
      obtain ⟨rfl, rfl⟩ := ret_some hm2
      obtain ⟨p1, vs, rfl, hq, l⟩ := r1v.1
      obtain ⟨p2, us, rfl, hq2, l2⟩ := r2v.1
      refine ⟨p1, p2, vs, us, rfl, .inl ⟨.inl (.inl hq), .inl (.inl hq2), q _ _ Z2 H2 (s1.trans s2) b2 (yld_zipL (r1v.2 _ rfl rfl) (r2v.2 _ rfl rfl) hq hq2 l l2) fun hbb c hc => ?_⟩⟩
      rcases hc with rfl | rfl
      · exact notOwn (Z0 := Z) (r1.stp s2) rfl h1 hbb fun _ h => h
      · exact notOwn (Z0 := Z) r2 rfl h2 hbb fun _ h => fresh_back r.box b1 s1 h
    | _ => exact (stuck_some (S := S) (α := List D) (s := st2) hm2).elim
  | _ => exact (stuck_some (S := S) (α := List D) (s := st2) hm2).elim
end
section
variable {S : Type}
def revM (ma : M S D) : M S D := bnd ma fun x => lift (revD x)
def zipM2 (ma mb : M S D) : M S (List D) := bnd ma fun x => bnd mb fun y => zipM x y
end
end Sn

namespace Sn
open PySem PySem.Spec PyProof.Rows L2
/-! ### comprehensions of two clauses -/
section
variable {S : Type} [BoxS S] {K : PySem.W.Frag} {W : Wd} {Γ : SCx} {σ : L2.St} {Z H Z1 H1 Z2 H2 Z' H' : Hp} {st st' st1 : S} {D : Addr} {acc : List V} {dacc : List Sn.D}
theorem SR.lstp (r : SR K W Γ σ Z H st) (nd : ¬ ownA Γ σ D) (s : Stp W Z (upd H D (.lst [])) Z' (upd H' D (.lst []))) (zh : ∀ a o, Z' a = some o → H' a = some o ∧ ¬ W.bx a) (sz : Sz H') (b : BoxS.R st' W.β W.γ H') : SR K W Γ σ Z' H' st' where
  ln := r.ln
  sz := sz
  box := b
  zh := zh
  frz := fun i d h => by
    obtain ⟨v, e, q⟩ := r.frz i d h
    exact ⟨v, e, q.mono s.zz⟩
  own := fun i d h => by
    obtain ⟨a, e, z, n, mu, q⟩ := r.own i d h
    have hne : a ≠ D := fun ea => nd ⟨i, d, h, by rw [← ea]; exact e⟩
    obtain ⟨o, ho⟩ := r.ownThere ⟨i, d, h, e⟩
    refine ⟨a, e, ?_, n, mu, q.mono s.zz fun c ec u hu => ?_⟩
    · cases q' : Z' a with
      | none => rfl
      | some u =>
        rcases s.nw a u q' with w | w
        · rw [z] at w; cases w
        · rw [upd_ne hne, ho] at w; cases w
    · cases ec
      have := s.hh a u (by rw [upd_ne hne]; exact hu) n
      rwa [upd_ne hne] at this
  dis := r.dis
/-- the list so far lies at D, all else as steps leave it -/
structure LS {S : Type} [BoxS S] (K : PySem.W.Frag) (W : Wd) (D : Addr) (Z1 H1 Z' H' : Hp) (acc : List V) (dacc : List Sn.D) (st : S) : Prop where
  s : Stp W Z1 (upd H1 D (.lst [])) Z' (upd H' D (.lst []))
  hD : H' D = some (.lst acc)
  zD : Z' D = none
  zh : ∀ a o, Z' a = some o → H' a = some o ∧ ¬ W.bx a
  sz : Sz H'
  b : BoxS.R st W.β W.γ H'
  r : RepL K W.β Z' dacc acc
theorem Stp.at' (t : Stp W Z H Z' H') (nbD : ¬ W.bx D) {acc : List V} (hD : H D = some (.lst acc)) (zD : Z D = none) (hl : acc.length ≤ sizeLine) : Stp W Z (upd H D (.lst [])) Z' (upd H' D (.lst [])) ∧ Z' D = none ∧ H' D = some (.lst acc) := by
  have z2 : Z' D = none := by
    cases q : Z' D with
    | none => rfl
    | some u =>
      rcases t.nw D u q with w | w
      · rw [zD] at w; cases w
      · rw [hD] at w; cases w
  refine ⟨⟨t.zz, fun a o h => ?_, fun a o h nb => ?_, fun a o h => ?_, fun hs => ?_⟩, z2, t.hh D _ hD nbD⟩
  · have hne : a ≠ D := fun z => by rw [z, z2] at h; cases h
    exact ⟨by rw [upd_ne hne]; exact (t.zh a o h).1, (t.zh a o h).2⟩
  · rcases upd_get h with ⟨rfl, rfl⟩ | ⟨hne, h⟩
    · exact upd_same
    · rw [upd_ne hne]; exact t.hh a o h nb
  · rcases t.nw a o h with w | w
    · exact .inl w
    · by_cases e : a = D
      · subst e; rw [z2] at h; cases h
      · exact .inr (by rw [upd_ne e]; exact w)
  · intro a vs hr
    by_cases e : a = D
    · subst e
      rcases hr with hr | hr <;> (rw [upd_same] at hr; cases hr)
      exact Nat.zero_le _
    · have hs2 : Sz H := fun a2 vs2 hr2 => by
        by_cases e2 : a2 = D
        · subst e2
          rw [hD] at hr2
          rcases hr2 with hr2 | hr2 <;> cases hr2
          exact hl
        · exact hs a2 vs2 (by rw [upd_ne e2]; exact hr2)
      exact t.sz hs2 a vs (by rw [upd_ne e] at hr; exact hr)
theorem LS.step (l : LS K W D Z1 H1 Z' H' acc dacc st) (nbD : ¬ W.bx D) (t : Stp W Z' H' Z2 H2) (b2 : BoxS.R st' W.β W.γ H2) : LS K W D Z1 H1 Z2 H2 acc dacc st' := by
  obtain ⟨t1, t2, t3⟩ := t.at' nbD l.hD l.zD (l.sz D acc (.inl l.hD))
  exact ⟨l.s.trans t1, t3, t2, t.zh, t.sz l.sz, b2, l.r.mono t.zz⟩
theorem LS.push (l : LS K W D Z1 H1 Z' H' acc dacc st) (nbD : ¬ W.bx D) {v : V} {d : Sn.D} (q : Rep K W.β Z' d v) (hl : acc.length < sizeLine) : LS K W D Z1 H1 Z' (upd H' D (.lst (acc ++ [v]))) (acc ++ [v]) (dacc ++ [d]) st := by
  have hlen : (acc ++ [v]).length ≤ sizeLine := by rw [List.length_append, List.length_singleton]; omega
  refine ⟨by rw [upd_upd]; exact l.s, upd_same, l.zD, fun a o h => ?_, l.sz.upd hlen, BoxS.congr l.b (upd_ne fun e => nbD (.inl e.symm)) (upd_ne fun e => nbD (.inr e.symm)), l.r.append (.cons q .nil)⟩
  have hne : a ≠ D := fun z => by rw [z, l.zD] at h; cases h
  exact ⟨by rw [upd_ne hne]; exact (l.zh a o h).1, (l.zh a o h).2⟩
end
def compLL {S α β : Type} (f : α → M S (List β)) : List α → M S (List β)
  | [] => ret []
  | x :: xs => bnd (f x) fun l => bnd (compLL f xs) fun ys => ret (l ++ ys)
/-- an outer clause's tests, then the inner clause -/
def elt2M {S : Type} (mt : M S Bool) (mi : M S (List D)) (f : D → M S (Option D)) : M S (List D) := bnd mt fun t => if t = true then bnd mi fun xs => compL f xs else ret []
theorem wipe_idem : ∀ (us ws : List Nat) (ρ : L2.St), (∀ i ∈ us, i ∈ ws) → wipe (wipe ρ us) ws = wipe ρ ws := by
  intro us ws ρ
  induction us with
  | nil => intro _; rfl
  | cons u us ih =>
    intro h
    show wipe ((wipe ρ us).set u none) ws = wipe ρ ws
    rw [wipe_set (h u List.mem_cons_self), ih fun i hi => h i (List.mem_cons_of_mem _ hi)]
section
variable {S : Type} [BoxS S] {C : Stat} {Γ Γ' : SCx} {c elt tg iter tg1 iter1 : Expr} {ifs ifs1 : List Expr} {pos : Pos}
theorem lc2_rd {scope : Scope} (own : List (Str × Nat)) (vs1 : List Nat) {mi : M S (List D)} {f : D → M S (List D)} (hi : OkI false C Γ tg iter mi)
    (hb : ∀ d, BindOk (C.blk scope) (wipeΓ Γ (own.map (·.2))) [tg] [d] (fun i => i ∈ own.map (·.2)) (fun Γ' n => ∃ mt mi1 f1, OkTs (C.blk scope) Γ' ifs mt ∧ OkI true (C.blk scope) Γ' tg1 iter1 mi1 ∧
      (∀ d1, BindOk (C.blk scope) (wipeΓ Γ' vs1) [tg1] [d1] (fun i => i ∈ vs1) (fun Γ2 n1 => ∃ mt1 me, OkTs (C.blk scope) Γ2 ifs1 mt1 ∧ Ok .E (C.blk scope) Γ2 elt me ∧ n1 = eltM mt1 me) (f1 d1)) ∧ n = elt2M mt mi1 f1) (f d))
    (X : Cx) (hX : CtxP C X) (W : Wd) (σ : L2.St) (Z H : Hp) (st : S) (d : D) (st' : S) (Q : VK) (r : SR X.K W Γ σ Z H st) (hm : (bnd mi fun xs => bnd (compLL f xs) fun ys => if ys.length ≤ sizeLine then ret (.lst ys) else stuck) st = some (d, st'))
    (q : ∀ v Z' H', Stp W Z H Z' H' → BoxS.R st' W.β W.γ H' → Res X.K W .N H Z' H' d v → Q v H') : tLc2 (tUI X tg iter) (bG X scope tg) (bT X scope ifs) (bI X scope tg1 iter1) (bG X scope tg1) (bT X scope ifs1) (bE X scope elt) (own.map (·.2)) vs1 σ H Q := by
  obtain ⟨xs, st1, h1, hm1⟩ := bnd_some hm
  obtain ⟨ys, st2, h2, hm2⟩ := bnd_some hm1
  by_cases hys : ys.length ≤ sizeLine
  · rw [if_pos hys] at hm2
    obtain ⟨rfl, rfl⟩ := ret_some hm2
    refine hi X hX W σ Z H st xs st1 _ r h1 fun J A Z1 H1 s1 b1 y1 _ => fun D hD => ?_
    have r1 := r.step s1 b1
    have nbD : ¬ W.bx D := BoxS.bxThere b1 hD
    have zD : Z1 D = none := z_none s1.zh hD
    have notD : ¬ ownA Γ σ D := fun h => by
      obtain ⟨o, ho⟩ := r1.ownThere h
      rw [hD] at ho; cases ho
    refine ⟨fun i n H' => ∃ Z' acc dacc st3 rst, n = xs.length - i ∧ i ≤ xs.length ∧ LS X.K W D Z1 H1 Z' H' acc dacc st3 ∧ compLL f (xs.drop i) st3 = some (rst, st') ∧ ys = dacc ++ rst,
      ⟨xs.length, Z1, [], [], st1, ys, by omega, Nat.zero_le _, ⟨?_, upd_same, zD, fun a o h => ⟨by rw [upd_ne (ne_of_none (s1.zh a o h).1 hD)]; exact (s1.zh a o h).1, (s1.zh a o h).2⟩, (s1.sz r.sz).upd (Nat.zero_le _), box_lay b1 hD, .nil⟩, h2, rfl⟩, ?_⟩
    · rw [upd_upd]
      exact Stp.refl fun a o h => ⟨by rw [upd_ne (ne_of_none (s1.zh a o h).1 hD)]; exact (s1.zh a o h).1, (s1.zh a o h).2⟩
    rintro i n H2 ⟨Z2, acc, dacc, st3, rst, rfl, hi2, l2, run2, ey⟩
    have ka : ∀ a o, A a → H1 a = some o → H2 a = some o := fun a o ha h => by
      have hne : a ≠ D := ne_of_none h hD
      have := l2.s.hh a o (by rw [upd_ne hne]; exact h) (y1.1 a ha).2
      rwa [upd_ne hne] at this
    have yy := y1.2 i Z2 H2 st3 l2.s.zz l2.zh ka l2.sz l2.b
    have rr : SR X.K W Γ σ Z2 H2 st3 := r1.lstp notD l2.s l2.zh l2.sz l2.b
    by_cases hlt : i < xs.length
    · have hd : xs[i]? = some xs[i] := List.getElem?_eq_getElem hlt
      rw [List.drop_eq_getElem_cons hlt] at run2
      obtain ⟨l, st4, h4, run3⟩ := bnd_some (show bnd (f xs[i]) _ st3 = some (rst, st') from run2)
      obtain ⟨zs, st5, h5, run4⟩ := bnd_some run3
      obtain ⟨er, rfl⟩ := ret_some run4
      obtain ⟨go, yl⟩ := yy.2 _ hd
      refine .inr ⟨go, fun H' => ∃ Z' acc dacc st3 rst, LS X.K W D Z1 H1 Z' H' acc dacc st3 ∧ compLL f (xs.drop (i + 1)) st3 = some (rst, st') ∧ ys = dacc ++ rst, fun H' hN => ?_, fun x H3 hy => ?_⟩
      · obtain ⟨Z', acc, dacc, st3, rst, q1, q2, q3⟩ := hN
        exact ⟨xs.length - (i + 1), by omega, Z', acc, dacc, st3, rst, rfl, hlt, q1, q2, q3⟩
      · obtain ⟨Z3, s3, b3, rx⟩ := yl x H3 hy
        intro s0 H0 C' cl fp
        have hXb := hX.blk scope s0 H0 C' cl fp
        rcases hb xs[i] with hb' | ⟨Γ', vs, ht, hvs, mt, mi1, f1, ot, oi, ob, en⟩
        · rw [hb' st3] at h4; cases h4
        · obtain ⟨Γ1, v1, v2, t1, ⟨e1, e2⟩, e3⟩ := ht
          subst e1
          subst e2
          rw [List.append_nil] at e3
          subst e3
          rw [en] at h4
          obtain ⟨t, st6, h6, h7⟩ := bnd_some h4
          refine t1 _ hXb W (wipe σ (own.map (·.2))) Z3 H3 st3 x _ ((rr.step s3 b3).wipe) rx fun σ3 r4 w4 o4 => ?_
          refine ⟨by
            have := w4 (own.map (·.2)) hvs
            rw [this]
            exact wipe_idem _ _ σ fun _ h => h, fun s5 H5 C5 cl5 fp5 => ?_⟩
          have hXc := hX.blk scope s5 H5 C5 cl5 fp5
          have l3 := l2.step nbD s3 b3
          refine ot _ hXc W σ3 Z3 H3 st3 t st6 _ r4 h6 fun Z6 H6 s6 b6 => ?_
          have l6 := l3.step nbD s6 b6
          have r6 := r4.step s6 b6
          cases t with
          | false =>
            rw [if_neg Bool.false_ne_true] at h7 ⊢
            obtain ⟨rfl, rfl⟩ := ret_some h7
            exact ⟨Z6, acc, dacc, st4, zs, l6, h5, by rw [ey, er, List.nil_append]⟩
          | true =>
            rw [if_pos rfl] at h7 ⊢
            obtain ⟨xs1, st7, h8, h9⟩ := bnd_some h7
            intro s8 H8 C8 cl8 fp8
            have hXd := hX.blk scope s8 H8 C8 cl8 fp8
            refine oi _ hXd W σ3 Z6 H6 st6 xs1 st7 _ r6 h8 fun J1 A1 Z7 H7 s7 b7 y7 nA => ?_
            have l7 := l6.step nbD s7 b7
            have r7 := r6.step s7 b7
            have notD1 : ¬ ownA Γ' σ3 D := fun h => by
              rcases o4 D h with w
              obtain ⟨k, dk, g1, g2⟩ := w
              obtain ⟨g3, g4⟩ := wipeΓ_some g1
              rw [wipe_get g4] at g2
              exact notD ⟨k, dk, g3, g2⟩
            have aD : ¬ A1 D := fun h => by
              rcases (nA rfl D h).2 with w | w
              · exact w l7.zD
              · rw [l6.hD] at w; cases w
            refine ⟨fun j k H' => ∃ Z' acc' dacc' stj rstj, k = xs1.length - j ∧ j ≤ xs1.length ∧ LS X.K W D Z1 H1 Z' H' acc' dacc' stj ∧ Stp W Z7 (upd H7 D (.lst [])) Z' (upd H' D (.lst [])) ∧ compL f1 (xs1.drop j) stj = some (rstj, st4) ∧ ys = dacc' ++ (rstj ++ zs),
              ⟨xs1.length, Z7, acc, dacc, st7, l, by omega, Nat.zero_le _, l7, Stp.refl fun a o h => ?_, h9, by rw [ey, er]⟩, ?_⟩
            · have hne : a ≠ D := fun z => by rw [z, l7.zD] at h; cases h
              exact ⟨by rw [upd_ne hne]; exact (l7.zh a o h).1, (l7.zh a o h).2⟩
            rintro j k H9 ⟨Z9, acc', dacc', stj, rstj, rfl, hj, l9, s9, run9, ey9⟩
            have ka1 : ∀ a o, A1 a → H7 a = some o → H9 a = some o := fun a o ha h => by
              have hne : a ≠ D := fun z => aD (z ▸ ha)
              have := s9.hh a o (by rw [upd_ne hne]; exact h) (y7.1 a ha).2
              rwa [upd_ne hne] at this
            have yy1 := y7.2 j Z9 H9 stj s9.zz l9.zh ka1 l9.sz l9.b
            have r9 : SR X.K W Γ' σ3 Z9 H9 stj := r7.lstp notD1 s9 l9.zh l9.sz l9.b
            by_cases hjl : j < xs1.length
            · have hd1 : xs1[j]? = some xs1[j] := List.getElem?_eq_getElem hjl
              rw [List.drop_eq_getElem_cons hjl] at run9
              obtain ⟨o, stk, g4, run10⟩ := bnd_some (show bnd (f1 xs1[j]) _ stj = some (rstj, st4) from run9)
              obtain ⟨zs1, st11, g5, run11⟩ := bnd_some run10
              obtain ⟨er1, rfl⟩ := ret_some run11
              obtain ⟨go1, yl1⟩ := yy1.2 _ hd1
              refine .inr ⟨go1, fun H' => ∃ Z' acc' dacc' stj rstj, LS X.K W D Z1 H1 Z' H' acc' dacc' stj ∧ Stp W Z7 (upd H7 D (.lst [])) Z' (upd H' D (.lst [])) ∧ compL f1 (xs1.drop (j + 1)) stj = some (rstj, st4) ∧ ys = dacc' ++ (rstj ++ zs), fun H' hN => ?_, fun x1 H10 hy1 => ?_⟩
              · obtain ⟨Z', acc', dacc', stj, rstj, q1, q2, q3, q4⟩ := hN
                exact ⟨xs1.length - (j + 1), by omega, Z', acc', dacc', stj, rstj, rfl, hjl, q1, q2, q3, q4⟩
              · obtain ⟨Z10, s10, b10, rx1⟩ := yl1 x1 H10 hy1
                intro s12 H12 C12 cl12 fp12
                have hXe := hX.blk scope s12 H12 C12 cl12 fp12
                rcases ob xs1[j] with ob' | ⟨Γ2, ws, ht1, hws, mt1, me, ot1, oe, en1⟩
                · rw [ob' stj] at g4; cases g4
                · obtain ⟨Γ3, u1, u2, t2, ⟨f1', f2'⟩, f3'⟩ := ht1
                  subst f1'
                  subst f2'
                  rw [List.append_nil] at f3'
                  subst f3'
                  rw [en1] at g4
                  obtain ⟨t', st13, g6, g7⟩ := bnd_some g4
                  refine t2 _ hXe W (wipe σ3 vs1) Z10 H10 stj x1 _ ((r9.step s10 b10).wipe) rx1 fun σ4 r10 w5 o5 => ?_
                  refine ⟨by
                    have := w5 vs1 hws
                    rw [this]
                    exact wipe_idem _ _ σ3 fun _ h => h, fun s14 H14 C14 cl14 fp14 => ?_⟩
                  have hXf := hX.blk scope s14 H14 C14 cl14 fp14
                  have l10 := l9.step nbD s10 b10
                  have step7 : ∀ {Za Ha : Hp}, Stp W Z9 H9 Za Ha → Stp W Z7 (upd H7 D (.lst [])) Za (upd Ha D (.lst [])) := fun t => s9.trans (t.at' nbD l9.hD l9.zD (l9.sz D acc' (.inl l9.hD))).1
                  refine ot1 _ hXf W σ4 Z10 H10 stj t' st13 _ r10 g6 fun Z15 H15 s15 b15 => ?_
                  have l15 := l10.step nbD s15 b15
                  cases t' with
                  | false =>
                    rw [if_neg Bool.false_ne_true] at g7 ⊢
                    obtain ⟨rfl, rfl⟩ := ret_some g7
                    exact ⟨Z15, acc', dacc', stk, zs1, l15, step7 (s10.trans s15), g5, by rw [ey9, er1]⟩
                  | true =>
                    rw [if_pos rfl] at g7 ⊢
                    obtain ⟨y, st16, g8, g9⟩ := bnd_some g7
                    obtain ⟨rfl, rfl⟩ := ret_some g9
                    intro s17 H17 C17 cl17 fp17
                    have hXg := hX.blk scope s17 H17 C17 cl17 fp17
                    refine oe _ hXg W σ4 Z15 H15 st13 y _ _ (r10.step s15 b15) g8 fun v Z18 H18 s18 b18 r18 => ?_
                    have l18 := l15.step nbD s18 b18
                    have hlen : acc'.length < sizeLine := by
                      have e1 := congrArg List.length ey9
                      have e2 := l9.r.length
                      rw [er1] at e1
                      simp only [List.length_append, List.length_cons] at e1
                      omega
                    refine ⟨acc', l18.hD, hlen, Z18, acc' ++ [v], dacc' ++ [y], stk, zs1, l18.push nbD r18 hlen, ?_, g5, ?_⟩
                    · rw [upd_upd]; exact step7 ((s10.trans s15).trans s18)
                    · rw [ey9, er1]; simp
            · have e : j = xs1.length := by omega
              subst e
              rw [List.drop_length] at run9
              obtain ⟨rfl, rfl⟩ := ret_some run9
              exact .inl ⟨yy1.1 (Nat.le_refl _), Z9, acc', dacc', st4, zs, l9, h5, by rw [ey9, List.nil_append]⟩
    · have e : i = xs.length := by omega
      subst e
      rw [List.drop_length] at run2
      obtain ⟨rfl, rfl⟩ := ret_some run2
      rw [List.append_nil] at ey
      subst ey
      refine .inl ⟨yy.1 (Nat.le_refl _), ?_⟩
      refine q (.ref D) Z2 H2 ⟨s1.zz.trans l2.s.zz, l2.zh, fun a o h nb => ?_, fun a o h => ?_, fun _ => l2.sz⟩ l2.b ⟨⟨D, acc, rfl, l2.hD, l2.r⟩, fun a ea _ => ?_⟩
      · have h' := s1.hh a o h nb
        have hne : a ≠ D := ne_of_none h' hD
        have := l2.s.hh a o (by rw [upd_ne hne]; exact h') nb
        rwa [upd_ne hne] at this
      · rcases l2.s.nw a o h with w | w
        · exact s1.nw a o w
        · by_cases e : a = D
          · subst e; rw [l2.zD] at h; cases h
          · rw [upd_ne e] at w
            cases q' : H a with
            | none => exact .inr rfl
            | some u => rw [s1.hh a u q' (l2.zh a o h).2] at w; cases w
      · cases ea
        exact ⟨fresh_back r.box b1 s1 hD, l2.zD, nbD⟩
  · rw [if_neg hys] at hm2; exact (stuck_some hm2).elim
theorem Ok.lc2 {scope : Scope} (own : List (Str × Nat)) (vs1 : List Nat) {mi : M S (List D)} {f : D → M S (List D)} (hi : OkI false C Γ tg iter mi)
    (hb : ∀ d, BindOk (C.blk scope) (wipeΓ Γ (own.map (·.2))) [tg] [d] (fun i => i ∈ own.map (·.2)) (fun Γ' n => ∃ mt mi1 f1, OkTs (C.blk scope) Γ' ifs mt ∧ OkI true (C.blk scope) Γ' tg1 iter1 mi1 ∧
      (∀ d1, BindOk (C.blk scope) (wipeΓ Γ' vs1) [tg1] [d1] (fun i => i ∈ vs1) (fun Γ2 n1 => ∃ mt1 me, OkTs (C.blk scope) Γ2 ifs1 mt1 ∧ Ok .E (C.blk scope) Γ2 elt me ∧ n1 = eltM mt1 me) (f1 d1)) ∧ n = elt2M mt mi1 f1) (f d))
    (hv : ∀ i ∈ vs1, i ∈ own.map (·.2) := by decide) (ok : blkC C.N C.sc scope own = true := by (try dsimp only [Stat.blk]); decide +kernel) (hs : ∀ (env : Env) x, foldedSetIterable iter env x = pure x := by intro _ _; rfl) (hs1 : ∀ (env : Env) x, foldedSetIterable iter1 env x = pure x := by intro _ _; rfl) :
    OkC C Γ (.ListComp elt [⟨tg, iter, ifs, 0⟩, ⟨tg1, iter1, ifs1, 0⟩] scope pos) (bnd mi fun xs => bnd (compLL f xs) fun ys => if ys.length ≤ sizeLine then Sn.ret (.lst ys) else Sn.stuck) := by
  refine ⟨.mk fun X hX W σ Z H st d st' Q r hm q => ?_, fun X hX i y py spos hN hyl hsw W σ Z H st d st' r hm => ?_⟩
  · exact tU_of (pe_lc2 (own := own) (vs1 := vs1) hX.calm (by rw [hX.N]; exact hX.nd) piU (blkOk_by (by rw [hX.N, hX.sc]; exact ok)) hv bG_ok bT_ok bI_ok bG_ok bT_ok bE_ok (hs _) hs1) (lc2_rd own vs1 hi hb X hX W σ Z H st d st' Q r hm q)
  · exact ⟨_, ps_setLc2 (own := own) (vs1 := vs1) hX.calm (by rw [hX.N]; exact hX.nd) (by rw [hX.N]; exact hN) (by rw [hX.sc]; exact hyl) hsw piU (blkOk_by (by rw [hX.N, hX.sc]; exact ok)) hv bG_ok bT_ok bI_ok bG_ok bT_ok bE_ok (hs _) hs1, fun Q q => lc2_rd own vs1 hi hb X hX W σ Z H st d st' Q r hm q⟩
end
section
variable {S : Type}
def comp2M (mi : M S (List D)) (f : D → M S (List D)) : M S D := bnd mi fun xs => bnd (compLL f xs) fun ys => if ys.length ≤ sizeLine then ret (.lst ys) else stuck
end
end Sn

namespace Sn
open PySem PySem.Spec PyProof.Rows L2
/-! ### methods of lists, as expressions -/
def mU (X : Cx) (id : String) : V → List V → Hp → VK → Prop := fun x xs H Q => ∀ (pins : List (Addr × Obj)) (s : Shared) (σ : L2.St) (v : Value) (us : List Value), Inv X pins σ H s → RelV x v → Vals xs us → wpAny (model X.prog X.w) X.A (call (.builtin id) (v :: us)) (EP X pins σ Q) X.xe s
theorem mrU {X : Cx} {id : String} : MtR X id (mU X id) := fun pins s σ H x xs v us Q I rx r h => h pins s σ v us I rx r
theorem mU_of {X : Cx} {id : String} {r : V → List V → Hp → VK → Prop} {x : V} {xs : List V} {H : Hp} {Q : VK} (h : MtR X id r) (q : r x xs H Q) : mU X id x xs H Q := fun pins s σ v us I rx r' => h pins s σ H x xs v us Q I rx r' q
/-- a method of a list, by data -/
def OpM (C : Stat) (id : String) (g : List D → List D → Option D) : Prop :=
  ∀ X, CtxP C X → ∀ {S : Type} [BoxS S] (W : Wd) (Z H : Hp) (st : S) (p : Addr) (vs : List V) (ds : List D) (xs : List V) (dxs : List D) (d : D) (Q : VK), (∀ a o, Z a = some o → H a = some o ∧ ¬ W.bx a) → Sz H → BoxS.R st W.β W.γ H →
    H p = some (.lst vs) → RepL X.K W.β Z ds vs → ResL X.K W (dxs.map fun _ => Md.V) H Z H dxs xs → g ds dxs = some d →
    (∀ v Z' H', Stp W Z H Z' H' → BoxS.R st W.β W.γ H' → Res X.K W .N H Z' H' d v → Q v H') → mU X id (.ref p) xs H Q
def mlD (g : List D → List D → Option D) (x : D) (xs : List D) : Option D :=
  match x with
  | .lst ds => g ds xs
  | _ => none
section
variable {S : Type} [BoxS S] {C : Stat} {Γ : SCx} {e a b : Expr} {es : List Expr} {m ma mb : M S D} {md : Md} {mds : List Md} {ap cp : Pos}
theorem Ok.mlist {id : String} {name : Str} {g : List D → List D → Option D} {mr : M S (List D)} (ho : OpM C id g) (slot : Slot "list" name id) (hty : typeOf (.builtin id) = pure (.type "method_descriptor")) (ha : Ok .V C Γ a ma) (hes : OkA mds C Γ (e :: es) mr)
    (hp : plainArg e = true := by rfl) (hbase : ∀ env : Env, attributeBase a name env (eval a env) = eval a env := by intro _; rfl)
    (hfew : ∀ env : Env, ((backTo cp (starEach (e :: es) env)).all (fun x => !x.1) && (backToKw cp (keywordEach [] env)).all (fun x => x.1.isSome) && decide ((e :: es).length + ([] : List Keyword).length + (if ([] : List Keyword).isEmpty then 0 else 1) < 30)) = true := by intro _; rfl)
    (hline : (ap.endLine == cp.line) = true := by rfl) (hpl : ∀ env : Env, (backTo cp (starEach es env)).any (·.1) = false := by intro _; rfl) :
    Ok .N C Γ (.Call (.Attribute a name ap) (e :: es) [] cp) (bnd ma fun x => bnd mr fun xs => lift (mlD g x xs)) := .mk fun X hX W σ Z H st d st' Q r hm q => by
  obtain ⟨x, st1, h1, hm1⟩ := bnd_some hm
  obtain ⟨xs, st2, h2, hm2⟩ := bnd_some hm1
  obtain ⟨hg, rfl⟩ := lift_some hm2
  cases x with
  | lst ds =>
    refine tU_of (pe_bm PySem.F.plainAttrs_list slot hty mrU peU paU (hbase _) (hfew _) hline (starEach_plain _ hp) (hpl _)) ?_
    refine ha X hX W σ Z H st _ st1 _ r h1 fun v Z1 H1 s1 b1 r1 => ?_
    have nb := r1.2
    obtain ⟨p, vs, rfl, hq, l⟩ := r1.1
    refine ⟨.inl ⟨rfl, _, .inl (.inl hq)⟩, ?_⟩
    refine hes X hX W σ Z1 H1 st1 xs _ _ (r.step s1 b1) h2 fun us Z2 H2 s2 b2 r2 => ?_
    have s12 := s1.trans s2
    exact ho X hX W Z2 H2 _ p vs ds us xs d Q s12.zh (s12.sz r.sz) b2 (s2.hh _ _ hq (nb p rfl rfl)) (l.mono s2.zz) (r2.views s2.zh) hg fun v Z' H' s' b' r' => q v Z' H' (s12.trans s') b' (r'.back r.box b2 s12)
  | _ => cases hg
end
def countD (ds xs : List D) : Option D :=
  match xs with
  | [.int k] => (asInts ds).map fun is => .int (is.count k : Nat)
  | _ => none
theorem o_count {C : Stat} : OpM C "list.count" countD := fun X hX S _ W Z H st p vs ds xs dxs d Q zh sz bx hq l r0 hg q => by
  match dxs, hg with
  | [.int k], hg =>
    obtain ⟨is, e, rfl⟩ := Option.map_eq_some_iff.mp hg
    obtain ⟨v, rfl, r⟩ := r0.one
    cases r
    have := asInts_rep l e
    subst this
    exact mU_of mt_lcount ⟨p, is, k, rfl, rfl, .inl (.inl hq), fin_plain zh bx (.int _) rfl q⟩
section
variable {S : Type}
def mlM (g : List D → List D → Option D) (ma : M S D) (mr : M S (List D)) : M S D := bnd ma fun x => bnd mr fun xs => lift (mlD g x xs)
end
end Sn

namespace Sn
open PySem PySem.Spec PyProof.Rows L2
/-! ### dicts whose keys are ints and texts -/
def kq : D → Option Key
  | .int i => some (.inl i)
  | .str x => some (.inr x)
  | _ => none
theorem kq_keyD (k : Key) : kq (keyD k) = some k := by cases k <;> rfl
theorem keyD_of {d : D} {k : Key} (h : kq d = some k) : d = keyD k := by
  cases d <;> first | (cases h; rfl) | cases h
def dget (ds : List (D × D)) (k : Key) : Option D := (ds.find? fun p => decide (kq p.1 = some k)).map (·.2)
def dput (ds : List (D × D)) (k : Key) (v : D) : List (D × D) :=
  if (ds.any fun p => decide (kq p.1 = some k)) = true then ds.map (fun p => if kq p.1 = some k then (p.1, v) else p) else ds ++ [(keyD k, v)]
section
variable {K : PySem.W.Frag} {β : Addr} {Z : Hp}
theorem kq_same {k j : Key} : decide (kq (keyD k) = some j) = decide (k = j) := by
  rw [kq_keyD, decide_eq_decide]
  exact ⟨fun h => Option.some.inj h, fun h => by rw [h]⟩
theorem RepK.get {k : Key} : ∀ {ds : List (D × D)} {kvs : List (Key × V)}, RepK K β Z ds kvs → (dget ds k = none ∧ valV kvs k = none) ∨ ∃ d v, dget ds k = some d ∧ valV kvs k = some v ∧ Rep K β Z d v
  | _, _, .nil => .inl ⟨rfl, rfl⟩
  | _, _, .cons (k := k') (d := d) (v := v) (ds := ds') h r => by
    by_cases e : k' = k
    · refine .inr ⟨d, v, ?_, valV_pos e, h⟩
      unfold dget
      rw [List.find?_cons, kq_same, decide_eq_true e]
      rfl
    · have e2 : dget ((keyD k', d) :: ds') k = dget ds' k := by
        unfold dget
        rw [List.find?_cons, kq_same, decide_eq_false e]
      rw [e2, valV_neg (p := (k', v)) e]
      exact RepK.get r
theorem RepK.any {k : Key} : ∀ {ds : List (D × D)} {kvs : List (Key × V)}, RepK K β Z ds kvs → (ds.any fun p => decide (kq p.1 = some k)) = kvs.any fun kv => decide (kv.1 = k)
  | _, _, .nil => rfl
  | _, _, .cons h r => by rw [List.any_cons, List.any_cons, kq_same, RepK.any r]
theorem RepK.repl {k : Key} {d : D} {v : V} (q : Rep K β Z d v) : ∀ {ds : List (D × D)} {kvs : List (Key × V)}, RepK K β Z ds kvs → RepK K β Z (ds.map fun p => if kq p.1 = some k then (p.1, d) else p) (kvs.map fun kv => if kv.1 = k then (kv.1, v) else kv)
  | _, _, .nil => .nil
  | _, _, .cons (k := k') (d := d') (v := v') h r => by
    rw [List.map_cons, List.map_cons]
    by_cases e : k' = k
    · rw [if_pos (by rw [kq_keyD, e] : kq (keyD k', d').1 = some k), if_pos (e : (k', v').1 = k)]
      exact .cons q (RepK.repl q r)
    · rw [if_neg (fun h => e (Option.some.inj ((kq_keyD k').symm.trans h)) : ¬ kq (keyD k', d').1 = some k), if_neg (e : ¬ (k', v').1 = k)]
      exact .cons h (RepK.repl q r)
theorem RepK.app {k : Key} {d : D} {v : V} (q : Rep K β Z d v) : ∀ {ds : List (D × D)} {kvs : List (Key × V)}, RepK K β Z ds kvs → RepK K β Z (ds ++ [(keyD k, d)]) (kvs ++ [(k, v)])
  | _, _, .nil => .cons q .nil
  | _, _, .cons h r => .cons h (RepK.app q r)
theorem RepK.put {k : Key} {d : D} {v : V} {ds : List (D × D)} {kvs : List (Key × V)} (r : RepK K β Z ds kvs) (q : Rep K β Z d v) : RepK K β Z (dput ds k d) (putK kvs k v) := by
  unfold dput putK
  rw [r.any]
  split
  · exact RepK.repl q r
  · exact RepK.app q r
theorem RepT.false : ∀ {es : List (D × D)} {us : List (List Key × V)}, RepT K β Z es us → False
  | _, _, .cons _ r => RepT.false r
theorem RepK.length : ∀ {ds : List (D × D)} {kvs : List (Key × V)}, RepK K β Z ds kvs → ds.length = kvs.length
  | _, _, .nil => rfl
  | _, _, .cons _ r => by rw [List.length_cons, List.length_cons, RepK.length r]
theorem kV_rep {k : Key} {v : V} {d : D} (e : d = keyD k) (r : Rep K β Z d v) : v = kV k := by
  subst e
  cases k with
  | inl i => cases r; rfl
  | inr x => cases r; rfl
end
section
variable {S : Type} [BoxS S] {C : Stat} {Γ : SCx} {e a b c : Expr} {es : List Expr} {m ma mb mc : M S D} {md : Md} {mds : List Md} {pos ap cp : Pos}
/-- {} -/
theorem Ok.dnew : Ok (S := S) .N C Γ (.Dict [] [] pos) (ret (.dct [])) := .mk fun X hX W σ Z H st d st' Q r hm q => by
  obtain ⟨rfl, rfl⟩ := ret_some hm
  refine tU_of pe_dnewK fun p hp => ?_
  have s2 := Stp.layH (o := .dK []) r.zh hp trivial
  refine q _ _ _ s2 (box_lay r.box hp) ⟨⟨p, rfl, .inl ⟨[], upd_same, .nil⟩⟩, fun a ea _ => ?_⟩
  cases ea
  exact ⟨hp, z_none r.zh hp, BoxS.bxThere r.box hp⟩
/-- a[k] of a dict -/
def dixD (x k : D) : Option D :=
  match x with
  | .dct ds => (kq k).bind (dget ds)
  | _ => none
/-- a[k]: lists, tuples, texts, dicts -/
def ix2D (x k : D) : Option D :=
  match x with
  | .dct ds => (kq k).bind (dget ds)
  | x => ixD x k
theorem Ok.ix2 (ha : Ok .V C Γ a ma) (hb : Ok .V C Γ b mb) (hs : PlainIx b := by exact fun _ _ => rfl) (hn : NoSl b := by exact fun _ _ => rfl) : Ok .E C Γ (.Subscript a b pos) (bnd ma fun x => bnd mb fun y => lift (ix2D x y)) := .mk fun X hX W σ Z H st d st' Q r hm q => by
  obtain ⟨x, st1, h1, hm1⟩ := bnd_some hm
  obtain ⟨y, st2, h2, hm2⟩ := bnd_some hm1
  obtain ⟨hg, rfl⟩ := lift_some hm2
  have other : ixD x y = some d → tU X (.Subscript a b pos) σ H Q := fun hg' => by
    refine Ok.ix (pos := pos) ha hb hs X hX W σ Z H st d _ Q r ?_ q
    show bnd ma _ st = _
    unfold bnd
    rw [h1]
    show bnd mb _ st1 = _
    unfold bnd
    rw [h2]
    show lift (ixD x y) st' = _
    rw [hg']; rfl
  cases x with
  | dct ds =>
    obtain ⟨k, hk, hg2⟩ := Option.bind_eq_some_iff.mp (show (kq y).bind (dget ds) = some d from hg)
    refine tU_of (pe_dget (by have := hX.units; omega) peU peU hn) (Ok.two ha hb hX r h1 h2 fun vx vy Z2 H2 s2 b2 r1 r2 => ?_)
    have ey := keyD_of hk
    subst ey
    have ev : vy = kV k := by
      cases k with
      | inl i => cases r2.1; rfl
      | inr z => cases r2.1; rfl
    subst ev
    obtain ⟨p, rfl, ⟨kvs, hq, l⟩ | ⟨kvs, hq, l⟩⟩ := r1.1
    · rcases l.get (k := k) with ⟨g1, g2⟩ | ⟨d', v, g1, g2, g3⟩
      · rw [hg2] at g1; cases g1
      · rw [hg2] at g1; cases g1
        exact ⟨p, v, rfl, by rw [← g2]; exact DGet.k hq, q v Z2 H2 s2 b2 g3⟩
    · exact l.false.elim
  | _ => exact other hg
/-- d.get(k, z) -/
def dgetD (x k z : D) : Option D :=
  match x with
  | .dct ds => (kq k).map fun k => (dget ds k).getD z
  | _ => none
theorem Ok.get2 (ha : Ok .V C Γ a ma) (hb : Ok .V C Γ b mb) (hc : Ok .E C Γ c mc) (hm : ∀ X, CtxP C X → M2 X a "get" ap b c cp) : Ok .E C Γ (.Call (.Attribute a "get" ap) [b, c] [] cp) (bnd ma fun x => bnd mb fun y => bnd mc fun z => lift (dgetD x y z)) := .mk fun X hX W σ Z H st d st' Q r hm' q => by
  obtain ⟨x, st1, h1, hm1⟩ := bnd_some hm'
  obtain ⟨y, st2, h2, hm2⟩ := bnd_some hm1
  obtain ⟨z, st3, h3, hm3⟩ := bnd_some hm2
  obtain ⟨hg, rfl⟩ := lift_some hm3
  cases x with
  | dct ds =>
    obtain ⟨k, hk, rfl⟩ := Option.map_eq_some_iff.mp (show (kq y).map (fun k => (dget ds k).getD z) = some d from hg)
    refine tU_of (pe_dget2 (by have := hX.units; omega) peU peU peU (hm X hX)) ?_
    refine ha X hX W σ Z H st _ st1 _ r h1 fun v1 Z1 H1 s1 b1 r1 => ?_
    have rr1 := r.step s1 b1
    have nb := r1.2
    obtain ⟨p, rfl, hd⟩ := r1.1
    refine ⟨p, rfl, hd.elim (fun ⟨kvs, hq, _⟩ => .inl ⟨kvs, .inl hq⟩) (fun ⟨kvs, hq, _⟩ => .inr ⟨kvs, .inl hq⟩), ?_⟩
    refine hb X hX W σ Z1 H1 st1 y st2 _ rr1 h2 fun v2 Z2 H2 s2 b2 r2 => ?_
    have ey := keyD_of hk
    subst ey
    have ev : v2 = kV k := by
      cases k with
      | inl i => cases r2.1; rfl
      | inr z => cases r2.1; rfl
    subst ev
    refine hc X hX W σ Z2 H2 st2 z _ _ (rr1.step s2 b2) h3 fun v3 Z3 H3 s3 b3 r3 => ?_
    have s23 := s2.trans s3
    have s13 := s1.trans s23
    rcases hd with ⟨kvs, hq, l⟩ | ⟨kvs, hq, l⟩
    · have hq3 := s23.hh _ _ hq (nb p rfl rfl)
      have l3 : RepK X.K W.β Z3 ds kvs := l.mono s23.zz
      refine ⟨valV kvs k, DGet.k hq3, ?_⟩
      rcases l3.get (k := k) with ⟨g1, g2⟩ | ⟨d', v, g1, g2, g3⟩
      · rw [g2]
        rw [g1] at q
        exact q v3 Z3 H3 s13 b3 r3
      · rw [g2]
        rw [g1] at q
        exact q v Z3 H3 s13 b3 g3
    · exact l.false.elim
  | _ => cases hg
end
/-- d[k] = e -/
def dsetD (d k y : D) : Option D :=
  match d with
  | .dct ds => if ds.length < sizeLine then (kq k).map fun k => .dct (dput ds k y) else none
  | _ => none
section
variable {S : Type} [BoxS S] {C : Stat} {Γ : SCx} {e b : Expr} {rest : List Stmt} {me mk : M S D} {pos p pp : Pos} {τ l : Type} {T : Tg τ l} {i : Nat} {x : Str} {d : D}
theorem OkB.dset {k : D → M S (Fl τ l)} (hN : C.N[i]? = some x) (hv : Vis C.sc x) (h0 : Γ[i]? = some (some (.own d))) (he : Ok .E C Γ e me) (hk : Ok .V C Γ b mk) (hb : ∀ d', OkB C (Γ.set i (some (.own d'))) rest T (k d'))
    (hd : (x == ("__debug__" : Str)) = false := by decide) (hcd : (x == ("__classdict__" : Str)) = false := by decide) (hs : ∀ env : Env, swapsWith e (some (.Subscript (.Name x p) b pp)) pos.line env = pure false := by intro _; rfl) :
    OkB C Γ (.Assign [.Subscript (.Name x p) b pp] e pos :: rest) T (bnd me fun y => bnd mk fun j => bnd (lift (dsetD d j y)) k) := .mk fun X hX W σ Z H st f st' D r hm q => by
  obtain ⟨y, st1, h1, hm1⟩ := bnd_some hm
  obtain ⟨j, st2, h2, hm2⟩ := bnd_some hm1
  obtain ⟨d', st3, h3, hm3⟩ := bnd_some hm2
  obtain ⟨hg, rfl⟩ := lift_some h3
  cases d with
  | dct ds =>
    have hg' : (if ds.length < sizeLine then (kq j).map fun k => Sn.D.dct (dput ds k y) else none) = some d' := hg
    split at hg'
    · rename_i hl
      obtain ⟨kk, hkk, rfl⟩ := Option.map_eq_some_iff.mp hg'
      refine tUS_of (pss_cons (ps_dput (by have := hX.units; omega) (pe_var (i := i) (by rw [hX.N]; exact hN) (by rw [hX.sc]; exact hv) hd hcd) peU peU (hs _)) pssU) ?_
      refine he X hX W σ Z H st y _ _ r h1 fun v Z1 H1 s1 b1 r1 => ?_
      have rr := r.step s1 b1
      obtain ⟨pa, ep, z, nb, mu, lr⟩ := rr.own i _ h0
      refine ⟨_, ep, ?_⟩
      refine hk X hX W σ Z1 H1 st1 _ _ _ rr h2 fun vj Z2 H2 s2 b2 r2 => ?_
      have rr2 := rr.step s2 b2
      have ey := keyD_of hkk
      subst ey
      have ev : vj = kV kk := by
        cases kk with
        | inl i => cases r2.1; rfl
        | inr z => cases r2.1; rfl
      subst ev
      obtain ⟨p', ea, ⟨kvs, hq, l⟩ | ⟨kvs, hq, l⟩⟩ := lr
      · cases ea
        have hq1 := s2.hh _ _ hq nb
        have ll := l.length
        refine ⟨pa, upd H2 pa (.dK (putK kvs kk v)), rfl, DPut.k hq1 (by rw [← ll]; exact hl), ?_⟩
        refine hb _ X hX W σ Z2 (upd H2 pa (.dK (putK kvs kk v))) _ f st' D (rr2.mut (d' := Sn.D.dct (dput ds kk y)) h0 ep rfl ⟨pa, rfl, .inl ⟨_, upd_same, (l.mono s2.zz).put (r1.mono s2.zz)⟩⟩ trivial) hm3 ?_
        exact (q.after (s1.trans s2).bst OwLe.refl (Γ1 := Γ) (σ1 := σ)).after (bst_mut rr2 h0 ep trivial) fun a h => .inl (own_mut h0 h)
      · exact l.false.elim
    · cases hg'
  | _ => cases hg
end
end Sn

namespace Sn
open PySem PySem.Spec PyProof.Rows L2
/-! ### sorted -/
theorem sorted_one : ∀ {a b : List Int}, a.Perm b → a.Pairwise (· ≤ ·) → b.Pairwise (· ≤ ·) → a = b
  | [], b, h, _, _ => (List.nil_perm.mp h).symm ▸ rfl
  | x :: a, [], h, _, _ => by have := h.length_eq; simp at this
  | x :: a, y :: b, h, ha, hb => by
    have hx : x ∈ y :: b := h.mem_iff.mp List.mem_cons_self
    have hy : y ∈ x :: a := h.mem_iff.mpr List.mem_cons_self
    have e : x = y := by
      rcases List.mem_cons.mp hx with q | q
      · exact q
      · rcases List.mem_cons.mp hy with q2 | q2
        · exact q2.symm
        · have h1 := (List.pairwise_cons.mp hb).1 x q
          have h2 := (List.pairwise_cons.mp ha).1 y q2
          omega
    subst e
    rw [sorted_one (h.cons_inv) (List.pairwise_cons.mp ha).2 (List.pairwise_cons.mp hb).2]
def sortI (is : List Int) : List Int := is.mergeSort fun a b => decide (a ≤ b)
theorem sortI_perm (is : List Int) : (sortI is).Perm is := List.mergeSort_perm _ _
theorem sortI_le (is : List Int) : (sortI is).Pairwise (· ≤ ·) := by
  have := List.pairwise_mergeSort (le := fun a b : Int => decide (a ≤ b)) (fun a b c h1 h2 => by simp at h1 h2 ⊢; omega) (fun a b => by simp; omega) is
  exact this.imp fun h => of_decide_eq_true h
theorem sortI_of {is ys : List Int} (h : ys.Perm is) (h2 : ys.Pairwise (· ≤ ·)) : ys = sortI is := sorted_one (h.trans (sortI_perm is).symm) h2 (sortI_le is)
def sortedD : List D → Option D
  | [.lst xs] => (asInts xs).map fun is => .lst ((sortI is).map .int)
  | [.dct ds] => (asInts (ds.map (·.1))).bind fun is => if is.length < 64 then some (.lst ((sortI is).map .int)) else none
  | _ => none
theorem repL_ints {K : PySem.W.Frag} {β : Addr} {Z : Hp} : ∀ is : List Int, RepL K β Z (is.map D.int) (is.map V.int)
  | [] => .nil
  | i :: is => .cons (.int i) (repL_ints is)
theorem RepK.keysI {K : PySem.W.Frag} {β : Addr} {Z : Hp} : ∀ {ds : List (D × D)} {kvs : List (Key × V)} {is : List Int}, RepK K β Z ds kvs → asInts (ds.map (·.1)) = some is → kvs.map (·.1) = is.map Sum.inl
  | _, _, _, .nil, h => by cases h; rfl
  | _, _, is, .cons (k := k) (ds := ds) h r, e => by
    cases k with
    | inl i =>
      rw [List.map_cons] at e
      obtain ⟨js, e2, rfl⟩ := Option.map_eq_some_iff.mp (show (asInts (ds.map (·.1))).map (fun is => i :: is) = some is from e)
      rw [List.map_cons, List.map_cons, RepK.keysI r e2]
    | inr x => cases e
theorem o_sorted {C : Stat} : OpL C (.builtin "sorted") sortedD := fun X hX S _ W Z H st xs dxs d Q zh sz bx r0 hg q => by
  match dxs, hg with
  | [.lst ds], hg =>
    obtain ⟨is, e, rfl⟩ := Option.map_eq_some_iff.mp hg
    obtain ⟨v, rfl, r⟩ := r0.one
    obtain ⟨a, vs, rfl, h, l⟩ := r
    have ev := asInts_rep l e
    subst ev
    refine cU_of cr_sortedI ⟨a, is, rfl, .inl (.inl h), fun ys p hp hs hn => ?_⟩
    rw [sortI_of hp hs]
    have hl : ((sortI is).map V.int).length ≤ sizeLine := by rw [List.length_map, (sortI_perm is).length_eq]; have := sz.lst h; rw [List.length_map] at this; exact this
    exact fin_lst zh bx hn (repL_ints _) hl q
  | [.dct ds], hg =>
    obtain ⟨is, e, hg2⟩ := Option.bind_eq_some_iff.mp hg
    split at hg2
    · rename_i h64
      cases hg2
      obtain ⟨v, rfl, r⟩ := r0.one
      obtain ⟨a, rfl, ⟨kvs, h, l⟩ | ⟨kvs, h, l⟩⟩ := r
      · refine cU_of (call_sortedDI hX.calm) ⟨a, kvs, is, rfl, .inl h, l.keysI e, h64, fun ys p hp hs hn => ?_⟩
        rw [sortI_of hp hs]
        exact fin_lst zh bx hn (repL_ints _) (by rw [List.length_map, (sortI_perm is).length_eq, sizeLine_eq]; omega) q
      · exact l.false.elim
    · cases hg2
/-! ### dict(..) -/
def asKV : List D → Option (List (Key × D))
  | [] => some []
  | .tup [k, v] :: ds => (kq k).bind fun k => (asKV ds).map fun r => (k, v) :: r
  | _ => none
def dictD : List D → Option D
  | [.lst ps] => (asKV ps).map fun r => .dct (r.foldl (fun acc p => dput acc p.1 p.2) [])
  | [.dct ds] => some (.dct ds)
  | _ => none
theorem asKV_rep {K : PySem.W.Frag} {β : Addr} {Z H : Hp} (zh : Sub Z H) : ∀ {ds : List D} {vs : List V} {r : List (Key × D)}, RepL K β Z ds vs → asKV ds = some r → ∃ (ps : List Addr) (kvs : List (Key × V)), vs = ps.map V.ref ∧ Paired (fun p kv => SqT K H p [kV kv.1, kv.2]) ps kvs ∧ (∀ {acc : List (D × D)} {acc' : List (Key × V)}, RepK K β Z acc acc' → RepK K β Z (r.foldl (fun acc p => dput acc p.1 p.2) acc) (mergeK acc' kvs))
  | _, _, _, .nil, h => by cases h; exact ⟨[], [], rfl, .nil, fun q => q⟩
  | _, _, r, .cons (d := d) (ds := ds) h t, e => by
    cases d with
    | tup xs =>
      match xs, e with
      | [k, v], e =>
        obtain ⟨kk, hk, e2⟩ := Option.bind_eq_some_iff.mp (show (kq k).bind (fun k => (asKV ds).map fun r => (k, v) :: r) = some r from e)
        obtain ⟨r', e3, rfl⟩ := Option.map_eq_some_iff.mp e2
        obtain ⟨ps, kvs, rfl, h2, h3⟩ := asKV_rep zh t e3
        cases h with
        | tup hq l =>
          cases l with
          | cons l1 l =>
            cases l with
            | cons l2 l =>
              cases l
              have ek := kV_rep (keyD_of hk) l1
              subst ek
              exact ⟨_ :: ps, (kk, _) :: kvs, rfl, .cons (zh.sqT hq) h2, fun q => h3 (q.put l2)⟩
    | _ => cases e
theorem o_dict {C : Stat} : OpL C (.type "dict") dictD := fun X hX S _ W Z H st xs dxs d Q zh sz bx r0 hg q => by
  have fin : ∀ {p : Addr} {ds : List (D × D)} {kvs : List (Key × V)}, H p = none → RepK X.K W.β Z ds kvs → (∀ v Z' H', Stp W Z H Z' H' → BoxS.R st W.β W.γ H' → Res X.K W .N H Z' H' (.dct ds) v → Q v H') → Q (.ref p) (upd H p (.dK kvs)) := fun {p ds kvs} hp hr q => by
    have s2 := Stp.layH (o := .dK kvs) zh hp trivial
    refine q _ _ _ s2 (box_lay bx hp) ⟨⟨p, rfl, .inl ⟨kvs, upd_same, hr⟩⟩, fun a ea _ => ?_⟩
    cases ea
    exact ⟨hp, z_none zh hp, BoxS.bxThere bx hp⟩
  match dxs, hg with
  | [.lst ps], hg =>
    obtain ⟨r', e, rfl⟩ := Option.map_eq_some_iff.mp hg
    obtain ⟨v, rfl, r⟩ := r0.one
    obtain ⟨a, vs, rfl, h, l⟩ := r
    obtain ⟨as, kvs, rfl, h2, h3⟩ := asKV_rep (subOf zh) l e
    exact cU_of (call_dictP hX.calm) ⟨a, as, kvs, rfl, .inl (.inl h), h2, fun p hp => fin hp (h3 .nil) q⟩
  | [.dct ds], hg =>
    cases hg
    obtain ⟨v, rfl, r⟩ := r0.one
    obtain ⟨a, rfl, ⟨kvs, h, l⟩ | ⟨kvs, h, l⟩⟩ := r
    · exact cU_of call_dictD ⟨a, kvs, rfl, .inl h, fun p hp => fin hp l q⟩
    · exact l.false.elim
section
variable {S : Type} {τ l : Type}
def ix2M (ma mb : M S D) : M S D := bnd ma fun x => bnd mb fun y => lift (ix2D x y)
def get2M (ma mb mc : M S D) : M S D := bnd ma fun x => bnd mb fun y => bnd mc fun z => lift (dgetD x y z)
def dsetM (d : D) (me mk : M S D) (k : D → M S (Fl τ l)) : M S (Fl τ l) := bnd me fun y => bnd mk fun j => bnd (lift (dsetD d j y)) k
end
end Sn

namespace Sn
open PySem PySem.Spec PyProof.Rows L2
/-! ### sorted, min, max, < of any plain data -/
def ltB (x y : D) : Bool := PySem.W.dataLt (toPy x) (toPy y)
def leB (x y : D) : Bool := !ltB y x
def alB (x y : D) : Bool := PySem.W.alike (toPy x) (toPy y)
def isTupD : D → Bool
  | .tup (_ :: _) => true
  | _ => false
def othD : D → Bool
  | .non => false
  | .tup _ => false
  | _ => true
structure SrtOk (xs : List D) : Prop where
  sh : ∀ x ∈ xs, shD x = true
  dp : ∀ x ∈ xs, (toPy x).depth ≤ 60
  al : ∀ x ∈ xs, ∀ y ∈ xs, alB x y = true
  kd : (∀ x ∈ xs, isTupD x = true) ∨ ∀ x ∈ xs, othD x = true
def sortL (xs : List D) : List D := xs.mergeSort leB
theorem toPys_map : ∀ xs : List D, toPys xs = xs.map toPy
  | [] => rfl
  | x :: xs => by rw [toPys, toPys_map xs, List.map_cons]
def rSortedG (K : PySem.W.Frag) : List V → Hp → VK → Prop := fun us H Q => ∃ (a : Addr) (vs : List V) (ds : List D), us = [V.ref a] ∧ SqL K H a vs ∧ DpAll K H vs (ds.map toPy) ∧ SrtOk ds ∧
  ∀ (bs : List (V × D)) (p : Addr), (vs.zip ds).Perm bs → bs.map (·.2) = sortL ds → H p = none → Q (.ref p) (upd H p (.lst (bs.map (·.1))))
theorem each_of {h : Heap} : ∀ {vs : List V} {us : List Value} {ds : List D} {as : List Addr}, Vals vs us → ReadsAll h us (ds.map toPy) as → PySem.W.EachIs (fun u (b : V × D) => RelV b.1 u) us (vs.zip ds) ∧ PySem.W.EachIs (fun u (b : V × D) => ∃ as, Reads h u (toPy b.2) as) us (vs.zip ds) ∧ (vs.zip ds).map (·.2) = ds ∧ (vs.zip ds).map (·.1) = vs
  | _, _, [], _, .nil, .nil => ⟨.nil, .nil, rfl, rfl⟩
  | _, _, d :: ds, _, .cons r rs, .cons q qs => by
    obtain ⟨h1, h2, h3, h4⟩ := each_of rs qs
    exact ⟨.cons r h1, .cons ⟨_, q⟩ h2, by rw [List.zip_cons_cons, List.map_cons, h3], by rw [List.zip_cons_cons, List.map_cons, h4]⟩
theorem each_vals : ∀ {us : List Value} {bs : List (V × D)}, PySem.W.EachIs (fun u (b : V × D) => RelV b.1 u) us bs → Vals (bs.map (·.1)) us
  | _, _, .nil => .nil
  | _, _, .cons h r => .cons h (each_vals r)
theorem SrtOk.all {xs : List D} (h : SrtOk xs) : PySem.W.AllAlike (xs.map toPy) := by
  intro d hd d' hd'
  obtain ⟨x, hx, rfl⟩ := List.mem_map.mp hd
  obtain ⟨y, hy, rfl⟩ := List.mem_map.mp hd'
  exact h.al x hx y hy
theorem SrtOk.sortable {xs : List D} (h : SrtOk xs) : PySem.W.Sortable (xs.map toPy) := by
  rcases h.kd with k | k
  · refine .inl fun d hd => ?_
    obtain ⟨x, hx, rfl⟩ := List.mem_map.mp hd
    have := k x hx
    match x, this with
    | .tup (y :: r), _ => exact ⟨toPy y, toPys r, rfl⟩
  · refine .inr fun d hd => ?_
    obtain ⟨x, hx, rfl⟩ := List.mem_map.mp hd
    have := k x hx
    have s := h.sh x hx
    cases x with
    | non => cases this
    | tup _ => cases this
    | bl _ => exact ⟨by simp [toPy], by simp [toPy]⟩
    | int _ => exact ⟨by simp [toPy], by simp [toPy]⟩
    | str _ => exact ⟨by simp [toPy], by simp [toPy]⟩
    | lst _ => exact ⟨by simp [toPy], by simp [toPy]⟩
    | dct _ => simp [shD, SeqAt.shaped, toPy, PyData.canLay0] at s
    | box => simp [shD, SeqAt.shaped, toPy, PyData.canLay0] at s
theorem shD_depth {x : D} (h : shD x = true) : (toPy x).depth ≤ 64 := SeqAt.depth_of_shaped h
theorem dataLe_map (bs : List (V × D)) : (bs.mergeSort (PySem.W.dataLe false fun b : V × D => toPy b.2)).map (·.2) = sortL (bs.map (·.2)) := by
  unfold sortL
  rw [List.map_mergeSort]
  intro a _ b _
  rfl
theorem cr_sortedG {X : Cx} (hu : X.A.units + 65 < cLine) : CallR X (.builtin "sorted") (rSortedG X.K) := by
  intro pins s σ H us vs Q I r h
  obtain ⟨a, ws, ds, rfl, hs, hd, ok, q⟩ := h
  obtain ⟨its, rv, hl, hz⟩ := I.list hs
  rw [Vals.ref1 r]
  obtain ⟨as, ra⟩ := Dp.readsAll I _ _ _ hd rv
  obtain ⟨e1, e2, e3, e4⟩ := each_of rv ra
  refine PySem.W.sorted_data (enc := fun b : V × D => toPy b.2) hl.isList e1 e2 ?_ ?_ ?_ (fun b hb => ?_) fun out hlen eo => ?_
  · have := ok.all
    rw [← e3, List.map_map] at this
    exact this
  · have := ok.sortable
    rw [← e3, List.map_map] at this
    exact this
  · have := congrArg List.length e4
    rw [List.length_map] at this
    omega
  · have hb2 : b.2 ∈ ds := by rw [← e3]; exact List.mem_map.mpr ⟨b, hb, rfl⟩
    have := ok.dp _ hb2
    omega
  · obtain ⟨ep, he'⟩ := PyProof.Rows.sortedAll_at s.heap its out.toArray
    have hv := each_vals eo
    have hperm := (List.mergeSort_perm (ws.zip ds) (PySem.W.dataLe false fun b : V × D => toPy b.2)).symm
    have hlen2 : (((ws.zip ds).mergeSort (PySem.W.dataLe false fun b : V × D => toPy b.2)).map (·.1)).length ≤ sizeLine := by
      rw [List.length_map, ← hperm.length_eq]
      have := congrArg List.length e4
      rw [List.length_map] at this
      omega
    exact ⟨.ref _, upd H (s.heap.objs.size + 1) (.lst _), I.laid (t' := s.toks) (fun _ _ => PyProof.Rows.sortedAll_old) (Nat.le_succ _) ⟨hlen2, out, ep, hv, he'⟩, rfl, q _ _ hperm (by rw [dataLe_map, e3]) (I.hok.fresh (Nat.le_succ _))⟩
theorem RepL.zip {K : PySem.W.Frag} {β : Addr} {Z : Hp} : ∀ {ds : List D} {vs : List V}, RepL K β Z ds vs → ∀ b ∈ vs.zip ds, Rep K β Z b.2 b.1
  | _, _, .nil, _, h => by cases h
  | _, _, .cons r t, b, h => by
    rw [List.zip_cons_cons, List.mem_cons] at h
    rcases h with rfl | h
    · exact r
    · exact RepL.zip t b h
theorem repL_pairs {K : PySem.W.Frag} {β : Addr} {Z : Hp} : ∀ {bs : List (V × D)}, (∀ b ∈ bs, Rep K β Z b.2 b.1) → RepL K β Z (bs.map (·.2)) (bs.map (·.1))
  | [], _ => .nil
  | b :: bs, h => .cons (h b List.mem_cons_self) (repL_pairs fun c hc => h c (List.mem_cons_of_mem _ hc))
open Classical in
noncomputable def sorted2D (xs : List D) : Option D :=
  match xs with
  | [.lst xs] => if SrtOk xs then some (.lst (sortL xs)) else none
  | [.dct ds] => sortedD [.dct ds]
  | _ => none
theorem sorted2_lst {xs : List D} (h : SrtOk xs) : sorted2D [.lst xs] = some (.lst (sortL xs)) := if_pos h
theorem sorted2_inv {xs : List D} {d : D} (h : sorted2D xs = some d) : (∃ ds, xs = [.lst ds] ∧ SrtOk ds ∧ d = .lst (sortL ds)) ∨ ∃ ds, xs = [.dct ds] ∧ sortedD [.dct ds] = some d := by
  unfold sorted2D at h
  split at h
  · rename_i ds
    by_cases c : SrtOk ds
    · rw [if_pos c] at h
      exact .inl ⟨ds, rfl, c, (Option.some.inj h).symm⟩
    · rw [if_neg c] at h; cases h
  · exact .inr ⟨_, rfl, h⟩
  · cases h
theorem shD_lay {x : D} (h : shD x = true) : (toPy x).canLay0 = true := SeqAt.canLay_of_shaped h
theorem RepL.dpM {K : PySem.W.Frag} {β : Addr} {Z : Hp} : ∀ {ds : List D} {vs : List V}, RepL K β Z ds vs → (∀ x ∈ ds, shD x = true) → DpAll K Z vs (ds.map toPy)
  | _, _, .nil, _ => .nil
  | _, _, .cons r t, h => .cons (Rep.dp r (shD_lay (h _ List.mem_cons_self))) (RepL.dpM t fun x hx => h x (List.mem_cons_of_mem _ hx))
theorem o_sorted2 {C : Stat} : OpL C (.builtin "sorted") sorted2D := fun X hX S _ W Z H st xs dxs d Q zh sz bx r0 hg q => by
  rcases sorted2_inv hg with ⟨ds, rfl, ok, rfl⟩ | ⟨ds, rfl, hg⟩
  · obtain ⟨v, rfl, r⟩ := r0.one
    obtain ⟨a, vs, rfl, h, l⟩ := r
    have hz := sz.lst h
    refine cU_of (cr_sortedG (by have := hX.units; omega)) ⟨a, vs, ds, rfl, .inl (.inl h), dpAll_mono (subOf zh) (l.dpM ok.sh), ok, fun bs p hp he hn => ?_⟩
    have hb : ∀ b ∈ bs, Rep X.K W.β Z b.2 b.1 := fun b hb => l.zip b (hp.mem_iff.mpr hb)
    have hl : (bs.map (·.1)).length ≤ sizeLine := by
      rw [List.length_map, ← hp.length_eq, List.length_zip]
      omega
    have := repL_pairs hb
    rw [he] at this
    exact fin_lst zh bx hn this hl q
  · exact o_sorted X hX W Z H st xs _ d Q zh sz bx r0 hg q
end Sn

namespace Sn
open PySem PySem.Spec PyProof.Rows L2
/-! ### several at once -/
/-- what is told of a value to be stored: kept for good, or an own list or dict -/
inductive Vok (K : PySem.W.Frag) (W : Wd) (Z H : Hp) : Md → D → V → List Addr → Prop
  | frz {d : D} {v : V} : Rep K W.β Z d v → Vok K W Z H .E d v []
  | own {d : D} {p : Addr} : isMut d = true → Rep1 K W.β Z H d (.ref p) → Z p = none → ¬ W.bx p → H p ≠ none → Vok K W Z H .N d (.ref p) [p]
inductive Voks (K : PySem.W.Frag) (W : Wd) (H0 Z H : Hp) : List Md → List D → List V → List Addr → Prop
  | nil : Voks K W H0 Z H [] [] [] []
  | cons {md : Md} {d : D} {v : V} {as bs : List Addr} {mds : List Md} {ds : List D} {vs : List V} : Vok K W Z H md d v as → (∀ a ∈ as, H0 a = none ∧ a ∉ bs) → Voks K W H0 Z H mds ds vs bs → Voks K W H0 Z H (md :: mds) (d :: ds) (v :: vs) (as ++ bs)
def okMds : List Md → List D → Bool
  | [], [] => true
  | md :: mds, d :: ds => okMd md d && okMds mds ds
  | _, _ => false
def OkVD {S : Type} [BoxS S] (mds : List Md) (C : Stat) (Γ : SCx) (es : List Expr) (m : M S (List D)) : Prop :=
  ∀ X, CtxP C X → ∀ (W : Wd) (σ : L2.St) (Z H : Hp) (st : S) (ds : List D) (st' : S) (Q : List V → Hp → Prop), SR X.K W Γ σ Z H st → m st = some (ds, st') → okMds mds ds = true →
    (∀ vs as Z' H', Stp W Z H Z' H' → BoxS.R st' W.β W.γ H' → Voks X.K W H Z' H' mds ds vs as → Q vs H') → tUA X es σ H Q
structure OkV {S : Type} [BoxS S] (mds : List Md) (C : Stat) (Γ : SCx) (es : List Expr) (m : M S (List D)) : Prop where
  mk ::
  run : OkVD mds C Γ es m
instance {S : Type} [BoxS S] {mds : List Md} {C : Stat} {Γ : SCx} {es : List Expr} {m : M S (List D)} : CoeFun (OkV mds C Γ es m) fun _ => OkVD mds C Γ es m := ⟨OkV.run⟩
section
variable {S : Type} [BoxS S] {C : Stat} {Γ : SCx} {e : Expr} {es : List Expr} {m : M S D} {md : Md} {pos : Pos}
theorem Vok.stp {K : PySem.W.Frag} {W : Wd} {Z H Z' H' : Hp} {md : Md} {d : D} {v : V} {as : List Addr} (s : Stp W Z H Z' H') (h : Vok K W Z H md d v as) : Vok K W Z' H' md d v as := by
  cases h with
  | frz r => exact .frz (r.mono s.zz)
  | own mu r z nb hn =>
    obtain ⟨o, ho⟩ := Option.ne_none_iff_exists'.mp hn
    refine .own mu (r.mono s.zz fun a ea o h => ?_) ?_ nb (by rw [s.hh _ _ ho nb]; simp)
    · cases ea; exact s.hh _ _ h nb
    · cases q : Z' _ with
      | none => rfl
      | some o =>
        rcases s.nw _ _ q with w | w
        · rw [z] at w; cases w
        · exact absurd w hn
theorem Voks.stp {K : PySem.W.Frag} {W : Wd} {H0 Z H Z' H' : Hp} (s : Stp W Z H Z' H') : ∀ {mds : List Md} {ds : List D} {vs : List V} {as : List Addr}, Voks K W H0 Z H mds ds vs as → Voks K W H0 Z' H' mds ds vs as
  | _, _, _, _, .nil => .nil
  | _, _, _, _, .cons h1 h2 r => .cons (h1.stp s) h2 (Voks.stp s r)
theorem Voks.back {K : PySem.W.Frag} {W : Wd} {st st' : S} {H H0 Z Z' Z2 H2 : Hp} (b : BoxS.R st W.β W.γ H0) (b1 : BoxS.R st' W.β W.γ H) (s : Stp W Z H0 Z' H) : ∀ {mds : List Md} {ds : List D} {vs : List V} {as : List Addr}, Voks K W H Z2 H2 mds ds vs as → Voks K W H0 Z2 H2 mds ds vs as
  | _, _, _, _, .nil => .nil
  | _, _, _, _, .cons h1 h2 r => .cons h1 (fun a ha => ⟨fresh_back b b1 s (h2 a ha).1, (h2 a ha).2⟩) (Voks.back b b1 s r)
theorem Voks.fresh {K : PySem.W.Frag} {W : Wd} {H0 Z H : Hp} : ∀ {mds : List Md} {ds : List D} {vs : List V} {as : List Addr}, Voks K W H0 Z H mds ds vs as → ∀ a ∈ as, H0 a = none
  | _, _, _, _, .nil, _, h => by cases h
  | _, _, _, _, .cons h1 h2 r, a, h => by
    rcases List.mem_append.mp h with h | h
    · exact (h2 a h).1
    · exact r.fresh a h
theorem OkV.nil : OkV (S := S) [] C Γ [] (ret []) := .mk fun X hX W σ Z H st d st' Q r hm ok q => by
  obtain ⟨rfl, rfl⟩ := ret_some hm
  exact tUA_of pa_nil (q [] [] Z H r.refl r.box .nil)
theorem OkV.cons {mds : List Md} {mr : M S (List D)} (ha : Ok md C Γ e m) (hr : OkV mds C Γ es mr) (hmd : md = .E ∨ md = .N := by first | exact .inl rfl | exact .inr rfl) (hp : plainArg e = true := by rfl) : OkV (md :: mds) C Γ (e :: es) (bnd m fun x => bnd mr fun xs => ret (x :: xs)) :=
  .mk fun X hX W σ Z H st ds st' Q r hm ok q => by
  obtain ⟨x, st1, h1, hm_1⟩ := bnd_some hm
  obtain ⟨xs, st2, h2, hm_2⟩ := bnd_some hm_1
  obtain ⟨rfl, rfl⟩ := ret_some hm_2
  have ok' : okMd md x = true ∧ okMds mds xs = true := by rw [← Bool.and_eq_true]; exact ok
  refine tUA_of (pa_cons peU paU (starEach_plain _ hp)) ?_
  refine ha X hX W σ Z H st x st1 _ r h1 fun v Z1 H1 s1 b1 r1 => ?_
  refine hr X hX W σ Z1 H1 st1 xs _ _ (r.step s1 b1) h2 ok'.2 fun vs as Z2 H2 s2 b2 r2 => ?_
  have hv : ∃ bs, Vok X.K W Z1 H1 md x v bs ∧ ∀ a ∈ bs, H a = none ∧ H1 a ≠ none := by
    rcases hmd with rfl | rfl
    · exact ⟨[], .frz r1, fun a h => by cases h⟩
    · have mu : isMut x = true := ok'.1
      obtain ⟨q4, q5⟩ := r1
      have hv : ∃ p, v = .ref p ∧ H1 p ≠ none := by
        cases x with
        | lst ds => obtain ⟨b, vs, eb, hb, _⟩ := q4; exact ⟨b, eb, by rw [hb]; simp⟩
        | dct ds =>
          obtain ⟨b, eb, ⟨kvs, hb, _⟩ | ⟨kvs, hb, _⟩⟩ := q4
          · exact ⟨b, eb, by rw [hb]; simp⟩
          · exact ⟨b, eb, by rw [hb]; simp⟩
        | _ => cases mu
      obtain ⟨p, rfl, hn⟩ := hv
      obtain ⟨f1, f2, f3⟩ := q5 p rfl mu
      exact ⟨[p], .own mu q4 f2 f3 hn, fun a h => by rw [List.mem_singleton.mp h]; exact ⟨f1, hn⟩⟩
  obtain ⟨bs, hv1, hv2⟩ := hv
  exact q _ (bs ++ as) Z2 H2 (s1.trans s2) b2 (.cons (hv1.stp s2) (fun a ha => ⟨(hv2 a ha).1, fun hb => (hv2 a ha).2 (r2.fresh a hb)⟩) (r2.back r.box b1 s1))
end
/-- names' places -/
def NamesAt (C : Stat) : List Expr → List Nat → Prop
  | [], [] => True
  | .Name x _ :: ts, i :: is => C.N[i]? = some x ∧ Loc C.sc x ∧ (C.fn x = true ∨ C.sc.names.lookup x = some .local) ∧ NamesAt C ts is
  | _, _ => False
def setΓ : SCx → List Nat → List Md → List D → SCx
  | Γ, i :: is, md :: mds, d :: ds => setΓ (Γ.set i (some (mdEn md d))) is mds ds
  | Γ, _, _, _ => Γ
def setσ : L2.St → List Nat → List V → L2.St
  | σ, i :: is, v :: vs => setσ (σ.set i (some v)) is vs
  | σ, _, _ => σ
section
variable {S : Type} [BoxS S] {C : Stat}
theorem NamesAt.plain : ∀ {ts : List Expr} {is : List Nat}, NamesAt C ts is → ts.all plainTg = true ∧ ts.length = is.length
  | [], [], _ => ⟨rfl, rfl⟩
  | .Name x p :: ts, i :: is, h => by
    obtain ⟨h1, h2⟩ := NamesAt.plain h.2.2.2
    exact ⟨by rw [List.all_cons, h1]; rfl, by rw [List.length_cons, List.length_cons, h2]⟩
  | [], _ :: _, h => h.elim
  | .Name _ _ :: _, [], h => h.elim
theorem NamesAt.run {X : Cx} (hX : CtxP C X) : ∀ {ts : List Expr} {is : List Nat} {vs : List V} {σ : L2.St} {H : Hp} {Q : L2.St → Hp → Prop}, NamesAt C ts is → vs.length = is.length → Q (setσ σ is vs) H → tUGs X ts vs σ H Q
  | [], [], [], _, _, _, _, _, q => tUGs_of pgs_nil ⟨rfl, q⟩
  | .Name x p :: ts, i :: is, v :: vs, σ, H, Q, h, hl, q => by
    obtain ⟨hN, hx, hf, hr⟩ := h
    refine tUGs_of (pgs_cons (pg_name (i := i) (by rw [hX.N]; exact hX.nd) (by rw [hX.N]; exact hN) (by rw [hX.sc]; exact hx) (store_hyp hX hf)) pgsU (by rw [each_plain _ rfl]; rfl)) ⟨_, _, rfl, ?_⟩
    exact NamesAt.run hX hr (by simpa using hl) q
  | [], [], _ :: _, _, _, _, _, hl, _ => by cases hl
  | .Name _ _ :: _, _ :: _, [], _, _, _, _, hl, _ => by cases hl
  | [], _ :: _, _, _, _, _, h, _, _ => h.elim
  | .Name _ _ :: _, [], _, _, _, _, h, _, _ => h.elim
theorem Voks.len {K : PySem.W.Frag} {W : Wd} {H0 Z H : Hp} : ∀ {mds : List Md} {ds : List D} {vs : List V} {as : List Addr}, Voks K W H0 Z H mds ds vs as → mds.length = vs.length ∧ ds.length = vs.length
  | _, _, _, _, .nil => ⟨rfl, rfl⟩
  | _, _, _, _, .cons _ _ r => by
    obtain ⟨h1, h2⟩ := r.len
    exact ⟨by rw [List.length_cons, List.length_cons, h1], by rw [List.length_cons, List.length_cons, h2]⟩
/-- the slots stored -/
theorem Voks.store {K : PySem.W.Frag} {W : Wd} {H0 Z H : Hp} {st : S} : ∀ {mds : List Md} {ds : List D} {vs : List V} {as : List Addr} {is : List Nat} {Γ : SCx} {σ : L2.St}, Voks K W H0 Z H mds ds vs as → SR K W Γ σ Z H st → (∀ a ∈ as, ¬ ownA Γ σ a) →
    SR K W (setΓ Γ is mds ds) (setσ σ is vs) Z H st ∧ ∀ a, ownA (setΓ Γ is mds ds) (setσ σ is vs) a → ownA Γ σ a ∨ a ∈ as
  | _, _, _, _, [], Γ, σ, h, r, no => by
    cases h with
    | nil => exact ⟨r, fun a h => .inl h⟩
    | cons _ _ _ => exact ⟨r, fun a h => .inl h⟩
  | _, _, _, _, i :: is, Γ, σ, .nil, r, no => ⟨r, fun a h => .inl h⟩
  | _, _, _, _, i :: is, Γ, σ, .cons (bs := bs) h1 h2 t, r, no => by
    cases h1 with
    | frz q =>
      obtain ⟨g1, g2⟩ := t.store (is := is) (r.setF q (i := i)) fun a ha h => no a (List.mem_append_right _ ha) (own_setF h)
      exact ⟨g1, fun a h => (g2 a h).elim (fun h => .inl (own_setF h)) fun h => .inr (List.mem_append_right _ h)⟩
    | @own d p mu q z nb hn =>
      obtain ⟨g1, g2⟩ := t.store (is := is) (r.setO mu q z nb (no p (by simp)) (i := i)) fun a ha h => by
        rcases own_setO h with h | e
        · exact no a (List.mem_append_right _ ha) h
        · exact (h2 p (by simp)).2 (e ▸ ha)
      refine ⟨g1, fun a h => ?_⟩
      rcases g2 a h with h | h
      · rcases own_setO h with h | e
        · exact .inl h
        · exact .inr (by rw [e]; simp)
      · exact .inr (List.mem_append_right _ h)
/-- some name is not a plain local one: a tuple is made and taken apart -/
theorem swapped_none {sc : Scope} {env : Env} (he : env.scope = sc) {ts vs : List Expr} {kt k2 : Nat} {pt pt2 : Pos} (h : (ts.any fun t => match t with | .Name x _ => !decide (sc.names.lookup x = some .local) | _ => true) = true) :
    swappedStores [.Tuple ts kt pt] (.Tuple vs k2 pt2) env = pure none := by
  unfold swappedStores
  have hk : ∀ x, env.kindOf x = sc.names.lookup x := fun x => by rw [← he]; rfl
  have key : ∀ (line : Nat) (ts : List Expr), (ts.any fun t => match t with | .Name x _ => !decide (sc.names.lookup x = some .local) | _ => true) = true →
      (ts.filterMap fun | .Name id pos => if env.kindOf id == some .local && pos.line == line then some id else none | _ => none).length < ts.length := by
    intro line ts
    induction ts with
    | nil => intro h; cases h
    | cons t ts ih =>
      intro h
      have hle : ∀ ts : List Expr, (ts.filterMap fun | .Name id pos => if env.kindOf id == some .local && pos.line == line then some id else none | _ => none).length ≤ ts.length := fun ts => List.length_filterMap_le _ _
      rw [List.any_cons, Bool.or_eq_true] at h
      rw [List.filterMap_cons, List.length_cons]
      rcases h with h | h
      · have := hle ts
        cases t with
        | Name x p =>
          have hn : (env.kindOf x == some NameKind.local) = false := by
            rw [hk]
            simpa using h
          simp only [hn, Bool.false_and, Bool.false_eq_true, if_false]
          omega
        | _ => simp only; omega
      · have := ih h
        split
        · omega
        · rw [List.length_cons]; omega
  dsimp only
  split
  · rfl
  · split
    · rfl
    · rw [if_pos]
      · 
        rw [Bool.or_eq_true]
        left
        have := fun l => key l _ h
        simp only [bne_iff_ne, ne_eq]
        exact Nat.ne_of_lt (this _)
variable {Γ : SCx} {es : List Expr} {rest : List Stmt} {τ l : Type} {T : Tg τ l} {pos : Pos}
def parN (mds : List Md) (mr : M S (List D)) (k : List D → M S (Fl τ l)) : M S (Fl τ l) := bnd mr fun ds => if okMds mds ds = true then k ds else stuck
/-- several at once, one of them at least no plain local name -/
theorem OkB.parT {mds : List Md} {mr : M S (List D)} {tgs : List Expr} {is : List Nat} {kt k2 : Nat} {pt pt2 : Pos} {k : List D → M S (Fl τ l)} (hT : NamesAt C tgs is) (he : OkV mds C Γ es mr) (hlen : mds.length = is.length)
    (hb : ∀ ds, ds.length = mds.length → OkB C (setΓ Γ is mds ds) rest T (k ds))
    (h16 : tgs.length ≤ 16 := by decide) (hn : (tgs.any fun t => match t with | .Name x _ => !decide (C.sc.names.lookup x = some .local) | _ => true) = true := by rfl)
    (hs : ∀ env : Env, swapsWithSole [.Tuple tgs kt pt] (.Tuple es k2 pt2) pos.line env = pure false := by intro _; rfl)
    (h1 : ∀ env : Env, (assignEach [.Tuple tgs kt pt] env).map (·.2) = [assign (.Tuple tgs kt pt) env] := by intro _; rfl) :
    OkB C Γ (.Assign [.Tuple tgs kt pt] (.Tuple es k2 pt2) pos :: rest) T (parN mds mr k) := .mk fun X hX W σ Z H st f st' D r hm q => by
  obtain ⟨ds, st1, h2, hm1⟩ := bnd_some hm
  split at hm1
  · rename_i hok
    obtain ⟨pl1, pl2⟩ := hT.plain
    refine tUS_of (pss_cons (ps_asg peU pgU (hs _) (swapped_none hX.sc hn) (h1 _)) pssU) ?_
    refine tU_of (pe_tup paU) (he X hX W σ Z H st ds st1 _ r h2 hok fun vs as Z1 H1 s1 b1 v1 => ?_)
    obtain ⟨l1, l2⟩ := v1.len
    have hle : vs.length ≤ sizeLine := by rw [← l1, hlen, ← pl2, sizeLine_eq]; omega
    refine ⟨hle, fun p hp => ?_⟩
    have s2 := Stp.layH (o := .tup vs) s1.zh hp hle
    have s3 := s1.trans s2
    refine tUG_of (pg_tup (n := tgs.length) hX.calm pgsU (each_len _ pl1).1 (each_len _ pl1).2) ⟨_, _, rfl, .inl (.inl upd_same), by rw [pl2, ← hlen, l1], NamesAt.run hX hT (by rw [← l1, hlen]) ?_⟩
    have rr := r.step s3 (box_lay b1 hp)
    have vv : Voks X.K W H Z1 (upd H1 p (.tup vs)) mds ds vs as := v1.stp s2
    have no : ∀ a ∈ as, ¬ ownA Γ σ a := fun a ha h => by
      obtain ⟨o, ho⟩ := r.ownThere h
      rw [v1.fresh a ha] at ho; cases ho
    obtain ⟨g1, g2⟩ := vv.store (is := is) rr no
    refine hb ds (by rw [l2, l1]) X hX W _ Z1 _ st1 f st' D g1 hm1 (q.after s3.bst fun a h => ?_)
    exact (g2 a h).elim .inl fun h => .inr (v1.fresh a h)
  · exact (stuck_some hm1).elim
/-- three local names on a line -/
theorem swapped_three {env : Env} {x y z : Str} {px py pz pt pt2 : Pos} {kt k2 : Nat} {u v w : Expr} (hk : env.scope.kind = .function) (hx : env.scope.names.lookup x = some .local) (hy : env.scope.names.lookup y = some .local) (hz : env.scope.names.lookup z = some .local) (hl : (px.line == py.line) = true) (hl2 : (px.line == pz.line) = true)
    (hu : plainArg u = true) (hv : plainArg v = true) (hw : plainArg w = true) (hne : (y == x) = false) (hne2 : (z == x) = false) (hne3 : (z == y) = false) (hf : [u, v, w].all (foldedForSure 8) = false) (hc : [u, v, w].all (constantsAlone 8) = false) :
    swappedStores [.Tuple [.Name x px, .Name y py, .Name z pz] kt pt] (.Tuple [u, v, w] k2 pt2) env = pure (some [x, y, z]) := by
  have kx : env.kindOf x = some .local := hx
  have ky : env.kindOf y = some .local := hy
  have kz : env.kindOf z = some .local := hz
  have hb : env.blockKind = .function := by unfold Env.blockKind; rw [hk]; rfl
  have hl' : (py.line == px.line) = true := by rw [beq_iff_eq] at hl ⊢; exact hl.symm
  have hl2' : (pz.line == px.line) = true := by rw [beq_iff_eq] at hl2 ⊢; exact hl2.symm
  unfold swappedStores
  simp only [hb, List.length_cons, List.length_nil, List.head?_cons, Option.map_some, Option.getD_some, Expr.pos, List.filterMap_cons, List.filterMap_nil, kx, ky, kz, hl', hl2', hf, hc, beq_self_eq_true, Bool.and_self, if_true]
  have hd : ([x, y, z].eraseDups).length = 3 := by
    simp [List.eraseDups, List.eraseDupsBy, List.eraseDupsBy.loop, hne, hne2, hne3]
  rw [if_neg (by decide), if_neg (by
    intro h
    simp only [List.any_cons, List.any_nil, Bool.or_false, Bool.or_eq_true] at h
    rcases h with h | h | h
    · cases u <;> first | (cases h; done) | (cases hu; done)
    · cases v <;> first | (cases h; done) | (cases hv; done)
    · cases w <;> first | (cases h; done) | (cases hw; done)), hd]
  rfl
theorem OkB.par3 {u v w : Expr} {mr : M S (List D)} {m1 m2 m3 : Md} {i j l3 : Nat} {x y z : Str} {px py pz pt pt2 : Pos} {kt k2 : Nat} {k : List D → M S (Fl τ l)} (hN : C.N[i]? = some x) (hN2 : C.N[j]? = some y) (hN3 : C.N[l3]? = some z) (hij : i ≠ j) (hil : i ≠ l3) (hjl : j ≠ l3) (hfk : C.sc.kind = .function)
    (hx : C.sc.names.lookup x = some .local) (hy : C.sc.names.lookup y = some .local) (hz : C.sc.names.lookup z = some .local) (he : OkV [m1, m2, m3] C Γ [u, v, w] mr)
    (hb : ∀ ds, ds.length = 3 → OkB C (setΓ Γ [i, j, l3] [m1, m2, m3] ds) rest T (k ds))
    (hl : (px.line == py.line) = true := by rfl) (hl2 : (px.line == pz.line) = true := by rfl) (pu : plainArg u = true := by rfl) (pv : plainArg v = true := by rfl) (pw : plainArg w = true := by rfl) (hne : (y == x) = false := by decide) (hne2 : (z == x) = false := by decide) (hne3 : (z == y) = false := by decide) (hf : [u, v, w].all (foldedForSure 8) = false := by rfl) (hc : [u, v, w].all (constantsAlone 8) = false := by rfl)
    (hs : ∀ env : Env, swapsWithSole [.Tuple [.Name x px, .Name y py, .Name z pz] kt pt] (.Tuple [u, v, w] k2 pt2) pos.line env = pure false := by intro _; rfl) :
    OkB C Γ (.Assign [.Tuple [.Name x px, .Name y py, .Name z pz] kt pt] (.Tuple [u, v, w] k2 pt2) pos :: rest) T (parN [m1, m2, m3] mr k) := .mk fun X hX W σ Z H st f st' D r hm q => by
  obtain ⟨ds, st1, h2, hm1⟩ := bnd_some hm
  split at hm1
  · rename_i hok
    refine tUS_of (pss_cons (ps_par3 hX.calm (i := i) (j := j) (l := l3) (by rw [hX.N]; exact hX.nd) (by rw [hX.N]; exact hN) (by rw [hX.N]; exact hN2) (by rw [hX.N]; exact hN3) hij hil hjl (by rw [hX.sc]; exact hx) (by rw [hX.sc]; exact hy) (by rw [hX.sc]; exact hz) paU
      (swapped_three (by rw [hX.sc]; exact hfk) (by rw [hX.sc]; exact hx) (by rw [hX.sc]; exact hy) (by rw [hX.sc]; exact hz) hl hl2 pu pv pw hne hne2 hne3 hf hc) (hs _)) pssU) ?_
    refine he X hX W σ Z H st ds st1 _ r h2 hok fun vs as Z1 H1 s1 b1 v1 => ?_
    obtain ⟨l1, l2⟩ := v1.len
    match vs, l1, l2, v1 with
    | [v1', v2', v3'], l1, l2, v1 =>
      refine ⟨v1', v2', v3', rfl, ?_⟩
      have rr := r.step s1 b1
      have no : ∀ a ∈ as, ¬ ownA Γ σ a := fun a ha h => by
        obtain ⟨o, ho⟩ := r.ownThere h
        rw [v1.fresh a ha] at ho; cases ho
      obtain ⟨g1, g2⟩ := v1.store (is := [i, j, l3]) rr no
      refine hb ds l2 X hX W _ Z1 _ st1 f st' D g1 hm1 (q.after s1.bst fun a h => ?_)
      exact (g2 a h).elim .inl fun h => .inr (v1.fresh a h)
  · exact (stuck_some hm1).elim
/-! ### two, three at once: the same with each value's letter -/
def par3M (m1 m2 m3 : Md) (a b c : M S D) (k : D → D → D → M S (Fl τ l)) : M S (Fl τ l) := bnd a fun x => bnd b fun y => bnd c fun z => if okMd m1 x = true ∧ okMd m2 y = true ∧ okMd m3 z = true then k x y z else stuck
theorem parM_eq {m1 m2 : Md} {a b : M S D} {k : D → D → M S (Fl τ l)} : parM m1 m2 a b k = parN [m1, m2] (bnd a fun x => bnd (bnd b fun y => bnd (Sn.ret []) fun xs => Sn.ret (y :: xs)) fun xs => Sn.ret (x :: xs)) fun ds => match ds with | [x, y] => k x y | _ => stuck := by
  unfold parM parN
  simp only [bnd_bnd, bnd_ret, okMds, Bool.and_true, Bool.and_eq_true]
theorem par3M_eq {m1 m2 m3 : Md} {a b c : M S D} {k : D → D → D → M S (Fl τ l)} : par3M m1 m2 m3 a b c k = parN [m1, m2, m3] (bnd a fun x => bnd (bnd b fun y => bnd (bnd c fun z => bnd (Sn.ret []) fun xs => Sn.ret (z :: xs)) fun xs => Sn.ret (y :: xs)) fun xs => Sn.ret (x :: xs)) fun ds => match ds with | [x, y, z] => k x y z | _ => stuck := by
  unfold par3M parN
  simp only [bnd_bnd, bnd_ret, okMds, Bool.and_true, Bool.and_eq_true]
theorem OkB.parT2 {m1 m2 : Md} {u v : Expr} {a b : M S D} {i j : Nat} {x y : Str} {px py pt pt2 : Pos} {kt k2 : Nat} {k : D → D → M S (Fl τ l)} (hN : C.N[i]? = some x) (hN2 : C.N[j]? = some y) (hx : Loc C.sc x) (hy : Loc C.sc y) (fx : C.fn x = true ∨ C.sc.names.lookup x = some .local) (fy : C.fn y = true ∨ C.sc.names.lookup y = some .local)
    (hu : Ok m1 C Γ u a) (hv : Ok m2 C Γ v b) (e1 : m1 = .E ∨ m1 = .N) (e2 : m2 = .E ∨ m2 = .N) (hb : ∀ d e, OkB C ((Γ.set i (some (mdEn m1 d))).set j (some (mdEn m2 e))) rest T (k d e))
    (pu : plainArg u = true := by rfl) (pv : plainArg v = true := by rfl) (hn : (!decide (C.sc.names.lookup x = some .local) || (!decide (C.sc.names.lookup y = some .local) || false)) = true := by rfl)
    (hs : ∀ env : Env, swapsWithSole [.Tuple [.Name x px, .Name y py] kt pt] (.Tuple [u, v] k2 pt2) pos.line env = pure false := by intro _; rfl) :
    OkB C Γ (.Assign [.Tuple [.Name x px, .Name y py] kt pt] (.Tuple [u, v] k2 pt2) pos :: rest) T (parM m1 m2 a b k) := by
  rw [parM_eq]
  exact OkB.parT (is := [i, j]) ⟨hN, hx, fx, hN2, hy, fy, True.intro⟩ (OkV.cons hu (OkV.cons hv OkV.nil e2 pv) e1 pu) rfl (fun ds hl => match ds, hl with | [d, e], _ => hb d e) (by simp) hn hs (by intro _; rfl)
theorem OkB.parT3 {m1 m2 m3 : Md} {u v w : Expr} {a b c : M S D} {i j h : Nat} {x y z : Str} {px py pz pt pt2 : Pos} {kt k2 : Nat} {k : D → D → D → M S (Fl τ l)} (hN : C.N[i]? = some x) (hN2 : C.N[j]? = some y) (hN3 : C.N[h]? = some z) (hx : Loc C.sc x) (hy : Loc C.sc y) (hz : Loc C.sc z) (fx : C.fn x = true ∨ C.sc.names.lookup x = some .local) (fy : C.fn y = true ∨ C.sc.names.lookup y = some .local) (fz : C.fn z = true ∨ C.sc.names.lookup z = some .local)
    (hu : Ok m1 C Γ u a) (hv : Ok m2 C Γ v b) (hw : Ok m3 C Γ w c) (e1 : m1 = .E ∨ m1 = .N) (e2 : m2 = .E ∨ m2 = .N) (e3 : m3 = .E ∨ m3 = .N) (hb : ∀ d e f, OkB C (((Γ.set i (some (mdEn m1 d))).set j (some (mdEn m2 e))).set h (some (mdEn m3 f))) rest T (k d e f))
    (pu : plainArg u = true := by rfl) (pv : plainArg v = true := by rfl) (pw : plainArg w = true := by rfl) (hn : (!decide (C.sc.names.lookup x = some .local) || (!decide (C.sc.names.lookup y = some .local) || (!decide (C.sc.names.lookup z = some .local) || false))) = true := by rfl)
    (hs : ∀ env : Env, swapsWithSole [.Tuple [.Name x px, .Name y py, .Name z pz] kt pt] (.Tuple [u, v, w] k2 pt2) pos.line env = pure false := by intro _; rfl) :
    OkB C Γ (.Assign [.Tuple [.Name x px, .Name y py, .Name z pz] kt pt] (.Tuple [u, v, w] k2 pt2) pos :: rest) T (par3M m1 m2 m3 a b c k) := by
  rw [par3M_eq]
  exact OkB.parT (is := [i, j, h]) ⟨hN, hx, fx, hN2, hy, fy, hN3, hz, fz, True.intro⟩ (OkV.cons hu (OkV.cons hv (OkV.cons hw OkV.nil e3 pw) e2 pv) e1 pu) rfl (fun ds hl => match ds, hl with | [d, e, f], _ => hb d e f) (by simp) hn hs (by intro _; rfl)
theorem OkB.parL3 {m1 m2 m3 : Md} {u v w : Expr} {a b c : M S D} {i j h : Nat} {x y z : Str} {px py pz pt pt2 : Pos} {kt k2 : Nat} {k : D → D → D → M S (Fl τ l)} (hN : C.N[i]? = some x) (hN2 : C.N[j]? = some y) (hN3 : C.N[h]? = some z) (hij : i ≠ j) (hil : i ≠ h) (hjl : j ≠ h) (hfk : C.sc.kind = .function)
    (hx : C.sc.names.lookup x = some .local) (hy : C.sc.names.lookup y = some .local) (hz : C.sc.names.lookup z = some .local) (hu : Ok m1 C Γ u a) (hv : Ok m2 C Γ v b) (hw : Ok m3 C Γ w c) (e1 : m1 = .E ∨ m1 = .N) (e2 : m2 = .E ∨ m2 = .N) (e3 : m3 = .E ∨ m3 = .N)
    (hb : ∀ d e f, OkB C (((Γ.set i (some (mdEn m1 d))).set j (some (mdEn m2 e))).set h (some (mdEn m3 f))) rest T (k d e f))
    (hl : (px.line == py.line) = true := by rfl) (hl2 : (px.line == pz.line) = true := by rfl) (pu : plainArg u = true := by rfl) (pv : plainArg v = true := by rfl) (pw : plainArg w = true := by rfl) (hne : (y == x) = false := by decide) (hne2 : (z == x) = false := by decide) (hne3 : (z == y) = false := by decide) (hf : [u, v, w].all (foldedForSure 8) = false := by rfl) (hc : [u, v, w].all (constantsAlone 8) = false := by rfl)
    (hs : ∀ env : Env, swapsWithSole [.Tuple [.Name x px, .Name y py, .Name z pz] kt pt] (.Tuple [u, v, w] k2 pt2) pos.line env = pure false := by intro _; rfl) :
    OkB C Γ (.Assign [.Tuple [.Name x px, .Name y py, .Name z pz] kt pt] (.Tuple [u, v, w] k2 pt2) pos :: rest) T (par3M m1 m2 m3 a b c k) := by
  rw [par3M_eq]
  exact OkB.par3 hN hN2 hN3 hij hil hjl hfk hx hy hz (OkV.cons hu (OkV.cons hv (OkV.cons hw OkV.nil e3 pw) e2 pv) e1 pu) (fun ds hl => match ds, hl with | [d, e, f], _ => hb d e f) hl hl2 pu pv pw hne hne2 hne3 hf hc hs
/-! ### x += e -/
def augD (g : Int → Int → Int) : D → D → Option D
  | .int i, .int j => some (.int (g i j))
  | _, _ => none
theorem OkB.augI {i : Nat} {x : Str} {d : D} {op : Operator} {g : Int → Int → Int} {e : Expr} {m : M S D} {md : Md} {p : Pos} {k : D → M S (Fl τ l)} (ho : ∀ X, PIp X op (ipI g)) (hN : C.N[i]? = some x) (hx : Loc C.sc x) (hf : C.fn x = true ∨ C.sc.names.lookup x = some .local) (h0 : Γ[i]? = some (some (.frz d))) (he : Ok md C Γ e m)
    (hb : ∀ d', OkB C (Γ.set i (some (.frz d'))) rest T (k d')) : OkB C Γ (.AugAssign (.Name x p) op e pos :: rest) T (bnd m fun y => bnd (lift (augD g d y)) k) := .mk fun X hX W σ Z H st f st' D r hm q => by
  obtain ⟨y, st1, h1, hm1⟩ := bnd_some hm
  obtain ⟨d', st2, h2, hm2⟩ := bnd_some hm1
  obtain ⟨hg, rfl⟩ := lift_some h2
  match d, y, hg with
  | .int a, .int b, hg =>
    cases hg
    obtain ⟨v, ev, rv⟩ := r.frz i _ h0
    cases rv
    refine tUS_of (pss_cons (ps_aug (i := i) (by rw [hX.N]; exact hX.nd) (by rw [hX.N]; exact hN) (by rw [hX.sc]; exact hx) peU (ho X) (store_hyp hX hf)) pssU) ?_
    refine ⟨_, ev, he X hX W σ Z H st _ _ _ r h1 fun v Z1 H1 s1 b1 r1 => ?_⟩
    have hv : Rep X.K W.β Z1 (.int b) v := (r1.view s1.zh).1
    cases hv
    refine ⟨a, b, rfl, rfl, ?_⟩
    exact hb _ X hX W _ Z1 H1 st2 f st' D ((r.step s1 b1).setF (.int _)) hm2 (q.after s1.bst fun a h => .inl (own_setF h))
end
end Sn

namespace Sn
open PySem PySem.Spec PyProof.Rows L2
/-! ### enumerate -/
/-- the tuple at a, each item with its number -/
def IteT (K : PySem.W.Frag) (a : Addr) : It :=
  ⟨fun i H => ∃ (xs : List V) (x : V), SqT K H a xs ∧ xs[i]? = some x, fun i H v H' => ∃ T x, v = .ref T ∧ H T = none ∧ H' = upd H T (.tup [.int (i : Nat), x]) ∧ ∀ xs, SqT K H a xs → xs[i]? = some x, fun i H => ∃ xs : List V, SqT K H a xs ∧ xs.length ≤ i⟩
theorem draws_end {prog : Program} {w : World} {A : Around} (hh : A.handled = none) (it t : Addr) (items : Array Value) (i : Nat) (hx : items.size ≤ i) :
    Draws prog w A it [it, t] i (fun _ _ => True) (fun j h => j = i ∧ h.IsTupleIter it t i ∧ h.IsTuple t items) where
  live := fun _ _ st => let ⟨o, ho, _⟩ := st.2.1; ⟨o, ho⟩
  frame := fun _ _ _ st hk => ⟨st.1, st.2.1.at fun o e => hk it (by simp) o e, st.2.2.at fun o e => hk t (by simp) o e⟩
  item := fun j s Q E hi st hQ => by have := st.1; omega
  done := fun s Q E st hE => wpAny_nextOf_tuple_end hh st.2.1 st.2.2 (by simp; omega) hE
theorem turn_enumT {P : Program} {w : World} {K : PySem.W.Frag} {elts : List Expr} {kk : Nat} {tpos : Pos} (a e it : Addr) :
    Turn P w K (.Tuple elts kk tpos) (IteT K a) [e, it] e (fun i h => (∃ old, IsEnum h e it ((i : Nat) : Int) old) ∧ h.IsTupleIter it a i ∧ e ≠ it ∧ a ≠ it ∧ e ≠ a) where
  mem := by simp
  obj := fun i h st b hb => by
    obtain ⟨⟨old, he⟩, ⟨o, ho, hc, hd⟩, _⟩ := st
    have e' : b = e ∨ b = it := by simpa using hb
    rcases e' with z | z
    · rw [z]; exact ⟨_, he, fun v q => nomatch q⟩
    · rw [z]; exact ⟨o, ho, fun v q => by rw [hd] at q; cases q⟩
  keep := fun i h h' st k => let ⟨⟨old, he⟩, hi, hne⟩ := st; ⟨⟨old, k e (by simp) _ he⟩, hi.at fun o q => k it (by simp) o q, hne⟩
  item := by
    intro X hP hw hK hc i pins s σ H E I hf st hg
    subst hP hw hK
    obtain ⟨⟨old, he⟩, hit, hne, hai, hea⟩ := st
    obtain ⟨xs, x, hq, hx⟩ := hg
    obtain ⟨its, rv, p, hz⟩ := I.tuple hq
    obtain ⟨u, hu, ru⟩ := rv.get hx
    have hel : e < s.heap.objs.size := Heap.lt_size he
    have hil : it < s.heap.objs.size := by obtain ⟨_, q, _⟩ := hit; exact Heap.lt_size q
    have hlt : i < its.toArray.size := by
      have := rv.length
      have := List.getElem?_eq_some_iff.mp hx
      obtain ⟨h1, _⟩ := this
      simp only [List.size_toArray]
      omega
    refine wpAny_pyNext_enum_itemC (Draws.tuple (A := X.A.in1) (by exact I.ok.hd hc) it a hai its.toArray) he ⟨hit, p⟩ hlt hne (by simp; exact ⟨hne, hea⟩) fun u' h' tk hP ho ⟨hit', _⟩ hT hsz hk => ?_
    have eu : u' = u := by
      have h1 : its.toArray[i]? = some u := by simpa using hu
      rw [hP] at h1
      exact Option.some.inj h1
    subst eu
    refine ⟨_, rfl, wpAny_letOwnedTupleGo_enum (s := { s with heap := h', toks := tk + 1 }) ho fun h'' he' sb => ?_⟩
    have hT2 : h''.get? s.heap.objs.size = some { cls := .type "tuple", data := .seq #[.int i tk, u'] } := (sb.2 _ (Nat.ne_of_gt hel)).trans hT
    have new : ObjOk X.prog X.w (upd H s.heap.objs.size (.tup [.int (i : Nat), x])) h'' s.heap.objs.size (.tup [.int (i : Nat), x]) :=
      ⟨by show 2 ≤ sizeLine; decide, [.int i tk, u'], .cons ⟨_, rfl⟩ (.cons ru .nil), ⟨_, hT2, rfl, _, rfl⟩⟩
    have I1 : Inv X pins σ (upd H s.heap.objs.size (.tup [.int (i : Nat), x])) { s with heap := h'', toks := tk + 1 } :=
      I.turnedNew (ch := [e, it]) (fun b ob hb q => (sb.2 b (fun z => hb (by simp [z]))).trans (hk b ob (fun z => hb (by simp [z])) (fun z => hb (by simp [z])) q)) hf (Nat.le_refl _) new
    refine ⟨.ref s.heap.objs.size, _, I1, rfl, ⟨_, x, rfl, I.hok.fresh (Nat.le_refl _), rfl, fun ys hy => by rw [I.tuple_inj hy hq]; exact hx⟩, ⟨⟨u', ?_⟩, hit'.at fun o q => (sb.2 it (Ne.symm hne)).trans q, hne, hai, hea⟩, fun b hb => ?_⟩
    · have e1 : ((i + 1 : Nat) : Int) = (i : Int) + 1 := by omega
      rw [e1]; exact he'
    · have hb' : b < s.heap.objs.size := by
        have e' : b = e ∨ b = it := by simpa using hb
        rcases e' with z | z
        · rw [z]; exact hel
        · rw [z]; exact hil
      rw [upd_ne (Nat.ne_of_lt hb')]
      exact (hf b hb).1
  done := by
    intro X hP hw hK hc i pins s σ H E I hf st hg
    subst hP hw hK
    obtain ⟨⟨old, he⟩, hit, hne, hai, hea⟩ := st
    obtain ⟨xs, hq, hx⟩ := hg
    obtain ⟨its, rv, p, hz⟩ := I.tuple hq
    obtain ⟨f0, f1, f2, f3, f4, f5⟩ := hf it (by simp)
    have hl := rv.length
    exact wpAny_pyNext_enum_endD (draws_end (A := X.A.in1) (by exact I.ok.hd hc) it a its.toArray i (by simp; omega)) he ⟨rfl, hit, p⟩ fun h' eb => ⟨rfl, I.turned (t' := s.toks) (fun b o hb q => eb b o hb q) f0 f1 f3 f4 f5⟩
  self := fun A i s Q E st h => let ⟨⟨_, he⟩, _⟩ := st; wpAny_pyIter_enum he h
set_option maxHeartbeats 1000000 in
theorem meets_enumerate_new1 {v : Value} {o : Obj} {H : Heap → Prop} (B : Begins v o H) :
    Meets (Builtin.«enumerate.__new__» ⟨[.type "enumerate", v], []⟩) (fun _ R s => H s.heap ∧
      R (.ok (.ret (.ref (s.heap.push o).objs.size))) { s with heap := (s.heap.push o).push { cls := .type "enumerate", data := .fields #[.none, .bool false, .ref s.heap.objs.size, rawInt 0, .none, .none] } }) :=
  .of_wp fun prog w A R s h => by
    obtain ⟨hp, g, d, tk, os⟩ := s; obtain ⟨h1, h⟩ := h
    have hsub := sub_enumerate
    have q1 : ∀ {A' : Around} {E : Value → Shared → Prop} {Q : Value → Shared → Prop}, Q (.ref hp.objs.size) ⟨hp.push o, g, d, tk, os⟩ → wpAny (model prog w) A' (pyIter v) Q E ⟨hp, g, d, tk, os⟩ :=
      fun q => B.iter prog w _ _ ⟨hp, g, d, tk, os⟩ _ h1 q
    wp_walk using q1
    refine wpAny_stack_any fun st => wpAny_pure ?_
    split
    · rename_i c _ _ _ _ _
      cases (c == Value.type "enumerate")
      · wp_walk using q1
        exact ⟨_, rfl, h⟩
      · wp_walk using q1
        exact ⟨_, rfl, h⟩
    · wp_walk using q1
      exact ⟨_, rfl, h⟩
theorem call_enumerate_tuple {prog : Program} {w : World} {A : Around} {E : Value → Shared → Prop} {s : Shared} {l : Addr} {items : Array Value} {Q : Value → Shared → Prop} (hL : s.heap.IsTuple l items)
    (h : ∀ h', IsEnum h' (s.heap.objs.size + 1) s.heap.objs.size 0 .none → h'.IsTupleIter s.heap.objs.size l 0 → h'.objs.size = s.heap.objs.size + 2 →
      (∀ b o, s.heap.get? b = some o → h'.get? b = some o) → Q (.ref (s.heap.objs.size + 1)) { s with heap := h' }) :
    wpAny (model prog w) A (call (.type "enumerate") [.ref l]) Q E s := by
  have B := begins_tuple l items
  refine callType_new F.called_enumerate (by decide) (F.typeCall_enumerate_1 _) (F.newCall_enumerate_1 _) (fun obj => F.args_object_init_2 obj _) F.entry_enumerate_new
    (meets_enumerate_new1 B) ⟨hL, ?_⟩
  have hz : (s.heap.push { cls := .type "tuple_iterator", data := .fields #[.ref l, .int 0 0] }).objs.size = s.heap.objs.size + 1 := Heap.size_push ..
  show _ ∧ _
  rw [hz]
  have he : IsEnum ((s.heap.push { cls := .type "tuple_iterator", data := .fields #[.ref l, .int 0 0] }).push
      { cls := .type "enumerate", data := .fields #[.none, .bool false, .ref s.heap.objs.size, rawInt 0, .none, .none] }) (s.heap.objs.size + 1) s.heap.objs.size 0 .none := by
    have := Heap.get?_push_size (s.heap.push { cls := .type "tuple_iterator", data := .fields #[.ref l, .int 0 0] })
      (o := { cls := .type "enumerate", data := .fields #[.none, .bool false, .ref s.heap.objs.size, rawInt 0, .none, .none] }) rfl
    rw [hz] at this; exact this
  refine ⟨⟨_, he, rfl⟩, h _ he ⟨_, Heap.get?_push_of_some _ (Heap.get?_push_size _ rfl), rfl, rfl⟩ (by rw [Heap.size_push, hz]) fun b o x => Heap.get?_push_of_some _ (Heap.get?_push_of_some _ x)⟩
def iEnumT (K : PySem.W.Frag) (ta : TA) : TI := fun σ H R => ta σ H fun vs H1 => ∃ a xs, vs = [.ref a] ∧ ((SqT K H1 a xs ∧ R (IteT K a) H1) ∨ (SqL K H1 a xs ∧ R (Ite K a) H1))
theorem pi_enumT {X : Cx} {e : Expr} {ta : TA} {p pos tpos : Pos} {elts : List Expr} {kk : Nat} (hg : Gl X "enumerate") (hm : X.mg "enumerate" = none) (ha : PA X [e] ta) (hs : starEach [e] X.env = [(false, eval e X.env)]) :
    PI X (.Tuple elts kk tpos) (.Call (.Name "enumerate" p) [e] [] pos) (iEnumT X.K ta) := by
  refine ⟨fun pins s σ H R I h => ?_⟩
  refine Call_ (ld_blt I hg hm boot_enumerate (PyProof.Rows.callWith_type1 (thn (ha.run pos pins s σ H _ I h) fun us s1 ⟨vs, H1, I1, r1, q1⟩ => ?_) hs rfl))
  obtain ⟨a, xs, ex, q1⟩ := q1
  subst ex
  cases r1 with
  | cons r rr =>
    cases rr
    cases r
    have hfp : ∀ (h' : Heap) (I2 : Inv X pins σ H1 { s1 with heap := h' }), ∀ b ∈ [s1.heap.objs.size + 1, s1.heap.objs.size], FpOk X pins H1 b := fun h' I2 b hb => by
      have e' : b = s1.heap.objs.size + 1 ∨ b = s1.heap.objs.size := by simpa using hb
      have hle : s1.heap.objs.size ≤ b := by
        rcases e' with z | z
        · rw [z]; exact Nat.le_add_right _ _
        · rw [z]; exact Nat.le_refl _
      exact I1.fpOk hle (I1.hok.fresh hle)
    rcases q1 with ⟨hq, q⟩ | ⟨hq, q⟩
    · obtain ⟨its, rv, p', hz⟩ := I1.tuple hq
      have hal : a < s1.heap.objs.size := by obtain ⟨_, ho, _⟩ := p'; exact Heap.lt_size ho
      refine call_enumerate_tuple (show s1.heap.IsTuple a its.toArray from p') fun h' he hit hsz hk => wpAny_pyIter_enum he ?_
      have I2 : Inv X pins σ H1 { s1 with heap := h' } := I1.kept (t' := s1.toks) hk
      exact ⟨s1.heap.objs.size + 1, [s1.heap.objs.size + 1, s1.heap.objs.size], _, _, H1, rfl, I2, turn_enumT a (s1.heap.objs.size + 1) s1.heap.objs.size, ⟨⟨.none, he⟩, hit, Nat.succ_ne_self _, Nat.ne_of_lt hal, Nat.ne_of_gt (Nat.lt_succ_of_lt hal)⟩, hfp h' I2, q⟩
    · obtain ⟨its, rv, p', hz⟩ := I1.list hq
      refine call_enumerate_list p'.isList fun h' he hit hsz hk => wpAny_pyIter_enum he ?_
      have I2 : Inv X pins σ H1 { s1 with heap := h' } := I1.kept (t' := s1.toks) hk
      exact ⟨s1.heap.objs.size + 1, [s1.heap.objs.size + 1, s1.heap.objs.size], _, _, H1, rfl, I2, turn_enum a (s1.heap.objs.size + 1) s1.heap.objs.size, ⟨⟨.none, he⟩, hit, Nat.succ_ne_self _⟩, hfp h' I2, q⟩
def enumT (xs : List D) : List D := xs.zipIdx.map fun p => .tup [.int ((p.2 : Nat) : Int), p.1]
theorem enumT_len (xs : List D) : (enumT xs).length = xs.length := by unfold enumT; rw [List.length_map, List.length_zipIdx]
theorem enumT_at {xs : List D} {i : Nat} {d : D} (h : (enumT xs)[i]? = some d) : ∃ x, xs[i]? = some x ∧ d = .tup [.int (i : Nat), x] := by
  unfold enumT at h
  rw [List.getElem?_map, List.getElem?_zipIdx] at h
  cases e : xs[i]? with
  | none => rw [e] at h; cases h
  | some x =>
    rw [e] at h
    simp only [Option.map_some, Option.some.injEq, Nat.zero_add] at h
    exact ⟨x, rfl, h.symm⟩
theorem yld_enumL {X : Cx} {W : Wd} {Z H : Hp} {a : Addr} {vs : List V} {xs : List D} (na : ¬ W.bx a) (ha : H a = some (.lst vs)) (l : RepL X.K W.β Z xs vs) :
    Yld X.K W (Ite X.K a) (enumT xs) (fun c => c = a) Z H := by
  refine ⟨fun c e => ?_, fun i Z2 H2 st sz zh ka _ bx => ⟨fun hi => ?_, fun d hd => ?_⟩⟩
  · subst e
    exact ⟨⟨_, ha⟩, na⟩
  · rw [enumT_len, l.length] at hi
    exact ⟨vs, .inl (.inl (ka a _ rfl ha)), hi⟩
  · obtain ⟨x, h1, rfl⟩ := enumT_at hd
    obtain ⟨v, g1, rv⟩ := l.get h1
    have qa : SqL X.K H2 a vs := .inl (.inl (ka a _ rfl ha))
    refine ⟨⟨vs, v, qa, g1⟩, fun z H3 yy => ?_⟩
    obtain ⟨T, v', rfl, hT, rfl, e1⟩ := yy
    have e1 := e1 _ qa; rw [g1] at e1; cases e1
    exact yld_pair zh bx hT (.int _) (rv.mono sz)
theorem yld_enumT {X : Cx} {W : Wd} {Z H : Hp} {a : Addr} {vs : List V} {xs : List D} (ha : TupAt X.K Z a vs) (l : RepL X.K W.β Z xs vs) :
    Yld X.K W (IteT X.K a) (enumT xs) (fun _ => False) Z H := by
  refine ⟨fun c e => e.elim, fun i Z2 H2 st sz zh ka _ bx => ?_⟩
  have qa : SqT X.K H2 a vs := (subOf zh).sqT (sz.tupAt ha)
  refine ⟨fun hi => ?_, fun d hd => ?_⟩
  · rw [enumT_len, l.length] at hi
    exact ⟨vs, qa, hi⟩
  · obtain ⟨x, h1, rfl⟩ := enumT_at hd
    obtain ⟨v, g1, rv⟩ := l.get h1
    refine ⟨⟨vs, v, qa, g1⟩, fun z H3 yy => ?_⟩
    obtain ⟨T, v', rfl, hT, rfl, e1⟩ := yy
    have e1 := e1 _ qa; rw [g1] at e1; cases e1
    exact yld_pair zh bx hT (.int _) (rv.mono sz)
def enumDM {S : Type} (x : D) : M S (List D) :=
  match x with
  | .tup xs => ret (enumT xs)
  | .lst xs => ret (enumT xs)
  | _ => Sn.stuck
def enumM {S : Type} (ma : M S D) : M S (List D) := bnd ma enumDM
section
variable {S : Type} [BoxS S] {C : Stat} {Γ : SCx} {a : Expr} {ma : M S D} {mda : Md} {p pos : Pos}
theorem OkI.enum {bb : Bool} {elts : List Expr} {kk : Nat} {tpos : Pos} (ha : Ok mda C Γ a ma) (hg : C.sc.names.lookup ("enumerate" : Str) = some .globalImplicit) (hm : C.G.mg "enumerate" = none) (h1 : mda = .V → bb = false)
    (hp : plainArg a = true := by rfl) : OkI bb C Γ (.Tuple elts kk tpos) (.Call (.Name "enumerate" p) [a] [] pos) (enumM ma) := .mk fun X hX W σ Z H st xs st' R r hm' q => by
  obtain ⟨d, st1, g1, hm1⟩ := bnd_some hm'
  refine tUI_of (pi_enumT (hX.glob hg) (hX.none hm) (pa_cons peU pa_nil (starEach_plain _ hp)) (by rw [starEach_plain _ hp]; rfl)) ?_
  refine ha X hX W σ Z H st d st1 _ r g1 fun v1 Z1 H1 s1 b1 r1 => ?_
  have r1v := r1.view s1.zh
  cases d with
  | tup xs1 =>
    obtain ⟨rfl, rfl⟩ := ret_some hm1
    cases r1v.1 with | tup hq l =>
      exact ⟨_, _, rfl, .inl ⟨s1.sub.sqT hq, q _ _ Z1 H1 s1 b1 (yld_enumT hq l) fun _ _ h => h.elim⟩⟩
  | lst xs1 =>
    obtain ⟨rfl, rfl⟩ := ret_some hm1
    obtain ⟨p1, vs, rfl, hq, l⟩ := r1v.1
    refine ⟨p1, vs, rfl, .inr ⟨.inl (.inl hq), q _ _ Z1 H1 s1 b1 (yld_enumL (r1v.2 _ rfl rfl) hq l) fun hbb c hc => ?_⟩⟩
    subst hc
    cases mda with
    | V => rw [h1 rfl] at hbb; cases hbb
    | E =>
      have hz : Z1 c ≠ none := by cases r1 with | lst hz _ => rw [hz]; exact fun e => nomatch e
      refine ⟨fun ho => ?_, .inl hz⟩
      obtain ⟨i, d', k1, k2⟩ := ho
      obtain ⟨b', e', zb, _, _, _⟩ := (r.step s1 b1).own i d' k1
      rw [k2] at e'; cases e'
      exact hz zb
    | N =>
      obtain ⟨f1, _, _⟩ := r1.2 c rfl rfl
      refine ⟨fun ho => ?_, .inr f1⟩
      obtain ⟨o, ho'⟩ := r.ownThere ho
      rw [f1] at ho'; cases ho'
  | _ => exact (stuck_some (S := S) (α := List D) (s := st1) hm1).elim
end
end Sn

namespace Sn
open PySem PySem.Spec PyProof.Rows L2
/-! ### great ints -/
instance (i j : Int) : Decidable (CMulX i j) := by unfold CMulX; infer_instance
instance (i j : Int) : Decidable (CDivW i j) := by unfold CDivW; infer_instance
def mulWD (x y : D) : Option D :=
  match x, y with
  | .int i, .int j => if CMulX i j then some (.int (i * j)) else none
  | x, y => mulD x y
def divWD (x y : D) : Option D :=
  match x, y with
  | .int i, .int j => if CDivW i j then some (.int (i / j)) else none
  | _, _ => none
section
variable {C : Stat}
theorem o_mulW : Op2 C (binaryOp .Mult) mulWD := fun X hX S _ W Z H st x y dx dy d Q zh sz bx r1 r2 hg q => by
  by_cases hh : ∃ i j, dx = .int i ∧ dy = .int j
  · obtain ⟨i, j, rfl, rfl⟩ := hh
    have hg' : (if CMulX i j then some (D.int (i * j)) else none) = some d := hg
    split at hg'
    · rename_i hc
      cases hg'
      cases r1; cases r2
      exact rU_of op_mulX ⟨i, j, rfl, rfl, hc, fin_plain zh bx (.int _) rfl q⟩
    · cases hg'
  · have : mulWD dx dy = mulD dx dy := by
      cases dx <;> cases dy <;> first | rfl | exact absurd ⟨_, _, rfl, rfl⟩ hh
    exact o_mul X hX W Z H st x y dx dy d Q zh sz bx r1 r2 (this ▸ hg) q
theorem o_divW : Op2 C (binaryOp .FloorDiv) divWD := fun X hX S _ W Z H st x y dx dy d Q zh sz bx r1 r2 hg q => by
  match dx, dy, hg with
  | .int i, .int j, hg =>
    have hg' : (if CDivW i j then some (D.int (i / j)) else none) = some d := hg
    split at hg'
    · rename_i hc
      cases hg'
      cases r1; cases r2
      exact rU_of op_fdivW ⟨i, j, rfl, rfl, hc, fin_plain zh bx (.int _) rfl q⟩
    · cases hg'
end
/-! ### list(range(..)), tuple(range(..)); range of three -/
section
variable {S : Type} [BoxS S] {C : Stat} {Γ : SCx} {e a b c : Expr} {es : List Expr} {rest : List Stmt} {m ma mb mc : M S D} {md mda mdb mdc : Md} {pos p p2 pos2 : Pos} {τ l : Type} {T : Tg τ l} {i : Nat} {x : Str}
def rgD (lo hi : D) : Option (Int × Int) :=
  match lo, hi with
  | .int i, .int j => if -(2 ^ 62) ≤ i ∧ i < 2 ^ 62 ∧ -(2 ^ 62) ≤ j ∧ j < 2 ^ 62 ∧ (j - i).toNat ≤ 2 ^ 24 then some (i, j) else none
  | _, _ => none
theorem rgD_some {lo hi : D} {i j : Int} (h : rgD lo hi = some (i, j)) : lo = .int i ∧ hi = .int j ∧ RgOk i j := by
  match lo, hi, h with
  | .int a, .int b, h =>
    have h' : (if -(2 ^ 62) ≤ a ∧ a < 2 ^ 62 ∧ -(2 ^ 62) ≤ b ∧ b < 2 ^ 62 ∧ (b - a).toNat ≤ 2 ^ 24 then some (a, b) else none) = some (i, j) := h
    split at h'
    · rename_i hc
      cases h'
      exact ⟨rfl, rfl, hc⟩
    · cases h'
def lrgD (lo hi : D) : Option D := (rgD lo hi).map fun p => .lst (rng p.1 p.2)
def trgD (lo hi : D) : Option D := (rgD lo hi).map fun p => .tup (rng p.1 p.2)
theorem repL_rg {K : PySem.W.Frag} {β : Addr} {Z : Hp} (i j : Int) : RepL K β Z (rng i j) (rgV i j) := by
  unfold rng rgV
  generalize (j - i).toNat = n
  have : ∀ l : List Nat, RepL K β Z (l.map fun k : Nat => D.int (i + (k : Int))) (l.map fun k : Nat => V.int (i + (k : Int))) := by
    intro l
    induction l with
    | nil => exact .nil
    | cons k l ih => exact .cons (.int _) ih
  exact this _
theorem rg_len {i j : Int} (h : RgOk i j) : (rgV i j).length ≤ sizeLine := by
  rw [rgV_length, sizeLine_eq]
  exact h.2.2.2.2
def rg1M (g : D → D → Option D) (ma : M S D) : M S D := bnd ma fun x => lift (g (.int 0) x)
def rg2M (g : D → D → Option D) (ma mb : M S D) : M S D := bnd ma fun x => bnd mb fun y => lift (g x y)
theorem Ok.lrg1 (ha : Ok mda C Γ a ma) (hg : C.sc.names.lookup ("list" : Str) = some .globalImplicit) (hm : C.G.mg "list" = none) (hg2 : C.sc.names.lookup ("range" : Str) = some .globalImplicit) (hm2 : C.G.mg "range" = none) (hp : plainArg a = true := by rfl) :
    Ok .N C Γ (.Call (.Name "list" p) [.Call (.Name "range" p2) [a] [] pos2] [] pos) (rg1M lrgD ma) := .mk fun X hX W σ Z H st d st' Q r hm' q => by
  obtain ⟨x, st1, h1, hm1⟩ := bnd_some hm'
  obtain ⟨hgd, rfl⟩ := lift_some hm1
  obtain ⟨⟨i, j⟩, e1, rfl⟩ := Option.map_eq_some_iff.mp hgd
  obtain ⟨ei, rfl, ok⟩ := rgD_some e1
  cases ei
  refine tU_of (pe_listRg hX.calm (hX.glob hg) (hX.none hm) (prg_1 (hX.glob hg2) (hX.none hm2) peU (starEach_plain _ hp))) ?_
  refine ha X hX W σ Z H st _ _ _ r h1 fun v Z1 H1 s1 b1 r1 => ?_
  cases (r1.view s1.zh).1
  refine ⟨j, rfl, ok, fun pn hn => ?_⟩
  have s2 := Stp.layH (o := .lst (rgV 0 j)) s1.zh hn (rg_len ok)
  refine q _ _ _ (s1.trans s2) (box_lay b1 hn) ⟨⟨pn, _, rfl, upd_same, repL_rg 0 j⟩, fun a ea _ => ?_⟩
  cases ea
  exact ⟨fresh_back r.box b1 s1 hn, z_none s1.zh hn, BoxS.bxThere b1 hn⟩
theorem Ok.lrg2 (ha : Ok mda C Γ a ma) (hb : Ok mdb C Γ b mb) (hg : C.sc.names.lookup ("list" : Str) = some .globalImplicit) (hm : C.G.mg "list" = none) (hg2 : C.sc.names.lookup ("range" : Str) = some .globalImplicit) (hm2 : C.G.mg "range" = none) (hp : plainArg a = true := by rfl) (hp2 : plainArg b = true := by rfl) :
    Ok .N C Γ (.Call (.Name "list" p) [.Call (.Name "range" p2) [a, b] [] pos2] [] pos) (rg2M lrgD ma mb) := .mk fun X hX W σ Z H st d st' Q r hm' q => by
  obtain ⟨x, st1, h1, hm1⟩ := bnd_some hm'
  obtain ⟨y, st2, h2, hm2'⟩ := bnd_some hm1
  obtain ⟨hgd, rfl⟩ := lift_some hm2'
  obtain ⟨⟨i, j⟩, e1, rfl⟩ := Option.map_eq_some_iff.mp hgd
  obtain ⟨rfl, rfl, ok⟩ := rgD_some e1
  refine tU_of (pe_listRg hX.calm (hX.glob hg) (hX.none hm) (prg_2 (hX.glob hg2) (hX.none hm2) peU peU (starEach_plain _ hp) (starEach_plain _ hp2) (by rw [starEach_plain _ hp2]; rfl))) ?_
  refine ha X hX W σ Z H st _ _ _ r h1 fun v Z1 H1 s1 b1 r1 => ?_
  refine hb X hX W σ Z1 H1 st1 _ _ _ (r.step s1 b1) h2 fun u Z2 H2 s12 b2 r2 => ?_
  cases (r1.view s1.zh).1
  cases (r2.view s12.zh).1
  have s2 := s1.trans s12
  refine ⟨i, j, rfl, rfl, ok, fun pn hn => ?_⟩
  have s3 := Stp.layH (o := .lst (rgV i j)) s2.zh hn (rg_len ok)
  refine q _ _ _ (s2.trans s3) (box_lay b2 hn) ⟨⟨pn, _, rfl, upd_same, repL_rg i j⟩, fun a ea _ => ?_⟩
  cases ea
  exact ⟨fresh_back r.box b2 s2 hn, z_none s2.zh hn, BoxS.bxThere b2 hn⟩
theorem Ok.trg1 (ha : Ok mda C Γ a ma) (hg : C.sc.names.lookup ("tuple" : Str) = some .globalImplicit) (hm : C.G.mg "tuple" = none) (hg2 : C.sc.names.lookup ("range" : Str) = some .globalImplicit) (hm2 : C.G.mg "range" = none) (hp : plainArg a = true := by rfl) :
    Ok .E C Γ (.Call (.Name "tuple" p) [.Call (.Name "range" p2) [a] [] pos2] [] pos) (rg1M trgD ma) := .mk fun X hX W σ Z H st d st' Q r hm' q => by
  obtain ⟨x, st1, h1, hm1⟩ := bnd_some hm'
  obtain ⟨hgd, rfl⟩ := lift_some hm1
  obtain ⟨⟨i, j⟩, e1, rfl⟩ := Option.map_eq_some_iff.mp hgd
  obtain ⟨ei, rfl, ok⟩ := rgD_some e1
  cases ei
  refine tU_of (pe_tupRg hX.calm (hX.glob hg) (hX.none hm) (prg_1 (hX.glob hg2) (hX.none hm2) peU (starEach_plain _ hp))) ?_
  refine ha X hX W σ Z H st _ _ _ r h1 fun v Z1 H1 s1 b1 r1 => ?_
  cases (r1.view s1.zh).1
  refine ⟨j, rfl, ok, fun pn hn => ?_⟩
  have s2 := Stp.layZ (o := .tup (rgV 0 j)) s1.zh b1 hn (rg_len ok)
  exact q _ _ _ (s1.trans s2) (box_lay b1 hn) (.tup (.inl upd_same) (repL_rg 0 j))
theorem Ok.trg2 (ha : Ok mda C Γ a ma) (hb : Ok mdb C Γ b mb) (hg : C.sc.names.lookup ("tuple" : Str) = some .globalImplicit) (hm : C.G.mg "tuple" = none) (hg2 : C.sc.names.lookup ("range" : Str) = some .globalImplicit) (hm2 : C.G.mg "range" = none) (hp : plainArg a = true := by rfl) (hp2 : plainArg b = true := by rfl) :
    Ok .E C Γ (.Call (.Name "tuple" p) [.Call (.Name "range" p2) [a, b] [] pos2] [] pos) (rg2M trgD ma mb) := .mk fun X hX W σ Z H st d st' Q r hm' q => by
  obtain ⟨x, st1, h1, hm1⟩ := bnd_some hm'
  obtain ⟨y, st2, h2, hm2'⟩ := bnd_some hm1
  obtain ⟨hgd, rfl⟩ := lift_some hm2'
  obtain ⟨⟨i, j⟩, e1, rfl⟩ := Option.map_eq_some_iff.mp hgd
  obtain ⟨rfl, rfl, ok⟩ := rgD_some e1
  refine tU_of (pe_tupRg hX.calm (hX.glob hg) (hX.none hm) (prg_2 (hX.glob hg2) (hX.none hm2) peU peU (starEach_plain _ hp) (starEach_plain _ hp2) (by rw [starEach_plain _ hp2]; rfl))) ?_
  refine ha X hX W σ Z H st _ _ _ r h1 fun v Z1 H1 s1 b1 r1 => ?_
  refine hb X hX W σ Z1 H1 st1 _ _ _ (r.step s1 b1) h2 fun u Z2 H2 s12 b2 r2 => ?_
  cases (r1.view s1.zh).1
  cases (r2.view s12.zh).1
  have s2 := s1.trans s12
  refine ⟨i, j, rfl, rfl, ok, fun pn hn => ?_⟩
  have s3 := Stp.layZ (o := .tup (rgV i j)) s2.zh b2 hn (rg_len ok)
  exact q _ _ _ (s2.trans s3) (box_lay b2 hn) (.tup (.inl upd_same) (repL_rg i j))
/-- lo, lo - 1, .. above hi -/
def rngDn (lo hi : Int) : List D := (List.range (lo - hi).toNat).map fun k : Nat => .int (lo - (k : Int))
/-- lo, lo + c, .. below hi, c above nought -/
def rngUp (lo hi c : Int) : List D := (List.range ((hi - lo + c - 1) / c).toNat).map fun k : Nat => .int (lo + (k : Int) * c)
def rng3D (x y z : D) : M S (List D) :=
  match x, y, z with
  | .int i, .int j, .int c => if -(2 ^ 62) ≤ i ∧ i < 2 ^ 62 ∧ -(2 ^ 62) ≤ j ∧ j < 2 ^ 62 ∧ c = -1 then ret (rngDn i j) else Sn.stuck
  | _, _, _ => Sn.stuck
def rng3M (ma mb mc : M S D) : M S (List D) := bnd ma fun x => bnd mb fun y => bnd mc fun z => rng3D x y z
theorem yld_dn {K : PySem.W.Frag} {W : Wd} {Z H : Hp} {lo hi : Int} : Yld K W (Itc lo (-1) (lo - hi).toNat) (rngDn lo hi) (fun _ => False) Z H := by
  refine ⟨fun b e => e.elim, fun i Z2 H2 st sz zh ka _ bx => ⟨fun h => ?_, fun d hd => ?_⟩⟩
  · unfold rngDn at h
    rw [List.length_map, List.length_range] at h
    exact h
  · unfold rngDn at hd
    rw [List.getElem?_map] at hd
    obtain ⟨k, hk, rfl⟩ := Option.map_eq_some_iff.mp hd
    obtain ⟨h1, h2⟩ := List.getElem?_eq_some_iff.mp hk
    rw [List.length_range] at h1
    rw [List.getElem_range] at h2
    subst h2
    refine ⟨h1, fun x H3 yy => ?_⟩
    obtain ⟨rfl, rfl⟩ := yy
    refine ⟨Z2, Stp.refl zh, bx, ?_⟩
    rw [show lo + (i : Int) * -1 = lo - (i : Int) by omega]
    exact .int _
theorem OkI.range3 {bb : Bool} {tg : Expr} (ha : Ok mda C Γ a ma) (hb : Ok mdb C Γ b mb) (hc : Ok mdc C Γ c mc) (hg : C.sc.names.lookup ("range" : Str) = some .globalImplicit) (hm : C.G.mg "range" = none) (hp : plainArg a = true := by rfl) (hp2 : plainArg b = true := by rfl) (hp3 : plainArg c = true := by rfl) :
    OkI bb C Γ tg (.Call (.Name "range" p) [a, b, c] [] pos) (rng3M ma mb mc) := .mk fun X hX W σ Z H st xs st' R r hm' q => by
  obtain ⟨d1, st1, h1, hm1⟩ := bnd_some hm'
  obtain ⟨d2, st2, h2, hm2⟩ := bnd_some hm1
  obtain ⟨d3, st3, h3, hm3⟩ := bnd_some hm2
  match d1, d2, d3, hm3 with
  | .int i, .int j, .int k, hm3 =>
    have hm4 : (if -(2 ^ 62) ≤ i ∧ i < 2 ^ 62 ∧ -(2 ^ 62) ≤ j ∧ j < 2 ^ 62 ∧ k = -1 then ret (rngDn i j) else Sn.stuck : M S (List D)) st3 = some (xs, st') := hm3
    split at hm4
    · rename_i ok
      obtain ⟨k1, k2, k3, k4, rfl⟩ := ok
      obtain ⟨rfl, rfl⟩ := ret_some hm4
      refine tUI_of (pi_range3 (hX.glob hg) (hX.none hm) (pa_cons peU (pa_cons peU (pa_cons peU pa_nil (starEach_plain _ hp3)) (starEach_plain _ hp2)) (starEach_plain _ hp)) (by rw [starEach_plain _ hp]) (by rw [starEach_plain _ hp2, starEach_plain _ hp3]; rfl)) ?_
      refine ha X hX W σ Z H st _ _ _ r h1 fun v1 Z1 H1 s1 b1 r1 => ?_
      refine hb X hX W σ Z1 H1 st1 _ _ _ (r.step s1 b1) h2 fun v2 Z2 H2 s2 b2 r2 => ?_
      refine hc X hX W σ Z2 H2 st2 _ _ _ ((r.step s1 b1).step s2 b2) h3 fun v3 Z3 H3 s3 b3 r3 => ?_
      cases (r1.view s1.zh).1
      cases (r2.view s2.zh).1
      cases (r3.view s3.zh).1
      exact ⟨i, j, -1, (i - j).toNat, rfl, RgC.neg k1 k2 k3 k4, q _ _ Z3 H3 ((s1.trans s2).trans s3) b3 yld_dn fun _ _ h => h.elim⟩
    · exact (stuck_some hm4).elim
end
end Sn

namespace Sn
open PySem PySem.Spec PyProof.Rows L2
/-! ### xs += ys of own lists; xs[i] += e; {k: v} -/
section
variable {S : Type} [BoxS S] {C : Stat} {Γ : SCx} {e a b c : Expr} {es : List Expr} {rest : List Stmt} {m ma mb me mk : M S D} {md mda mdb mde : Md} {pos p p2 pos2 tpos : Pos} {τ l : Type} {T : Tg τ l} {i : Nat} {x : Str} {d : D}
theorem Γ_same (h : Γ[i]? = some (some (En.own d))) (σ : L2.St) (v : V) (hs : σ[i]? = some (some v)) : σ.set i (some v) = σ := by
  apply List.ext_getElem?
  intro j
  by_cases e : i = j
  · subst e
    obtain ⟨hl, _⟩ := List.getElem?_eq_some_iff.mp hs
    rw [List.getElem?_set_self hl, hs]
  · rw [List.getElem?_set_ne e]
def extLD (d y : D) : Option D :=
  match d, y with
  | .lst xs, .lst ys => if xs.length + ys.length ≤ sizeLine then some (.lst (xs ++ ys)) else none
  | _, _ => none
theorem extLD_some {d y d' : D} (h : extLD d y = some d') : ∃ xs ys, d = .lst xs ∧ y = .lst ys ∧ xs.length + ys.length ≤ sizeLine ∧ d' = .lst (xs ++ ys) := by
  match d, y, h with
  | .lst xs, .lst ys, h =>
    have h' : (if xs.length + ys.length ≤ sizeLine then some (D.lst (xs ++ ys)) else none) = some d' := h
    split at h'
    · cases h'
      exact ⟨xs, ys, rfl, rfl, by assumption, rfl⟩
    · cases h'
def extLM (d : D) (me : M S D) (k : D → M S (Fl τ l)) : M S (Fl τ l) := bnd me fun y => bnd (lift (extLD d y)) k
/-- xs += ys, ys a list -/
theorem OkB.augL {k : D → M S (Fl τ l)} (hN : C.N[i]? = some x) (hv : Vis C.sc x) (hx : Loc C.sc x) (hf : C.fn x = true ∨ C.sc.names.lookup x = some .local) (h0 : Γ[i]? = some (some (.own d))) (he : Ok .V C Γ e me) (hb : ∀ d', OkB C (Γ.set i (some (.own d'))) rest T (k d')) :
    OkB C Γ (.AugAssign (.Name x p) .Add e pos :: rest) T (extLM d me k) := .mk fun X hX W σ Z H st f st' D r hm q => by
  obtain ⟨y, st1, h1, hm1⟩ := bnd_some hm
  obtain ⟨d', st2, h2, hm2⟩ := bnd_some hm1
  obtain ⟨hg, rfl⟩ := lift_some h2
  obtain ⟨xs, ys, rfl, rfl, hl, rfl⟩ := extLD_some hg
  obtain ⟨pa, ep, z, nb, mu, a', vs, ea, hq, lr⟩ := r.own i _ h0
  cases ea
  · refine tUS_of (pss_cons (ps_aug (i := i) (by rw [hX.N]; exact hX.nd) (by rw [hX.N]; exact hN) (by rw [hX.sc]; exact hx) peU (ti := fun x y H Q => rExt2 x y H Q) (fun pins s σ H x y v u Q I r1 r2 h => iop_ext pins s σ H x y v u Q I r1 r2 h) (store_hyp hX hf)) pssU) ?_
    refine ⟨_, ep, he X hX W σ Z H st _ _ _ r h1 fun v Z1 H1 s1 b1 r1 => ?_⟩
    have rr := r.step s1 b1
    have hq1 := s1.hh _ _ hq nb
    have ll := lr.length
    obtain ⟨pb, us, rfl, hqb, lb⟩ := r1.1
    have lb' := lb.length
    refine ⟨pa, pb, vs, us, rfl, rfl, hq1, hqb, by omega, ?_⟩
    have so : SzO (.lst (vs ++ us)) := by
      show (vs ++ us).length ≤ sizeLine
      rw [List.length_append]; omega
    show tUS X rest D (List.set σ i (some (V.ref pa))) (upd H1 pa (HO.lst (vs ++ us)))
    rw [Γ_same h0 σ _ ep]
    refine hb _ X hX W σ Z1 (upd H1 pa (.lst (vs ++ us))) _ f st' D (rr.mut (d' := Sn.D.lst (xs ++ ys)) h0 ep rfl ⟨pa, _, rfl, upd_same, (lr.mono s1.zz).append lb⟩ so) hm2 ?_
    exact (q.after s1.bst OwLe.refl (Γ1 := Γ) (σ1 := σ)).after (bst_mut rr h0 ep so) fun a h => .inl (own_mut h0 h)
/-- xs[i] += e -/
def aug2D (g : Int → Int → Int) (d k y : D) : Option D :=
  match d, k, y with
  | .lst xs, .int i, .int b => if 0 ≤ i then match xs[i.toNat]? with
      | some (.int a) => some (.lst (xs.set i.toNat (.int (g a b))))
      | _ => none
    else none
  | _, _, _ => none
def aug2M (g : Int → Int → Int) (d : D) (mk me : M S D) (k : D → M S (Fl τ l)) : M S (Fl τ l) := bnd mk fun j => bnd me fun y => bnd (lift (aug2D g d j y)) k
def rGetN : V → V → Hp → VK → Prop := fun o i H Q => ∃ p xs k v, o = .ref p ∧ i = .int k ∧ H p = some (.lst xs) ∧ 0 ≤ k ∧ k < 2 ^ 63 ∧ xs[k.toNat]? = some v ∧ Q v H
theorem get_listN {X : Cx} : PGet X rGetN := by
  intro pins s σ H o i ov iv Q I ro ri h
  obtain ⟨p, xs, k, v, rfl, rfl, hp, h0, h63, hx, q⟩ := h
  cases ro
  obtain ⟨t, rfl⟩ := ri
  obtain ⟨its, r, pl, hz⟩ := I.list (.inl (.inl hp))
  obtain ⟨w, ew, rw'⟩ := r.get hx
  exact wpAny_getItem_list pl.isList h0 h63 (by simpa using ew) ⟨v, H, I, rw', q⟩
theorem OkB.aug2 {k : D → M S (Fl τ l)} {op : Operator} {g : Int → Int → Int} (ho : ∀ X, PIp X op (ipI g)) (hN : C.N[i]? = some x) (hv : Vis C.sc x) (h0 : Γ[i]? = some (some (.own d))) (hk : Ok .V C Γ b mk) (he : Ok .V C Γ e me) (hb : ∀ d', OkB C (Γ.set i (some (.own d'))) rest T (k d'))
    (hd : (x == ("__debug__" : Str)) = false := by decide) (hcd : (x == ("__classdict__" : Str)) = false := by decide)
    (ha : ∀ ov iv new, augStore b ov iv new = (do holding [new, ov, iv] (setItem ov iv new); release [new, ov, iv] []; pure .next) := by intros; rfl) :
    OkB C Γ (.AugAssign (.Subscript (.Name x p) b tpos) op e pos :: rest) T (aug2M g d mk me k) := .mk fun X hX W σ Z H st f st' D r hm q => by
  obtain ⟨j, st1, h1, hm1⟩ := bnd_some hm
  obtain ⟨y, st2, h2, hm2⟩ := bnd_some hm1
  obtain ⟨d', st3, h3, hm3⟩ := bnd_some hm2
  obtain ⟨hg, rfl⟩ := lift_some h3
  match d, j, y, hg with
  | .lst xs, .int ii, .int bb, hg =>
    have hg1 : (if 0 ≤ ii then match xs[ii.toNat]? with
      | some (.int a) => some (Sn.D.lst (xs.set ii.toNat (.int (g a bb))))
      | _ => none
    else none) = some d' := hg
    by_cases hii : 0 ≤ ii
    case neg => rw [if_neg hii] at hg1; cases hg1
    rw [if_pos hii] at hg1
    generalize hjn : ii.toNat = jj at hg1
    cases exj : xs[jj]? with
    | none => rw [exj] at hg1; cases hg1
    | some dv =>
      rw [exj] at hg1
      have hg2 := hg1
      cases dv with
      | int aa =>
        cases hg2
        refine tUS_of (pss_cons (ps_augS (pe_var (i := i) (by rw [hX.N]; exact hN) (by rw [hX.sc]; exact hv) hd hcd) peU get_listN peU (ho X) set_list ha) pssU) ?_
        obtain ⟨pa, ep, z, nb, mu, a', vs, ea, hq, lr⟩ := r.own i _ h0
        cases ea
        refine ⟨_, ep, hk X hX W σ Z H st _ _ _ r h1 fun vj Z1 H1 s1 b1 r1 => ?_⟩
        cases r1.1
        have rr := r.step s1 b1
        have hq1 := s1.hh _ _ hq nb
        obtain ⟨v, hvv, rv⟩ := lr.get exj
        cases rv
        have ll := lr.length
        have hz := rr.sz.lst hq1
        have hsl : sizeLine = 16777216 := sizeLine_eq
        have hlt : jj < xs.length := (List.getElem?_eq_some_iff.mp exj).1
        have hjj : 0 ≤ ii ∧ ii < 2 ^ 63 ∧ ii.toNat = jj := ⟨hii, by omega, hjn⟩
        have ej : ixN xs.length ii = some jj := by
          unfold ixN
          rw [if_pos hii, if_pos (by omega), hjn]
        refine ⟨pa, vs, ii, _, rfl, rfl, hq1, hjj.1, hjj.2.1, by rw [hjj.2.2]; exact hvv, ?_⟩
        refine he X hX W σ Z1 H1 st1 _ _ _ rr h2 fun ve Z2 H2 s2 b2 r2 => ?_
        cases r2.1
        have rr2 := rr.step s2 b2
        have hq2 := s2.hh _ _ hq1 nb
        refine ⟨aa, bb, rfl, rfl, pa, vs, ii, jj, rfl, rfl, hq2, by rw [← ll]; exact ej, ?_⟩
        have so : SzO (.lst (vs.set jj (.int (g aa bb)))) := by
          show (vs.set jj _).length ≤ sizeLine
          rw [List.length_set]; exact hz
        refine hb _ X hX W σ Z2 (upd H2 pa (.lst (vs.set jj (.int (g aa bb))))) _ f st' D (rr2.mut (d' := Sn.D.lst (xs.set jj (.int (g aa bb)))) h0 ep rfl ⟨pa, _, rfl, upd_same, (lr.mono (s1.trans s2).zz).set (.int _) jj⟩ so) hm3 ?_
        exact (q.after (s1.trans s2).bst OwLe.refl (Γ1 := Γ) (σ1 := σ)).after (bst_mut rr2 h0 ep so) fun a h => .inl (own_mut h0 h)
      | _ => cases hg2
/-- {k: v} -/
theorem Stp.over {W : Wd} {Z H Z2 H2 : Hp} {p : Addr} {o u : HO} {st : S} (zh0 : ∀ a o, Z a = some o → H a = some o ∧ ¬ W.bx a) (bx : BoxS.R st W.β W.γ H) (hp : H p = none) (s : Stp W Z (upd H p o) Z2 H2) (su : SzO u) (so : SzO o) : Stp W Z H Z2 (upd H2 p u) ∧ Z2 p = none := by
  have zp : Z2 p = none := by
    cases q : Z2 p with
    | none => rfl
    | some w =>
      rcases s.nw p w q with h | h
      · rw [(zh0 p w h).1] at hp; cases hp
      · rw [upd_same] at h; cases h
  refine ⟨⟨s.zz, fun a w h => ?_, fun a w h nb => ?_, fun a w h => ?_, fun hs => (s.sz (hs.upd so)).upd su⟩, zp⟩
  · have hne : a ≠ p := fun e => by rw [e, zp] at h; cases h
    exact ⟨by rw [upd_ne hne]; exact (s.zh a w h).1, (s.zh a w h).2⟩
  · have hne : a ≠ p := fun e => by rw [e, hp] at h; cases h
    rw [upd_ne hne]
    exact s.hh a w (by rw [upd_ne hne]; exact h) nb
  · rcases s.nw a w h with h | h
    · exact .inl h
    · by_cases e : a = p
      · rw [e, upd_same] at h; cases h
      · rw [upd_ne e] at h; exact .inr h
def d1D (k v : D) : Option D := (kq k).map fun kk => .dct [(keyD kk, v)]
def d1M (mk mv : M S D) : M S D := bnd mk fun k => bnd mv fun v => lift (d1D k v)
theorem Ok.d1 {mv : M S D} (hk : Ok .V C Γ a mk) (hv : Ok .E C Γ b mv) : Ok .N C Γ (.Dict [some a] [b] pos) (d1M mk mv) := .mk fun X hX W σ Z H st d st' Q r hm q => by
  obtain ⟨k, st1, h1, hm1⟩ := bnd_some hm
  obtain ⟨v, st2, h2, hm2⟩ := bnd_some hm1
  obtain ⟨hg, rfl⟩ := lift_some hm2
  obtain ⟨kk, hkk, rfl⟩ := Option.map_eq_some_iff.mp hg
  have ek := keyD_of hkk
  subst ek
  refine tU_of (pe_disp (pps_cons peU peU pps_nil) rfl rfl (by simp) (by simp)) fun p hp => ?_
  have s0 := Stp.layH (o := .dK []) r.zh hp trivial
  have r0 := r.step s0 (box_lay r.box hp)
  show tU X a σ (upd H p (.dK [])) fun x H1 => tU X b σ H1 fun y H2 => _
  refine hk X hX W σ Z _ st _ st1 _ r0 h1 fun vk Z1 H1 s1 b1 r1 => ?_
  refine hv X hX W σ Z1 H1 st1 _ _ _ (r0.step s1 b1) h2 fun vv Z2 H2 s2 b2 r2 => ?_
  have hrep := r2
  have s12 := s1.trans s2
  have ek : vk = kV kk := by
    cases kk with
    | inl i => cases r1.1; rfl
    | inr z => cases r1.1; rfl
  subst ek
  have nbp : ¬ W.bx p := BoxS.bxThere r.box hp
  have hH2 : H2 p = some (.dK []) := s12.hh p _ upd_same nbp
  refine ⟨hH2, [(kk, vv)], rfl, by simp, ?_⟩
  obtain ⟨s3, zp⟩ := Stp.over r.zh r.box hp s12 (u := .dK (mergeK [] [(kk, vv)])) trivial trivial
  have hb : BoxS.R st' W.β W.γ (upd H2 p (.dK (mergeK [] [(kk, vv)]))) := BoxS.congr b2 (upd_ne fun e => nbp (.inl e.symm)) (upd_ne fun e => nbp (.inr e.symm))
  refine q _ _ _ s3 hb ⟨⟨p, rfl, .inl ⟨_, upd_same, ?_⟩⟩, fun a ea _ => ?_⟩
  · exact RepK.cons hrep .nil
  · cases ea
    exact ⟨hp, zp, nbp⟩
end
end Sn

namespace Sn
open PySem PySem.Spec PyProof.Rows L2
noncomputable instance decEqD : DecidableEq D := fun _ _ => Classical.propDecidable _
/-! ### plain reasoning on mirrors -/
section
variable {S : Type} {α β : Type} {τ l τ' l' : Type}
@[simp] theorem r_bnd (a : α) (k : α → M S β) : bnd (ret a) k = k a := (rfl)
@[simp] theorem r_bndS (k : α → M S β) : bnd (stuck : M S α) k = stuck := (rfl)
@[simp] theorem r_lift (d : D) : (lift (some d) : M S D) = ret d := (rfl)
@[simp] theorem r_liftN : (lift none : M S D) = stuck := (rfl)
@[simp] theorem r_op2 (g : D → D → Option D) (a b : D) : op2M g (ret a : M S D) (ret b) = lift (g a b) := (rfl)
@[simp] theorem r_cmpT (g : D → D → Option D) (a b : D) : cmpT g (ret a : M S D) (ret b) = bnd (lift (g a b)) asB := (rfl)
@[simp] theorem r_asB (b : Bool) : (asB (.bl b) : M S Bool) = ret b := (rfl)
@[simp] theorem r_asI (b : Int) : (asI (.int b) : M S Int) = ret b := (rfl)
@[simp] theorem r_valT (d : D) : valT (ret d : M S D) = truM d := (rfl)
@[simp] theorem r_tru_bl (b : Bool) : (truM (.bl b) : M S Bool) = ret b := (rfl)
@[simp] theorem r_tru_int (i : Int) : (truM (.int i) : M S Bool) = ret (i != 0) := (rfl)
@[simp] theorem r_tru_lst (xs : List D) : (truM (.lst xs) : M S Bool) = ret (!xs.isEmpty) := (rfl)
@[simp] theorem r_tru_tup (xs : List D) : (truM (.tup xs) : M S Bool) = ret (!xs.isEmpty) := (rfl)
@[simp] theorem r_tru_non : (truM .non : M S Bool) = ret false := (rfl)
@[simp] theorem r_notT (b : Bool) : notT (ret b : M S Bool) = ret (!b) := (rfl)
@[simp] theorem r_andTt (k : M S Bool) : andT (ret true) k = k := (rfl)
@[simp] theorem r_andTf (k : M S Bool) : andT (ret false) k = ret false := (rfl)
@[simp] theorem r_andT (b c : Bool) : andT (ret b : M S Bool) (ret c) = ret (b && c) := by cases b <;> rfl
@[simp] theorem r_orTt (k : M S Bool) : orT (ret true) k = ret true := (rfl)
@[simp] theorem r_orTf (k : M S Bool) : orT (ret false) k = k := (rfl)
@[simp] theorem r_orT (b c : Bool) : orT (ret b : M S Bool) (ret c) = ret (b || c) := by cases b <;> rfl
@[simp] theorem r_andMt (k : M S D) : andM (ret (.bl true)) k = k := (rfl)
@[simp] theorem r_andMf (k : M S D) : andM (ret (.bl false)) k = ret (.bl false) := (rfl)
@[simp] theorem r_andM (b c : Bool) : andM (ret (.bl b) : M S D) (ret (.bl c)) = ret (.bl (b && c)) := by cases b <;> rfl
@[simp] theorem r_orMt (k : M S D) : orM (ret (.bl true)) k = ret (.bl true) := (rfl)
@[simp] theorem r_orMf (k : M S D) : orM (ret (.bl false)) k = k := (rfl)
@[simp] theorem r_orM (b c : Bool) : orM (ret (.bl b) : M S D) (ret (.bl c)) = ret (.bl (b || c)) := by cases b <;> rfl
@[simp] theorem r_notM (d : D) : notM (ret d : M S D) = bnd (truM d) fun t => ret (.bl (!t)) := (rfl)
@[simp] theorem r_negM (d : D) : negM (ret d : M S D) = lift (negD d) := (rfl)
@[simp] theorem r_negD (i : Int) : negD (.int i) = some (.int (-i)) := (rfl)
@[simp] theorem r_ifM (b : Bool) (x y : M S α) : ifM (ret b) x y = if b = true then x else y := (rfl)
@[simp] theorem r_consM (x : D) (xs : List D) : consM (ret x : M S D) (ret xs) = ret (x :: xs) := (rfl)
@[simp] theorem r_tupM (xs : List D) : tupM (ret xs : M S (List D)) = lift (tupD xs) := (rfl)
@[simp] theorem r_lstM (xs : List D) : lstM (ret xs : M S (List D)) = lift (lstD xs) := (rfl)
theorem tupD_le {xs : List D} (h : xs.length ≤ 16777216) : tupD xs = some (.tup xs) := by unfold tupD; rw [if_pos (by rw [sizeLine_eq]; exact h)]
theorem lstD_le {xs : List D} (h : xs.length ≤ 16777216) : lstD xs = some (.lst xs) := by unfold lstD; rw [if_pos (by rw [sizeLine_eq]; exact h)]
@[simp] theorem r_tup0 : tupD [] = some (.tup []) := tupD_le (by decide)
@[simp] theorem r_tup1 (a : D) : tupD [a] = some (.tup [a]) := tupD_le (by simp)
@[simp] theorem r_tup2 (a b : D) : tupD [a, b] = some (.tup [a, b]) := tupD_le (by simp)
@[simp] theorem r_tup3 (a b c : D) : tupD [a, b, c] = some (.tup [a, b, c]) := tupD_le (by simp)
@[simp] theorem r_tup4 (a b c d : D) : tupD [a, b, c, d] = some (.tup [a, b, c, d]) := tupD_le (by simp)
@[simp] theorem r_tup5 (a b c d e : D) : tupD [a, b, c, d, e] = some (.tup [a, b, c, d, e]) := tupD_le (by simp)
@[simp] theorem r_lst0 : lstD [] = some (.lst []) := lstD_le (by decide)
@[simp] theorem r_lst1 (a : D) : lstD [a] = some (.lst [a]) := lstD_le (by simp)
@[simp] theorem r_lst2 (a b : D) : lstD [a, b] = some (.lst [a, b]) := lstD_le (by simp)
@[simp] theorem r_lst3 (a b c : D) : lstD [a, b, c] = some (.lst [a, b, c]) := lstD_le (by simp)
@[simp] theorem r_bcM (g : List D → Option D) (xs : List D) : bcM g (ret xs : M S (List D)) = lift (g xs) := (rfl)
@[simp] theorem r_lenT (xs : List D) : lenD [.tup xs] = some (.int xs.length) := (rfl)
@[simp] theorem r_lenL (xs : List D) : lenD [.lst xs] = some (.int xs.length) := (rfl)
@[simp] theorem r_tupT (xs : List D) : tupleD [.tup xs] = some (.tup xs) := (rfl)
@[simp] theorem r_tupL (xs : List D) : tupleD [.lst xs] = some (.tup xs) := (rfl)
@[simp] theorem r_lstT (xs : List D) : listD [.tup xs] = some (.lst xs) := (rfl)
@[simp] theorem r_lstL (xs : List D) : listD [.lst xs] = some (.lst xs) := (rfl)
@[simp] theorem r_int (i : Int) : intD [.int i] = some (.int i) := (rfl)
@[simp] theorem r_ixM (a b : D) : ixM (ret a : M S D) (ret b) = lift (ixD a b) := (rfl)
@[simp] theorem r_ixT (xs : List D) (i : Int) : ixD (.tup xs) (.int i) = atI xs i := (rfl)
@[simp] theorem r_ixL (xs : List D) (i : Int) : ixD (.lst xs) (.int i) = atI xs i := (rfl)
@[simp] theorem r_ptM (i : Int) : ptM (ret (.int i) : M S D) = ret (some i) := (rfl)
@[simp] theorem r_slM (a : D) (i j : Option Int) : slM (ret a : M S D) (ret i) (ret j) = lift (slD a i j) := (rfl)
@[simp] theorem r_slT (xs : List D) (i j : Option Int) : slD (.tup xs) i j = some (.tup (cutL xs i j)) := (rfl)
@[simp] theorem r_slL (xs : List D) (i j : Option Int) : slD (.lst xs) i j = some (.lst (cutL xs i j)) := (rfl)
@[simp] theorem r_itT (xs : List D) : itM (ret (.tup xs) : M S D) = ret xs := (rfl)
@[simp] theorem r_itL (xs : List D) : itM (ret (.lst xs) : M S D) = ret xs := (rfl)
@[simp] theorem r_isi (T : String) (d : D) : isiM T (ret d : M S D) = lift (isiD T d) := (rfl)
@[simp] theorem r_add (i j : Int) : addD (.int i) (.int j) = some (.int (i + j)) := (rfl)
@[simp] theorem r_sub (i j : Int) : subD (.int i) (.int j) = some (.int (i - j)) := (rfl)
@[simp] theorem r_lt (i j : Int) : ltD (.int i) (.int j) = some (.bl (decide (i < j))) := (rfl)
@[simp] theorem r_le (i j : Int) : leD (.int i) (.int j) = some (.bl (decide (i ≤ j))) := (rfl)
@[simp] theorem r_gt (i j : Int) : gtD (.int i) (.int j) = some (.bl (decide (j < i))) := (rfl)
@[simp] theorem r_ge (i j : Int) : geD (.int i) (.int j) = some (.bl (decide (j ≤ i))) := (rfl)
@[simp] theorem r_isN (d : D) : isD d .non = some (.bl (isNonD d)) := by cases d <;> rfl
@[simp] theorem r_isntN (d : D) : isntD d .non = some (.bl (!isNonD d)) := by cases d <;> rfl
@[simp] theorem r_isB (a b : Bool) : isD (.bl a) (.bl b) = some (.bl (decide (a = b))) := (rfl)
@[simp] theorem r_isntB (a b : Bool) : isntD (.bl a) (.bl b) = some (.bl (!decide (a = b))) := (rfl)
@[simp] theorem nonNon : isNonD .non = true := rfl
@[simp] theorem nonI (i : Int) : isNonD (.int i) = false := rfl
@[simp] theorem nonT (i : List D) : isNonD (.tup i) = false := rfl
@[simp] theorem nonL (i : List D) : isNonD (.lst i) = false := rfl
@[simp] theorem nonB (i : Bool) : isNonD (.bl i) = false := rfl
@[simp] theorem nonS (i : Str) : isNonD (.str i) = false := rfl
theorem mul_ok {i j : Int} (h : (-(2 ^ 64) < i ∧ i < 2 ^ 64) ∨ (-(2 ^ 64) < j ∧ j < 2 ^ 64)) : mulD (.int i) (.int j) = some (.int (i * j)) := by
  show (if mulOk i j then some (D.int (i * j)) else none) = _
  rw [if_pos (show mulOk i j from h)]
theorem div_ok {i j : Int} (h : 0 < j) (h2 : j < 1073741824) : divD (.int i) (.int j) = some (.int (i / j)) := by
  show (if 0 < j ∧ j < 1073741824 then some (D.int (i / j)) else none) = _
  rw [if_pos ⟨h, h2⟩]
theorem mod_ok {i j : Int} (h : 0 < j) : modD (.int i) (.int j) = some (.int (i % j)) := by
  show (if 0 < j then some (D.int (i % j)) else none) = _
  rw [if_pos h]
@[simp] theorem r_retF (d : D) : (retF (ret d) : M S (Fl τ l)) = ret (.rt d) := (rfl)
@[simp] theorem r_endR (d : D) : (endF (.rt d : Fl Unit l) : M S D) = ret d := (rfl)
@[simp] theorem r_endN (u : Unit) : (endF (.nx u : Fl Unit l) : M S D) = ret .non := (rfl)
@[simp] theorem r_iteF (b : Bool) (mA mB : M S (Fl τ' l)) (k : τ' → M S (Fl τ l)) : iteF (ret b) mA mB k = if b = true then bnd mA (fun f => seqF f k) else bnd mB (fun f => seqF f k) := by cases b <;> rfl
@[simp] theorem r_seqN (s : τ') (k : τ' → M S (Fl τ l)) : seqF (.nx s) k = k s := (rfl)
@[simp] theorem r_seqR (d : D) (k : τ' → M S (Fl τ l)) : seqF (.rt d) k = ret (.rt d) := (rfl)
@[simp] theorem r_seqB (s : l) (k : τ' → M S (Fl τ l)) : seqF (.bk s) k = ret (.bk s) := (rfl)
@[simp] theorem r_seqC (s : l) (k : τ' → M S (Fl τ l)) : seqF (.ct s) k = ret (.ct s) := (rfl)
@[simp] theorem r_forM (xs : List D) (f : τ → D → M S (Fl τ τ)) (s0 : τ) (k : τ → M S (Fl τ' l')) : forM' (ret xs) f s0 k = forL f k xs s0 := (rfl)
@[simp] theorem r_forN (f : τ → D → M S (Fl τ τ)) (s0 : τ) (k : τ → M S (Fl τ' l')) : forL f k [] s0 = k s0 := (rfl)
theorem forL_cons (f : τ → D → M S (Fl τ τ)) (s0 : τ) (k : τ → M S (Fl τ' l')) (x : D) (xs : List D) : forL f k (x :: xs) s0 = bnd (f s0 x) fun fl => match fl with
    | .nx s' => forL f k xs s'
    | .ct s' => forL f k xs s'
    | .bk s' => k s'
    | .rt d => ret (.rt d) := rfl
@[simp] theorem r_own (xs : List D) (k : D → M S (Fl τ l)) : ownM (ret (.lst xs)) k = k (.lst xs) := (rfl)
@[simp] theorem r_ownd (xs : List (D × D)) (k : D → M S (Fl τ l)) : ownM (ret (.dct xs)) k = k (.dct xs) := (rfl)
@[simp] theorem r_par (a b : D) (k : D → D → M S (Fl τ l)) : parM .E .E (ret a) (ret b) k = k a b := (rfl)
@[simp] theorem r_parN (a : D) (b : List D) (k : D → D → M S (Fl τ l)) : parM .E .N (ret a) (ret (.lst b)) k = k a (.lst b) := (rfl)
@[simp] theorem r_parNN (a b : List D) (k : D → D → M S (Fl τ l)) : parM .N .N (ret (.lst a)) (ret (.lst b)) k = k (.lst a) (.lst b) := (rfl)
theorem app_ok {xs : List D} {y : D} {k : D → M S (Fl τ l)} (h : xs.length < 16777216) : appM (.lst xs) (ret y) k = k (.lst (xs ++ [y])) := by
  show bnd (lift (if xs.length < sizeLine then some (D.lst (xs ++ [y])) else none)) k = _
  rw [if_pos (by rw [sizeLine_eq]; exact h)]; rfl
theorem ext_ok {xs ys : List D} {k : D → M S (Fl τ l)} (h : xs.length + ys.length ≤ 16777216) : extM (.lst xs) (ret (.lst ys)) k = k (.lst (xs ++ ys)) := by
  show bnd (lift (if xs.length + ys.length ≤ sizeLine then some (D.lst (xs ++ ys)) else none)) k = _
  rw [if_pos (by rw [sizeLine_eq]; exact h)]; rfl
theorem addT_ok {xs ys : List D} (h : xs.length + ys.length ≤ 16777216) : addD (.tup xs) (.tup ys) = some (.tup (xs ++ ys)) := by
  show (if xs.length + ys.length ≤ sizeLine then some (D.tup (xs ++ ys)) else none) = _
  rw [if_pos (by rw [sizeLine_eq]; exact h)]
theorem addL_ok {xs ys : List D} (h : xs.length + ys.length ≤ 16777216) : addD (.lst xs) (.lst ys) = some (.lst (xs ++ ys)) := by
  show (if xs.length + ys.length ≤ sizeLine then some (D.lst (xs ++ ys)) else none) = _
  rw [if_pos (by rw [sizeLine_eq]; exact h)]
theorem rng1_ok {j : Int} (h : -(2 ^ 62) ≤ j) (h2 : j < 2 ^ 62) : rng1M (ret (.int j) : M S D) = ret (rng 0 j) := by
  show (if -(2 ^ 62) ≤ j ∧ j < 2 ^ 62 then ret (rng 0 j) else stuck : M S (List D)) = _
  rw [if_pos ⟨h, h2⟩]
theorem rng2_ok {i j : Int} (h : -(2 ^ 62) ≤ i) (h2 : i < 2 ^ 62) (h3 : -(2 ^ 62) ≤ j) (h4 : j < 2 ^ 62) : rng2M (ret (.int i) : M S D) (ret (.int j)) = ret (rng i j) := by
  show (if -(2 ^ 62) ≤ i ∧ i < 2 ^ 62 ∧ -(2 ^ 62) ≤ j ∧ j < 2 ^ 62 then ret (rng i j) else stuck : M S (List D)) = _
  rw [if_pos ⟨h, h2, h3, h4⟩]
theorem comp_ok {xs : List D} {f : D → M S (Option D)} (h : xs.length ≤ 16777216) : compM (ret xs) f = bnd (compL f xs) fun ys => ret (.lst ys) := by
  show (if xs.length ≤ sizeLine then _ else _) = _
  rw [if_pos (by rw [sizeLine_eq]; exact h)]
@[simp] theorem r_elt (b : Bool) (y : D) : eltM (ret b : M S Bool) (ret y) = ret (if b = true then some y else none) := by cases b <;> rfl
@[simp] theorem r_eltT (m : M S D) : eltM (ret true) m = bnd m fun y => ret (some y) := (rfl)
@[simp] theorem r_eltF (m : M S D) : eltM (ret false) m = ret none := (rfl)
@[simp] theorem r_compN {f : α → M S (Option β)} : compL f [] = ret [] := (rfl)
theorem compL_cons {f : α → M S (Option β)} (x : α) (xs : List α) : compL f (x :: xs) = bnd (f x) fun o => bnd (compL f xs) fun ys => ret (match o with | some y => y :: ys | none => ys) := rfl
theorem compL_map {γ : Type} {f : α → M S (Option β)} (g : γ → α) : ∀ xs : List γ, compL f (xs.map g) = compL (fun c => f (g c)) xs
  | [] => rfl
  | x :: xs => by rw [List.map_cons, compL_cons, compL_cons, compL_map g xs]
theorem compL_pure {f : α → M S (Option β)} (g : α → Option β) : ∀ {xs : List α}, (∀ x ∈ xs, f x = ret (g x)) → compL f xs = ret (xs.filterMap g)
  | [], _ => rfl
  | x :: xs, h => by
    rw [compL_cons, h x List.mem_cons_self, compL_pure g fun y hy => h y (List.mem_cons_of_mem _ hy), List.filterMap_cons]
    simp only [r_bnd]
    cases g x <;> rfl
/-- every item goes, each as g says -/
theorem compL_all {f : α → M S (Option β)} (g : α → β) {xs : List α} (h : ∀ x ∈ xs, f x = ret (some (g x))) : compL f xs = ret (xs.map g) := by
  rw [compL_pure (fun x => some (g x)) h]
  congr 1
  induction xs with
  | nil => rfl
  | cons x xs ih => rw [List.filterMap_cons, List.map_cons]; simp only; rw [ih fun y hy => h y (List.mem_cons_of_mem _ hy)]
/-- .. those of which c holds -/
theorem compL_if {f : α → M S (Option β)} (c : α → Bool) (g : α → β) {xs : List α} (h : ∀ x ∈ xs, f x = ret (if c x = true then some (g x) else none)) : compL f xs = ret ((xs.filter c).map g) := by
  rw [compL_pure (fun x => if c x = true then some (g x) else none) h]
  congr 1
  induction xs with
  | nil => rfl
  | cons x xs ih =>
    rw [List.filterMap_cons, List.filter_cons]
    have ih' := ih fun y hy => h y (List.mem_cons_of_mem _ hy)
    cases hc : c x
    · simp [ih']
    · simp [ih']
/-- a loop that always goes on -/
theorem forL_fold {f : τ → D → M S (Fl τ τ)} {k : τ → M S (Fl τ' l')} (g : τ → D → τ) : ∀ {xs : List D} {s0 : τ}, (∀ pre x post, xs = pre ++ x :: post → f (pre.foldl g s0) x = ret (.nx (g (pre.foldl g s0) x))) → forL f k xs s0 = k (xs.foldl g s0)
  | [], _, _ => rfl
  | x :: xs, s0, h => by
    have h0 : f s0 x = ret (.nx (g s0 x)) := h [] x xs rfl
    rw [forL_cons, h0, List.foldl_cons]
    exact forL_fold g fun pre y post e => h (x :: pre) y post (by rw [e]; rfl)
/-- a loop without a state that always goes on -/
theorem forL_unit {f : Unit → D → M S (Fl Unit Unit)} {k : Unit → M S (Fl τ' l')} {xs : List D} (h : ∀ x ∈ xs, f () x = ret (.nx ())) : forL f k xs () = k () := by
  rw [forL_fold (fun _ _ => ()) fun pre x post e => h x (by rw [e]; simp)]
/-- a search -/
theorem forL_find {f : Unit → D → M S (Fl Unit Unit)} {k : Unit → M S (Fl τ' l')} (p : D → Bool) (r : D → D) : ∀ {xs : List D}, (∀ x ∈ xs, f () x = if p x = true then ret (.rt (r x)) else ret (.nx ())) → forL f k xs () = match xs.find? p with | some x => ret (.rt (r x)) | none => k ()
  | [], _ => rfl
  | x :: xs, h => by
    rw [forL_cons, h x List.mem_cons_self, List.find?_cons]
    cases hp : p x
    · simp only [Bool.false_eq_true, if_false, r_bnd]
      exact forL_find p r fun y hy => h y (List.mem_cons_of_mem _ hy)
    · simp
/-! ### whatever the box gives -/
def Wp (m : M S α) (P : α → Prop) : Prop := ∀ s, ∃ a s', m s = some (a, s') ∧ P a
theorem Wp.ret {a : α} {P : α → Prop} (h : P a) : Wp (ret a : M S α) P := fun s => ⟨a, s, rfl, h⟩
theorem Wp.bnd {m : M S α} {k : α → M S β} {P : β → Prop} (h : Wp m fun a => Wp (k a) P) : Wp (bnd m k) P := fun s => by
  obtain ⟨a, s1, e1, h1⟩ := h s
  obtain ⟨b, s2, e2, h2⟩ := h1 s1
  exact ⟨b, s2, by unfold Sn.bnd; rw [e1]; exact e2, h2⟩
theorem Wp.mono {m : M S α} {P Q : α → Prop} (h : Wp m P) (q : ∀ a, P a → Q a) : Wp m Q := fun s => by
  obtain ⟨a, s1, e1, h1⟩ := h s
  exact ⟨a, s1, e1, q a h1⟩
theorem Wp.eq {m n : M S α} {P : α → Prop} (e : m = n) (h : Wp n P) : Wp m P := e ▸ h
/-- all items of a comprehension without a test -/
theorem Wp.comp {f : α → M S (Option β)} {R : α → β → Prop} : ∀ {xs : List α} {P : List β → Prop}, (∀ x ∈ xs, Wp (f x) fun o => ∃ y, o = some y ∧ R x y) → (∀ ys, ys.length = xs.length → (∀ (i : Nat) x y, xs[i]? = some x → ys[i]? = some y → R x y) → P ys) → Wp (compL f xs) P
  | [], P, _, q => Wp.ret (q [] rfl fun i x y h => by simp at h)
  | x :: xs, P, h, q => by
    rw [compL_cons]
    refine Wp.bnd (Wp.mono (h x List.mem_cons_self) fun o ⟨y, e, r⟩ => ?_)
    subst e
    refine Wp.bnd (Wp.comp (fun z hz => h z (List.mem_cons_of_mem _ hz)) fun ys hl hr => Wp.ret (q _ (by simp [hl]) fun i z w h1 h2 => ?_))
    cases i with
    | zero => simp at h1 h2; subst h1 h2; exact r
    | succ i => exact hr i z w (by simpa using h1) (by simpa using h2)
theorem Wp.forU {f : Unit → D → M S (Fl Unit Unit)} {k : Unit → M S (Fl τ' l')} {P : Fl τ' l' → Prop} : ∀ {xs : List D}, (∀ x ∈ xs, Wp (f () x) fun fl => fl = .nx ()) → Wp (k ()) P → Wp (forL f k xs ()) P
  | [], _, hk => hk
  | x :: xs, h, hk => by
    rw [forL_cons]
    refine Wp.bnd (Wp.mono (h x List.mem_cons_self) fun fl e => ?_)
    subst e
    exact Wp.forU (fun y hy => h y (List.mem_cons_of_mem _ hy)) hk
/-- a loop with an invariant by what was taken -/
theorem Wp.forI {f : τ → D → M S (Fl τ τ)} {k : τ → M S (Fl τ' l')} {P : Fl τ' l' → Prop} (I : List D → τ → Prop) {xs : List D} {s0 : τ} (h0 : I [] s0) (h : ∀ pre x post s, xs = pre ++ x :: post → I pre s → Wp (f s x) fun fl => ∃ s', fl = .nx s' ∧ I (pre ++ [x]) s') (hk : ∀ s, I xs s → Wp (k s) P) : Wp (forL f k xs s0) P := by
  suffices g : ∀ (post pre : List D) (s : τ), xs = pre ++ post → I pre s → Wp (forL f k post s) P from g xs [] s0 rfl h0
  intro post
  induction post with
  | nil => intro pre s e hi; rw [List.append_nil] at e; subst e; exact hk s hi
  | cons x post ih =>
    intro pre s e hi
    rw [forL_cons]
    refine Wp.bnd (Wp.mono (h pre x post s e hi) fun fl ⟨s', e', hi'⟩ => ?_)
    subst e'
    exact ih (pre ++ [x]) s' (by rw [e, List.append_assoc]; rfl) hi'
end
theorem Wp.draw {k : Int} {P : D → Prop} (h : 0 < k) (h2 : k < 1073741824) (q : ∀ d : Int, 0 ≤ d → d < k → P (.int d)) : Wp (drawM k) P := fun b => by
  refine ⟨.int (drawB b k h).1, (drawB b k h).2, ?_, ?_⟩
  · unfold drawM
    rw [dif_pos ⟨h, h2⟩]
  · unfold drawB
    split
    · exact q _ (Int.emod_nonneg _ (by omega)) (Int.emod_lt_of_pos _ h)
    · exact q _ (Int.emod_nonneg _ (by omega)) (Int.emod_lt_of_pos _ h)
@[simp] theorem r_draw (k : Int) : m_draw [.box, .int k] = drawM k := (rfl)
/-! ### ranges, places -/
theorem rng_len (lo hi : Int) : (rng lo hi).length = (hi - lo).toNat := by unfold rng; simp
theorem mem_rng {lo hi : Int} {d : D} : d ∈ rng lo hi ↔ ∃ i : Int, d = .int i ∧ lo ≤ i ∧ i < hi := by
  unfold rng
  rw [List.mem_map]
  constructor
  · rintro ⟨k, hk, rfl⟩
    rw [List.mem_range] at hk
    exact ⟨lo + k, rfl, by omega, by omega⟩
  · rintro ⟨i, rfl, h1, h2⟩
    exact ⟨(i - lo).toNat, by rw [List.mem_range]; omega, by congr 1; omega⟩
theorem ixN_nat {n : Nat} {i : Int} (h : 0 ≤ i) (h2 : i < n) : ixN n i = some i.toNat := by unfold ixN; rw [if_pos h, if_pos h2]
theorem atI_ok {α : Type} {xs : List α} {i : Int} (h : 0 ≤ i) (h2 : i < xs.length) : atI xs i = some (xs[i.toNat]'(by omega)) := by
  unfold atI
  rw [ixN_nat h h2]
  exact List.getElem?_eq_getElem (by omega)
theorem atI_map {α β : Type} (f : α → β) (xs : List α) (i : Int) : atI (xs.map f) i = (atI xs i).map f := by
  unfold atI
  rw [List.length_map]
  cases ixN xs.length i with
  | none => rfl
  | some j => simp
theorem cutL_map {α β : Type} (f : α → β) (xs : List α) (i j : Option Int) : cutL (xs.map f) i j = (cutL xs i j).map f := by
  unfold cutL
  rw [List.length_map, List.map_take, List.map_drop]
theorem cutL_to {α : Type} {xs : List α} {k : Int} (h : 0 ≤ k) : cutL xs none (some k) = xs.take k.toNat := by
  unfold cutL
  rw [HT.sIx_none]
  obtain ⟨n, rfl⟩ := Int.eq_ofNat_of_zero_le h
  rw [HT.sIx_nat]
  simp only [List.drop_zero, Nat.sub_zero, Int.toNat_natCast]
  by_cases hn : n ≤ xs.length
  · rw [Nat.min_eq_left hn]
  · rw [Nat.min_eq_right (by omega), List.take_of_length_le (by omega), List.take_of_length_le (by omega)]
theorem cutL_from {α : Type} {xs : List α} {k : Int} (h : 0 ≤ k) : cutL xs (some k) none = xs.drop k.toNat := by
  unfold cutL
  obtain ⟨n, rfl⟩ := Int.eq_ofNat_of_zero_le h
  rw [HT.sIx_nat, HT.sIx_none]
  simp only [Int.toNat_natCast]
  by_cases hn : n ≤ xs.length
  · rw [Nat.min_eq_left hn, List.take_of_length_le (by simp)]
  · rw [Nat.min_eq_right (by omega)]
    simp
    omega
/-! ### plain data: what may be compared -/
inductive Pl : Nat → D → Prop
  | non {n : Nat} : Pl n .non
  | int {n : Nat} (i : Int) : Pl n (.int i)
  | str {n : Nat} {x : Str} (h : PyData.strOk x = true) : Pl n (.str x)
  | tup {n : Nat} {xs : List D} (h : ∀ x ∈ xs, Pl n x) : Pl (n + 1) (.tup xs)
  | lst {n : Nat} {xs : List D} (h : ∀ x ∈ xs, Pl n x) : Pl (n + 1) (.lst xs)
theorem Pl.mono {n m : Nat} {d : D} (h : Pl n d) (hm : n ≤ m) : Pl m d := by
  induction h generalizing m with
  | non => exact .non
  | int i => exact .int i
  | str h => exact .str h
  | tup h ih => cases m with | zero => omega | succ m => exact .tup fun x hx => ih x hx (by omega)
  | lst h ih => cases m with | zero => omega | succ m => exact .lst fun x hx => ih x hx (by omega)
theorem toPys_lay {xs : List D} (h : ∀ x ∈ xs, (toPy x).canLay0 = true) : PyData.canLayAll0 (toPys xs) = true := by
  induction xs with
  | nil => rfl
  | cons x xs ih =>
    simp only [toPys, PyData.canLayAll0, Bool.and_eq_true]
    exact ⟨h x List.mem_cons_self, ih fun y hy => h y (List.mem_cons_of_mem _ hy)⟩
theorem toPys_depth {xs : List D} {n : Nat} (h : ∀ x ∈ xs, (toPy x).depth ≤ n) : PyData.depthAll (toPys xs) ≤ n := by
  induction xs with
  | nil => simp [toPys, PyData.depthAll]
  | cons x xs ih =>
    simp only [toPys, PyData.depthAll]
    have h1 := h x List.mem_cons_self
    have h2 := ih fun y hy => h y (List.mem_cons_of_mem _ hy)
    omega
theorem Pl.lay {n : Nat} {d : D} (h : Pl n d) : (toPy d).canLay0 = true ∧ (toPy d).depth ≤ n := by
  induction h with
  | non => exact ⟨rfl, Nat.zero_le _⟩
  | int i => exact ⟨rfl, Nat.zero_le _⟩
  | str h => exact ⟨by simpa [toPy, PyData.canLay0] using h, Nat.zero_le _⟩
  | tup h ih =>
    refine ⟨by simpa [toPy, PyData.canLay0] using toPys_lay fun x hx => (ih x hx).1, ?_⟩
    simp only [toPy, PyData.depth]
    exact Nat.succ_le_succ (toPys_depth fun x hx => (ih x hx).2)
  | lst h ih =>
    refine ⟨by simpa [toPy, PyData.canLay0] using toPys_lay fun x hx => (ih x hx).1, ?_⟩
    simp only [toPy, PyData.depth]
    exact Nat.succ_le_succ (toPys_depth fun x hx => (ih x hx).2)
theorem Pl.sh {n : Nat} {d : D} (h : Pl n d) (hn : n ≤ 64) : shD d = true := by
  unfold shD SeqAt.shaped
  rw [Bool.and_eq_true]
  exact ⟨h.lay.1, decide_eq_true (Nat.le_trans h.lay.2 hn)⟩
mutual
theorem eqB_of : ∀ {n m : Nat} {x y : D}, Pl n x → Pl m y → (PyData.eqv (toPy x) (toPy y) = true ↔ x = y)
  | _, _, _, _, .non, .non => by simp [toPy, PyData.eqv]
  | _, _, _, _, .non, .int i => by simp [toPy, PyData.eqv]
  | _, _, _, _, .non, .str h => by simp [toPy, PyData.eqv]
  | _, _, _, _, .non, .tup h => by simp [toPy, PyData.eqv]
  | _, _, _, _, .non, .lst h => by simp [toPy, PyData.eqv]
  | _, _, _, _, .int i, .non => by simp [toPy, PyData.eqv]
  | _, _, _, _, .int i, .int j => by simp [toPy, PyData.eqv]
  | _, _, _, _, .int i, .str h => by simp [toPy, PyData.eqv]
  | _, _, _, _, .int i, .tup h => by simp [toPy, PyData.eqv]
  | _, _, _, _, .int i, .lst h => by simp [toPy, PyData.eqv]
  | _, _, _, _, .str g, .non => by simp [toPy, PyData.eqv]
  | _, _, _, _, .str g, .int i => by simp [toPy, PyData.eqv]
  | _, _, _, _, .str g, .str h => by simp [toPy, PyData.eqv]
  | _, _, _, _, .str g, .tup h => by simp [toPy, PyData.eqv]
  | _, _, _, _, .str g, .lst h => by simp [toPy, PyData.eqv]
  | _, _, _, _, .tup g, .non => by simp [toPy, PyData.eqv]
  | _, _, _, _, .tup g, .int i => by simp [toPy, PyData.eqv]
  | _, _, _, _, .tup g, .str h => by simp [toPy, PyData.eqv]
  | _, _, _, _, .tup g, .tup h => by simp only [toPy, PyData.eqv, D.tup.injEq]; exact eqL_of g h
  | _, _, _, _, .tup g, .lst h => by simp [toPy, PyData.eqv]
  | _, _, _, _, .lst g, .non => by simp [toPy, PyData.eqv]
  | _, _, _, _, .lst g, .int i => by simp [toPy, PyData.eqv]
  | _, _, _, _, .lst g, .str h => by simp [toPy, PyData.eqv]
  | _, _, _, _, .lst g, .tup h => by simp [toPy, PyData.eqv]
  | _, _, _, _, .lst g, .lst h => by simp only [toPy, PyData.eqv, D.lst.injEq]; exact eqL_of g h
theorem eqL_of : ∀ {n m : Nat} {xs ys : List D}, (∀ x ∈ xs, Pl n x) → (∀ y ∈ ys, Pl m y) → (PyData.eqvAll (toPys xs) (toPys ys) = true ↔ xs = ys)
  | _, _, [], [], _, _ => by simp [toPys, PyData.eqvAll]
  | _, _, [], _ :: _, _, _ => by simp [toPys, PyData.eqvAll]
  | _, _, _ :: _, [], _, _ => by simp [toPys, PyData.eqvAll]
  | _, _, x :: xs, y :: ys, h, g => by
    simp only [toPys, PyData.eqvAll, Bool.and_eq_true, List.cons.injEq]
    rw [eqB_of (h x List.mem_cons_self) (g y List.mem_cons_self), eqL_of (fun z hz => h z (List.mem_cons_of_mem _ hz)) (fun z hz => g z (List.mem_cons_of_mem _ hz))]
end
theorem eqB_iff {n m : Nat} {x y : D} (h : Pl n x) (g : Pl m y) : eqB x y = true ↔ x = y := eqB_of h g
theorem eq_pl {n m : Nat} {x y : D} (h : Pl n x) (g : Pl m y) (hn : n ≤ 64) (hm : m ≤ 64) : eqD x y = some (.bl (decide (x = y))) := by
  unfold eqD
  rw [if_pos ⟨h.sh hn, g.sh hm⟩]
  congr 2
  rw [Bool.eq_iff_iff, eqB_iff h g, decide_eq_true_eq]
theorem ne_pl {n m : Nat} {x y : D} (h : Pl n x) (g : Pl m y) (hn : n ≤ 64) (hm : m ≤ 64) : neD x y = some (.bl (!decide (x = y))) := by
  unfold neD
  rw [if_pos ⟨h.sh hn, g.sh hm⟩]
  congr 3
  rw [Bool.eq_iff_iff, eqB_iff h g, decide_eq_true_eq]
@[simp] theorem r_eq (i j : Int) : eqD (.int i) (.int j) = some (.bl (decide (i = j))) := by
  rw [eq_pl (.int (n := 0) i) (.int (n := 0) j) (by decide) (by decide)]
  congr 2
  rw [Bool.eq_iff_iff, decide_eq_true_eq, decide_eq_true_eq, D.int.injEq]
@[simp] theorem r_ne (i j : Int) : neD (.int i) (.int j) = some (.bl (!decide (i = j))) := by
  rw [ne_pl (.int (n := 0) i) (.int (n := 0) j) (by decide) (by decide)]
  congr 3
  rw [Bool.eq_iff_iff, decide_eq_true_eq, decide_eq_true_eq, D.int.injEq]
@[simp] theorem r_eqb (i j : Bool) : eqD (.bl i) (.bl j) = some (.bl (decide (i = j))) := by
  have h : ∀ b : Bool, shD (.bl b) = true := fun b => by cases b <;> rfl
  unfold eqD
  rw [if_pos ⟨h i, h j⟩]
  cases i <;> cases j <;> rfl
@[simp] theorem r_neb (i j : Bool) : neD (.bl i) (.bl j) = some (.bl (!decide (i = j))) := by
  have h : ∀ b : Bool, shD (.bl b) = true := fun b => by cases b <;> rfl
  unfold neD
  rw [if_pos ⟨h i, h j⟩]
  cases i <;> cases j <;> rfl
theorem inL_pl {n : Nat} {x : D} {ys : List D} (h : Pl n x) (g : ∀ y ∈ ys, Pl n y) (hn : n < 64) : inD x (.lst ys) = some (.bl (decide (x ∈ ys))) := by
  unfold inD
  simp only
  rw [if_pos ⟨h.sh (by omega), (Pl.lst g).sh (by omega)⟩]
  congr 2
  rw [Bool.eq_iff_iff, List.any_eq_true, decide_eq_true_eq]
  constructor
  · rintro ⟨z, hz, e⟩
    rw [eqB_iff (g z hz) h] at e
    exact e ▸ hz
  · intro hx
    exact ⟨x, hx, (eqB_iff (g x hx) h).mpr rfl⟩
theorem ninL_pl {n : Nat} {x : D} {ys : List D} (h : Pl n x) (g : ∀ y ∈ ys, Pl n y) (hn : n < 64) : ninD x (.lst ys) = some (.bl (!decide (x ∈ ys))) := by
  have := inL_pl h g hn
  unfold inD at this
  simp only at this
  unfold ninD
  simp only
  rw [if_pos ⟨h.sh (by omega), (Pl.lst g).sh (by omega)⟩] at this ⊢
  simp only [Option.some.injEq, D.bl.injEq] at this
  rw [this]
/-- lists of ints as data -/
def tI (ns : List Int) : D := .tup (ns.map .int)
def lI (ns : List Int) : D := .lst (ns.map .int)
theorem pl_ints {n : Nat} (ns : List Int) : ∀ x ∈ ns.map D.int, Pl n x := fun x hx => by
  obtain ⟨i, _, rfl⟩ := List.mem_map.mp hx
  exact .int i
theorem pl_tI {n : Nat} (ns : List Int) : Pl (n + 1) (tI ns) := .tup (pl_ints ns)
theorem int_inj : Function.Injective D.int := fun _ _ h => by cases h; rfl
theorem tI_inj {a b : List Int} : tI a = tI b ↔ a = b := by
  unfold tI
  constructor
  · intro h
    injection h with h
    exact List.map_inj_right (f := D.int) (fun _ _ e => by cases e; rfl) |>.mp h
  · intro h; rw [h]
theorem eq_tI (a b : List Int) : eqD (tI a) (tI b) = some (.bl (decide (a = b))) := by
  rw [eq_pl (pl_tI (n := 0) a) (pl_tI (n := 0) b) (by decide) (by decide)]
  congr 2
  rw [Bool.eq_iff_iff, decide_eq_true_eq, decide_eq_true_eq, tI_inj]
theorem asBls_map (bs : List Bool) : asBls (bs.map D.bl) = some bs := by
  induction bs with
  | nil => rfl
  | cons b bs ih => simp [asBls, ih]
theorem asInts_map (bs : List Int) : asInts (bs.map D.int) = some bs := by
  induction bs with
  | nil => rfl
  | cons b bs ih => simp [asInts, ih]
theorem all_bls (bs : List Bool) : allD [.lst (bs.map D.bl)] = some (.bl (bs.all id)) := by simp [allD, asBls_map]
theorem any_bls (bs : List Bool) : anyD [.lst (bs.map D.bl)] = some (.bl (bs.any id)) := by simp [anyD, asBls_map]
theorem sum_ints (bs : List Int) : sumD [.lst (bs.map D.int)] = some (.int bs.sum) := by simp [sumD, asInts_map]
/-- isinstance of each kind -/
theorem kit_tab : kitB "tuple" "tuple" = some true ∧ kitB "tuple" "list" = some false ∧ kitB "tuple" "bool" = some false ∧ kitB "tuple" "int" = some false ∧ kitB "tuple" "str" = some false ∧
    kitB "list" "tuple" = some false ∧ kitB "list" "list" = some true ∧ kitB "list" "bool" = some false ∧ kitB "list" "int" = some false ∧ kitB "list" "str" = some false ∧
    kitB "bool" "tuple" = some false ∧ kitB "bool" "list" = some false ∧ kitB "bool" "bool" = some true ∧ kitB "bool" "int" = some true ∧ kitB "bool" "str" = some false ∧
    kitB "int" "tuple" = some false ∧ kitB "int" "list" = some false ∧ kitB "int" "bool" = some false ∧ kitB "int" "int" = some true ∧ kitB "int" "str" = some false ∧
    kitB "str" "tuple" = some false ∧ kitB "str" "list" = some false ∧ kitB "str" "bool" = some false ∧ kitB "str" "int" = some false ∧ kitB "str" "str" = some true ∧
    kitB "NoneType" "tuple" = some false ∧ kitB "NoneType" "list" = some false ∧ kitB "NoneType" "bool" = some false ∧ kitB "NoneType" "int" = some false ∧ kitB "NoneType" "str" = some false := by decide +kernel
/-- whether a datum is of the type so named, by data -/
def isTy (T : String) : D → Bool
  | .non => false
  | .bl _ => T == "bool" || T == "int"
  | .int _ => T == "int"
  | .str _ => T == "str"
  | .tup _ => T == "tuple"
  | .lst _ => T == "list"
  | .dct _ => T == "dict"
  | .box => false
def noBox : D → Bool
  | .box => false
  | .dct _ => false
  | _ => true
theorem isi_ty {T : String} {d : D} (h : noBox d = true) (hT : T = "tuple" ∨ T = "list" ∨ T = "bool" ∨ T = "int" ∨ T = "str") : isiD T d = some (.bl (isTy T d)) := by
  obtain ⟨a1, a2, a3, a4, a5, b1, b2, b3, b4, b5, c1, c2, c3, c4, c5, d1, d2, d3, d4, d5, e1, e2, e3, e4, e5, f1, f2, f3, f4, f5⟩ := kit_tab
  rcases hT with rfl | rfl | rfl | rfl | rfl <;> cases d <;> first
    | (cases h; done)
    | (simp only [isiD, tyName, Option.bind_some, a1, a2, a3, a4, a5, b1, b2, b3, b4, b5, c1, c2, c3, c4, c5, d1, d2, d3, d4, d5, e1, e2, e3, e4, e5, f1, f2, f3, f4, f5, Option.map_some]; rfl)
@[simp] theorem i_tuple_NoneType : isiD "tuple" .non = some (.bl false) := isi_ty (d := .non) rfl (.inl rfl)
@[simp] theorem i_tuple_bool (b : Bool) : isiD "tuple" (.bl b) = some (.bl false) := isi_ty (d := (.bl b)) rfl (.inl rfl)
@[simp] theorem i_tuple_int (i : Int) : isiD "tuple" (.int i) = some (.bl false) := isi_ty (d := (.int i)) rfl (.inl rfl)
@[simp] theorem i_tuple_str (x : Str) : isiD "tuple" (.str x) = some (.bl false) := isi_ty (d := (.str x)) rfl (.inl rfl)
@[simp] theorem i_tuple_tuple (xs : List D) : isiD "tuple" (.tup xs) = some (.bl true) := isi_ty (d := (.tup xs)) rfl (.inl rfl)
@[simp] theorem i_tuple_list (xs : List D) : isiD "tuple" (.lst xs) = some (.bl false) := isi_ty (d := (.lst xs)) rfl (.inl rfl)
@[simp] theorem i_list_NoneType : isiD "list" .non = some (.bl false) := isi_ty (d := .non) rfl (.inr (.inl rfl))
@[simp] theorem i_list_bool (b : Bool) : isiD "list" (.bl b) = some (.bl false) := isi_ty (d := (.bl b)) rfl (.inr (.inl rfl))
@[simp] theorem i_list_int (i : Int) : isiD "list" (.int i) = some (.bl false) := isi_ty (d := (.int i)) rfl (.inr (.inl rfl))
@[simp] theorem i_list_str (x : Str) : isiD "list" (.str x) = some (.bl false) := isi_ty (d := (.str x)) rfl (.inr (.inl rfl))
@[simp] theorem i_list_tuple (xs : List D) : isiD "list" (.tup xs) = some (.bl false) := isi_ty (d := (.tup xs)) rfl (.inr (.inl rfl))
@[simp] theorem i_list_list (xs : List D) : isiD "list" (.lst xs) = some (.bl true) := isi_ty (d := (.lst xs)) rfl (.inr (.inl rfl))
@[simp] theorem i_bool_NoneType : isiD "bool" .non = some (.bl false) := isi_ty (d := .non) rfl (.inr (.inr (.inl rfl)))
@[simp] theorem i_bool_bool (b : Bool) : isiD "bool" (.bl b) = some (.bl true) := isi_ty (d := (.bl b)) rfl (.inr (.inr (.inl rfl)))
@[simp] theorem i_bool_int (i : Int) : isiD "bool" (.int i) = some (.bl false) := isi_ty (d := (.int i)) rfl (.inr (.inr (.inl rfl)))
@[simp] theorem i_bool_str (x : Str) : isiD "bool" (.str x) = some (.bl false) := isi_ty (d := (.str x)) rfl (.inr (.inr (.inl rfl)))
@[simp] theorem i_bool_tuple (xs : List D) : isiD "bool" (.tup xs) = some (.bl false) := isi_ty (d := (.tup xs)) rfl (.inr (.inr (.inl rfl)))
@[simp] theorem i_bool_list (xs : List D) : isiD "bool" (.lst xs) = some (.bl false) := isi_ty (d := (.lst xs)) rfl (.inr (.inr (.inl rfl)))
@[simp] theorem i_int_NoneType : isiD "int" .non = some (.bl false) := isi_ty (d := .non) rfl (.inr (.inr (.inr (.inl rfl))))
@[simp] theorem i_int_bool (b : Bool) : isiD "int" (.bl b) = some (.bl true) := isi_ty (d := (.bl b)) rfl (.inr (.inr (.inr (.inl rfl))))
@[simp] theorem i_int_int (i : Int) : isiD "int" (.int i) = some (.bl true) := isi_ty (d := (.int i)) rfl (.inr (.inr (.inr (.inl rfl))))
@[simp] theorem i_int_str (x : Str) : isiD "int" (.str x) = some (.bl false) := isi_ty (d := (.str x)) rfl (.inr (.inr (.inr (.inl rfl))))
@[simp] theorem i_int_tuple (xs : List D) : isiD "int" (.tup xs) = some (.bl false) := isi_ty (d := (.tup xs)) rfl (.inr (.inr (.inr (.inl rfl))))
@[simp] theorem i_int_list (xs : List D) : isiD "int" (.lst xs) = some (.bl false) := isi_ty (d := (.lst xs)) rfl (.inr (.inr (.inr (.inl rfl))))
@[simp] theorem i_str_NoneType : isiD "str" .non = some (.bl false) := isi_ty (d := .non) rfl (.inr (.inr (.inr (.inr rfl))))
@[simp] theorem i_str_bool (b : Bool) : isiD "str" (.bl b) = some (.bl false) := isi_ty (d := (.bl b)) rfl (.inr (.inr (.inr (.inr rfl))))
@[simp] theorem i_str_int (i : Int) : isiD "str" (.int i) = some (.bl false) := isi_ty (d := (.int i)) rfl (.inr (.inr (.inr (.inr rfl))))
@[simp] theorem i_str_str (x : Str) : isiD "str" (.str x) = some (.bl true) := isi_ty (d := (.str x)) rfl (.inr (.inr (.inr (.inr rfl))))
@[simp] theorem i_str_tuple (xs : List D) : isiD "str" (.tup xs) = some (.bl false) := isi_ty (d := (.tup xs)) rfl (.inr (.inr (.inr (.inr rfl))))
@[simp] theorem i_str_list (xs : List D) : isiD "str" (.lst xs) = some (.bl false) := isi_ty (d := (.lst xs)) rfl (.inr (.inr (.inr (.inr rfl))))
end Sn

namespace Sn
open PySem PySem.Spec PyProof.Rows L2
section
variable {S : Type} {α β : Type} {τ l τ' l' : Type}
theorem Wp.op2 {g : D → D → Option D} {ma mb : M S D} {P : D → Prop} (h : Wp ma fun x => Wp mb fun y => ∃ d, g x y = some d ∧ P d) : Wp (op2M g ma mb) P :=
  Wp.bnd (h.mono fun _ h => Wp.bnd (h.mono fun _ ⟨_, e, p⟩ => by rw [e]; exact Wp.ret p))
theorem Wp.rng1 {ma : M S D} {P : List D → Prop} (h : Wp ma fun d => ∃ n : Int, d = .int n ∧ (-(2 ^ 62) ≤ n ∧ n < 2 ^ 62) ∧ P (rng 0 n)) : Wp (rng1M ma) P :=
  Wp.bnd (h.mono fun _ ⟨n, e, b, p⟩ => by subst e; exact Wp.eq (rng1_ok b.1 b.2) (Wp.ret p))
theorem Wp.compM {mi : M S (List D)} {f : D → M S (Option D)} {P : D → Prop} (h : Wp mi fun xs => xs.length ≤ 16777216 ∧ Wp (compL f xs) fun ys => P (.lst ys)) : Wp (compM mi f) P :=
  Wp.bnd (h.mono fun xs ⟨hl, h⟩ => by rw [if_pos (by rw [sizeLine_eq]; exact hl)]; exact Wp.bnd (h.mono fun _ p => Wp.ret p))
theorem Wp.elt {m : M S D} {P : Option D → Prop} (h : Wp m fun y => P (some y)) : Wp (eltM (Sn.ret true) m) P :=
  Wp.eq (r_eltT m) (Wp.bnd (h.mono fun _ p => Wp.ret p))
theorem Wp.own {m : M S D} {k : D → M S (Fl τ l)} {P : Fl τ l → Prop} (h : Wp m fun d => isMut d = true ∧ Wp (k d) P) : Wp (ownM m k) P :=
  Wp.bnd (h.mono fun _ ⟨e, h⟩ => by rw [if_pos e]; exact h)
theorem Wp.ite {n : M S Bool} {mA mB : M S (Fl τ' l)} {k : τ' → M S (Fl τ l)} {P : Fl τ l → Prop} (h : Wp n fun t => Wp (if t = true then mA else mB) fun f => Wp (seqF f k) P) : Wp (iteF n mA mB k) P :=
  Wp.bnd (h.mono fun _ h => Wp.bnd h)
theorem Wp.iteN {n : M S Bool} {mA mB : M S (Fl τ' l)} {k : τ' → M S (Fl τ l)} {P : Fl τ l → Prop} (h : Wp n fun t => Wp (if t = true then mA else mB) fun f => ∃ s, f = .nx s ∧ Wp (k s) P) : Wp (iteF n mA mB k) P :=
  Wp.ite (h.mono fun _ h => h.mono fun _ ⟨_, e, h⟩ => by subst e; exact h)
theorem Wp.cmp {g : D → D → Option D} {ma mb : M S D} {P : Bool → Prop} (h : Wp ma fun x => Wp mb fun y => ∃ b, g x y = some (.bl b) ∧ P b) : Wp (cmpT g ma mb) P :=
  Wp.bnd (h.mono fun _ h => Wp.bnd (h.mono fun _ ⟨_, e, p⟩ => by rw [e]; exact Wp.ret p))
theorem Wp.bc {g : List D → Option D} {mr : M S (List D)} {P : D → Prop} (h : Wp mr fun xs => ∃ d, g xs = some d ∧ P d) : Wp (bcM g mr) P :=
  Wp.bnd (h.mono fun _ ⟨_, e, p⟩ => by rw [e]; exact Wp.ret p)
theorem Wp.cons {m : M S D} {mr : M S (List D)} {P : List D → Prop} (h : Wp m fun x => Wp mr fun xs => P (x :: xs)) : Wp (consM m mr) P :=
  Wp.bnd (h.mono fun _ h => Wp.bnd (h.mono fun _ p => Wp.ret p))
theorem Wp.retF {m : M S D} {P : Fl τ l → Prop} (h : Wp m fun d => P (.rt d)) : Wp (retF m) P :=
  Wp.bnd (h.mono fun _ p => Wp.ret p)
theorem Wp.setM {d : D} {me mk : M S D} {k : D → M S (Fl τ l)} {P : Fl τ l → Prop} (h : Wp me fun y => Wp mk fun j => ∃ d', setD d j y = some d' ∧ Wp (k d') P) : Wp (setM d me mk k) P :=
  Wp.bnd (h.mono fun _ h => Wp.bnd (h.mono fun _ ⟨_, e, p⟩ => Wp.bnd (by rw [e]; exact Wp.ret p)))
theorem Wp.appM {d : D} {me : M S D} {k : D → M S (Fl τ l)} {P : Fl τ l → Prop} (h : Wp me fun y => ∃ d', appD d y = some d' ∧ Wp (k d') P) : Wp (appM d me k) P :=
  Wp.bnd (h.mono fun _ ⟨_, e, p⟩ => Wp.bnd (by rw [e]; exact Wp.ret p))
theorem forL_on {f : τ → D → M S (Fl τ τ)} {k : τ → M S (Fl τ' l')} {s0 s1 : τ} {x : D} {xs : List D} (h : f s0 x = ret (.nx s1)) : forL f k (x :: xs) s0 = forL f k xs s1 := by
  rw [forL_cons, h]; rfl
theorem forL_rt {f : τ → D → M S (Fl τ τ)} {k : τ → M S (Fl τ' l')} {s0 : τ} {x d : D} {xs : List D} (h : f s0 x = ret (.rt d)) : forL f k (x :: xs) s0 = ret (.rt d) := by
  rw [forL_cons, h]; rfl
theorem forL_bk {f : τ → D → M S (Fl τ τ)} {k : τ → M S (Fl τ' l')} {s0 s1 : τ} {x : D} {xs : List D} (h : f s0 x = ret (.bk s1)) : forL f k (x :: xs) s0 = k s1 := by
  rw [forL_cons, h]; rfl
theorem forL_ct {f : τ → D → M S (Fl τ τ)} {k : τ → M S (Fl τ' l')} {s0 s1 : τ} {x : D} {xs : List D} (h : f s0 x = ret (.ct s1)) : forL f k (x :: xs) s0 = forL f k xs s1 := by
  rw [forL_cons, h]; rfl
end
/-- a call of draw -/
theorem Wp.drawc {k : Int} {P : D → Prop} (h : 0 < k) (h2 : k < 1073741824) (q : ∀ d : Int, 0 ≤ d → d < k → P (.int d)) : Wp (Sn.bnd (consM (Sn.ret .box) (consM (Sn.ret (.int k)) (Sn.ret []))) m_draw) P :=
  Wp.draw h h2 q
@[simp] theorem r_lst4 (a b c d : D) : lstD [a, b, c, d] = some (.lst [a, b, c, d]) := lstD_le (by simp)
@[simp] theorem r_lst5 (a b c d e : D) : lstD [a, b, c, d, e] = some (.lst [a, b, c, d, e]) := lstD_le (by simp)
@[simp] theorem r_tup6 (a b c d e f : D) : tupD [a, b, c, d, e, f] = some (.tup [a, b, c, d, e, f]) := tupD_le (by simp)
@[simp] theorem r_lst6 (a b c d e f : D) : lstD [a, b, c, d, e, f] = some (.lst [a, b, c, d, e, f]) := lstD_le (by simp)
@[simp] theorem r_tup7 (a b c d e f g : D) : tupD [a, b, c, d, e, f, g] = some (.tup [a, b, c, d, e, f, g]) := tupD_le (by simp)
@[simp] theorem r_lst7 (a b c d e f g : D) : lstD [a, b, c, d, e, f, g] = some (.lst [a, b, c, d, e, f, g]) := lstD_le (by simp)
@[simp] theorem r_tup8 (a b c d e f g h : D) : tupD [a, b, c, d, e, f, g, h] = some (.tup [a, b, c, d, e, f, g, h]) := tupD_le (by simp)
@[simp] theorem r_lst8 (a b c d e f g h : D) : lstD [a, b, c, d, e, f, g, h] = some (.lst [a, b, c, d, e, f, g, h]) := lstD_le (by simp)
@[simp] theorem r_tup9 (a b c d e f g h i : D) : tupD [a, b, c, d, e, f, g, h, i] = some (.tup [a, b, c, d, e, f, g, h, i]) := tupD_le (by simp)
@[simp] theorem r_lst9 (a b c d e f g h i : D) : lstD [a, b, c, d, e, f, g, h, i] = some (.lst [a, b, c, d, e, f, g, h, i]) := lstD_le (by simp)
@[simp] theorem r_tup10 (a b c d e f g h i j : D) : tupD [a, b, c, d, e, f, g, h, i, j] = some (.tup [a, b, c, d, e, f, g, h, i, j]) := tupD_le (by simp)
@[simp] theorem r_lst10 (a b c d e f g h i j : D) : lstD [a, b, c, d, e, f, g, h, i, j] = some (.lst [a, b, c, d, e, f, g, h, i, j]) := lstD_le (by simp)
@[simp] theorem r_tup11 (a b c d e f g h i j k : D) : tupD [a, b, c, d, e, f, g, h, i, j, k] = some (.tup [a, b, c, d, e, f, g, h, i, j, k]) := tupD_le (by simp)
@[simp] theorem r_lst11 (a b c d e f g h i j k : D) : lstD [a, b, c, d, e, f, g, h, i, j, k] = some (.lst [a, b, c, d, e, f, g, h, i, j, k]) := lstD_le (by simp)
@[simp] theorem r_tup12 (a b c d e f g h i j k l : D) : tupD [a, b, c, d, e, f, g, h, i, j, k, l] = some (.tup [a, b, c, d, e, f, g, h, i, j, k, l]) := tupD_le (by simp)
@[simp] theorem r_lst12 (a b c d e f g h i j k l : D) : lstD [a, b, c, d, e, f, g, h, i, j, k, l] = some (.lst [a, b, c, d, e, f, g, h, i, j, k, l]) := lstD_le (by simp)
theorem setD_ok {xs : List D} {i : Int} {y : D} (h : 0 ≤ i) (h2 : i < xs.length) : setD (.lst xs) (.int i) y = some (.lst (xs.set i.toNat y)) := by
  unfold setD
  simp only [ixN_nat h h2, Option.map_some]
theorem modv {k s : Int} : k - k / s * s = k % s := by
  have := Int.emod_add_mul_ediv k s
  rw [Int.mul_comm] at this
  omega
end Sn

namespace Sn
open PySem PySem.Spec PyProof.Rows L2
/-! ### plain library, second part: ints, lists of ints, searches, loops -/
def rI (lo hi : Int) : List Int := (List.range (hi - lo).toNat).map fun k : Nat => lo + (k : Int)
theorem rng_rI (lo hi : Int) : rng lo hi = (rI lo hi).map .int := by unfold rng rI; rw [List.map_map]; rfl
theorem mem_rI {lo hi i : Int} : i ∈ rI lo hi ↔ lo ≤ i ∧ i < hi := by
  unfold rI
  rw [List.mem_map]
  constructor
  · rintro ⟨k, hk, rfl⟩
    rw [List.mem_range] at hk
    omega
  · rintro ⟨h1, h2⟩
    exact ⟨(i - lo).toNat, by rw [List.mem_range]; omega, by omega⟩
theorem rI_len (lo hi : Int) : (rI lo hi).length = (hi - lo).toNat := by unfold rI; simp
theorem rI_lt (a b : Int) : (rI a b).Pairwise (· < ·) := by
  unfold rI
  rw [List.pairwise_map]
  exact List.pairwise_lt_range.imp fun h => by omega
/-- a range from nought, by naturals -/
theorem rng_nat (n : Nat) : rng 0 (n : Int) = (List.range n).map fun k : Nat => D.int k := by
  unfold rng
  rw [show ((n : Int) - 0).toNat = n by omega]
  exact List.map_congr_left fun k _ => by rw [Int.zero_add]
theorem rng_nat1 (n : Nat) : rng 1 ((n : Int) + 1) = (List.range n).map fun k : Nat => D.int ((k + 1 : Nat) : Int) := by
  unfold rng
  rw [show ((n : Int) + 1 - 1).toNat = n by omega]
  exact List.map_congr_left fun k _ => by congr 1; omega
theorem getD_in {α : Type} {l : List α} {k : Nat} {d : α} (h : k < l.length) : l.getD k d = l[k] := by simp [List.getD, h]
theorem len_tI (w : List Int) : lenD [tI w] = some (.int w.length) := by simp [tI, lenD]
theorem len_lI (w : List Int) : lenD [lI w] = some (.int w.length) := by simp [lI, lenD]
theorem ix_tI {w : List Int} {i : Int} (h : 0 ≤ i) (h2 : i < w.length) : ixD (tI w) (.int i) = some (.int (w[i.toNat]'(by omega))) := by
  unfold tI
  rw [r_ixT, atI_map, atI_ok h h2]
  rfl
theorem ix_hd {d : D} {r : List D} : atI (d :: r) 0 = some d := by
  rw [atI_ok (by decide) (by rw [List.length_cons]; omega)]
  rfl
/-- the first of a list, of those that go up -/
theorem hd_filter {c : Nat → Bool} : ∀ {L : List Nat} {t : Nat}, L.Pairwise (· < ·) → t ∈ L → c t = true → (∀ s ∈ L, s < t → c s = false) → ∃ r, L.filter c = t :: r
  | [], _, _, h, _, _ => by cases h
  | a :: L, t, hp, h, hc, hs => by
    by_cases e : a = t
    · subst e
      rw [List.filter_cons, if_pos hc]
      exact ⟨_, rfl⟩
    · have hm : t ∈ L := (List.mem_cons.mp h).resolve_left fun h => e h.symm
      rw [List.filter_cons, if_neg (by rw [hs a List.mem_cons_self ((List.pairwise_cons.mp hp).1 t hm)]; exact Bool.false_ne_true)]
      exact hd_filter (List.pairwise_cons.mp hp).2 hm hc fun s hs' => hs s (List.mem_cons_of_mem _ hs')
/-- a search in a list of data, with the kinds of what is searched told -/
theorem forL_findG {S : Type} {α : Type} {τ' l' : Type} {f : Unit → D → M S (Fl Unit Unit)} {k : Unit → M S (Fl τ' l')} (g : α → D) (p : α → Bool) (r : α → D) : ∀ {xs : List α}, (∀ x ∈ xs, f () (g x) = if p x = true then ret (.rt (r x)) else ret (.nx ())) → forL f k (xs.map g) () = match xs.find? p with | some x => ret (.rt (r x)) | none => k ()
  | [], _ => rfl
  | x :: xs, h => by
    rw [List.map_cons, forL_cons, h x List.mem_cons_self, List.find?_cons]
    cases hp : p x
    · simp only [Bool.false_eq_true, if_false, r_bnd]
      exact forL_findG g p r fun y hy => h y (List.mem_cons_of_mem _ hy)
    · simp
theorem whileL_on {S τ τ' l' : Type} {c : τ → M S Bool} {f : τ → M S (Fl τ τ)} {k : τ → M S (Fl τ' l')} {n : Nat} {s s' : τ} (hc : c s = ret true) (hf : f s = ret (.nx s')) : whileL c f k (n + 1) s = whileL c f k n s' := by
  show bnd (c s) _ = _
  rw [hc, r_bnd, if_pos rfl, hf]
  rfl
theorem whileL_off {S τ τ' l' : Type} {c : τ → M S Bool} {f : τ → M S (Fl τ τ)} {k : τ → M S (Fl τ' l')} {n : Nat} {s : τ} (hc : c s = ret false) : whileL c f k (n + 1) s = k s := by
  show bnd (c s) _ = _
  rw [hc, r_bnd]
  rfl
theorem fuel_eq : fuel = 1000000000 := rfl
/-! ### what comes again -/
def PerI {α : Type} (f : Nat → α) (p : Nat) : Prop := ∀ t, f (t + p) = f t
theorem PerI.mul {α : Type} {f : Nat → α} {p : Nat} (h : PerI f p) : ∀ m t, f (t + m * p) = f t
  | 0, t => by simp
  | m + 1, t => by rw [Nat.add_mul, Nat.one_mul, ← Nat.add_assoc, h, h.mul m t]
theorem PerI.dvd {α : Type} {f : Nat → α} {p q : Nat} (h : PerI f p) (d : p ∣ q) : PerI f q := fun t => by
  obtain ⟨m, rfl⟩ := d
  rw [Nat.mul_comm]; exact h.mul m t
theorem PerI.mod {α : Type} {f : Nat → α} {p : Nat} (h : PerI f p) (t : Nat) : f (t % p) = f t := by
  have := h.mul (t / p) (t % p)
  rw [Nat.mul_comm, Nat.mod_add_div] at this
  exact this.symm
theorem PerI.gcd {α : Type} {f : Nat → α} (a b : Nat) (ha : PerI f a) (hb : PerI f b) : PerI f (Nat.gcd a b) := by
  induction a, b using Nat.gcd.induction with
  | H0 n => rw [Nat.gcd_zero_left]; exact hb
  | H1 m n hm ih =>
    rw [Nat.gcd_rec]
    refine ih (fun t => ?_) ha
    have e := ha.mul (n / m) (t + n % m)
    have d := Nat.mod_add_div n m
    rw [show t + n % m + n / m * m = t + n by rw [Nat.mul_comm (n / m)]; omega, hb] at e
    exact e.symm
end Sn

namespace Sn
open PySem PySem.Spec PyProof.Rows L2
/-! ### plain library, third part -/
section
variable {S : Type} {α β : Type}
theorem compLL_cons {f : α → M S (List β)} (x : α) (xs : List α) : compLL f (x :: xs) = bnd (f x) fun l => bnd (compLL f xs) fun ys => ret (l ++ ys) := rfl
theorem compLL_all {f : α → M S (List β)} (g : α → List β) : ∀ {xs : List α}, (∀ x ∈ xs, f x = ret (g x)) → compLL f xs = ret (xs.flatMap g)
  | [], _ => rfl
  | x :: xs, h => by
    rw [compLL_cons, h x List.mem_cons_self, r_bnd, compLL_all g fun y hy => h y (List.mem_cons_of_mem _ hy), r_bnd, List.flatMap_cons]
theorem compLL_map {γ : Type} {f : α → M S (List β)} (g : γ → α) : ∀ xs : List γ, compLL f (xs.map g) = compLL (fun c => f (g c)) xs
  | [] => rfl
  | x :: xs => by rw [List.map_cons, compLL_cons, compLL_cons, compLL_map g xs]
theorem comp2_ok {xs : List D} {f : D → M S (List D)} {ys : List D} (h : compLL f xs = ret ys) (hl : ys.length ≤ 16777216) : comp2M (ret xs) f = ret (.lst ys) := by
  unfold comp2M
  rw [r_bnd, h, r_bnd, if_pos (by rw [sizeLine_eq]; exact hl)]
theorem elt2_ok {m : M S (List D)} {f : D → M S (Option D)} : elt2M (ret true) m f = bnd m fun xs => compL f xs := rfl
end
theorem extT_ok {S τ l : Type} {xs ys : List D} {k : D → M S (Fl τ l)} (h : xs.length + ys.length ≤ 16777216) : extM (.lst xs) (ret (.tup ys)) k = k (.lst (xs ++ ys)) := by
  show bnd (lift (if xs.length + ys.length ≤ sizeLine then some (D.lst (xs ++ ys)) else none)) k = _
  rw [if_pos (by rw [sizeLine_eq]; exact h)]; rfl
end Sn

namespace Sn
open PySem PySem.Spec PyProof.Rows L2
/-! ### plain dicts -/
theorem dget_none {ds : List (D × D)} {k : Key} : dget ds k = none ↔ (ds.any fun p => decide (kq p.1 = some k)) = false := by
  unfold dget
  rw [Option.map_eq_none_iff, List.find?_eq_none, List.any_eq_false]
theorem keys_dput {ds : List (D × D)} {k : Key} {v : D} : (dput ds k v).map (·.1) = if (dget ds k).isSome = true then ds.map (·.1) else ds.map (·.1) ++ [keyD k] := by
  unfold dput
  cases e : dget ds k with
  | none =>
    rw [dget_none.mp e, if_neg Bool.false_ne_true, if_neg (by simp), List.map_append]
    rfl
  | some w =>
    have h : (ds.any fun p => decide (kq p.1 = some k)) = true := by
      cases q : (ds.any fun p => decide (kq p.1 = some k)) with
      | true => rfl
      | false => rw [dget_none.mpr q] at e; cases e
    rw [h, if_pos rfl, if_pos (by simp), List.map_map]
    apply List.map_congr_left
    intro p _
    show (if kq p.1 = some k then (p.1, v) else p).1 = p.1
    split <;> rfl
theorem dget_app {ds : List (D × D)} {k j : Key} {v : D} : dget (ds ++ [(keyD k, v)]) j = (dget ds j).or (if k = j then some v else none) := by
  unfold dget
  rw [List.find?_append]
  cases (ds.find? fun p => decide (kq p.1 = some j)) with
  | some p => rfl
  | none =>
    rw [List.find?_cons, kq_same]
    by_cases e : k = j
    · rw [decide_eq_true e, if_pos e]; rfl
    · rw [decide_eq_false e, if_neg e]; rfl
theorem dget_repl {k j : Key} {v : D} : ∀ {ds : List (D × D)}, dget (ds.map fun p => if kq p.1 = some k then (p.1, v) else p) j = if k = j then (dget ds j).map (fun _ => v) else dget ds j
  | [] => by simp [dget]
  | p :: ds => by
    have ih := dget_repl (k := k) (j := j) (v := v) (ds := ds)
    unfold dget at ih ⊢
    rw [List.map_cons, List.find?_cons, List.find?_cons]
    by_cases e : kq p.1 = some k
    · rw [if_pos e]
      by_cases e2 : k = j
      · subst e2
        rw [decide_eq_true e, if_pos rfl]
        rfl
      · have e3 : ¬ kq p.1 = some j := fun q => e2 (Option.some.inj (e.symm.trans q))
        rw [decide_eq_false e3, if_neg e2]
        rw [if_neg e2] at ih
        exact ih
    · rw [if_neg e]
      by_cases e2 : kq p.1 = some j
      · rw [decide_eq_true e2]
        have : ¬ k = j := fun q => e (q ▸ e2)
        rw [if_neg this]
      · rw [decide_eq_false e2]
        exact ih
theorem dget_dput {ds : List (D × D)} {k j : Key} {v : D} : dget (dput ds k v) j = if k = j then some v else dget ds j := by
  unfold dput
  by_cases h : (ds.any fun p => decide (kq p.1 = some k)) = true
  · rw [if_pos h, dget_repl]
    by_cases e : k = j
    · subst e
      rw [if_pos rfl, if_pos rfl]
      cases q : dget ds k with
      | none => rw [dget_none] at q; rw [q] at h; cases h
      | some w => rfl
    · rw [if_neg e, if_neg e]
  · rw [if_neg h, dget_app]
    have hn : dget ds k = none := dget_none.mpr (by simpa using h)
    by_cases e : k = j
    · subst e
      rw [hn, if_pos rfl]; rfl
    · rw [if_neg e, if_neg e]
      cases dget ds j <;> rfl
theorem sortI_ext {a b : List Int} (ha : a.Nodup) (hb : b.Nodup) (h : ∀ x, x ∈ a ↔ x ∈ b) : sortI a = sortI b :=
  sortI_of ((sortI_perm a).trans ((List.perm_ext_iff_of_nodup ha hb).mpr h)) (sortI_le a)
theorem mem_sortI {a : List Int} {x : Int} : x ∈ sortI a ↔ x ∈ a := (sortI_perm a).mem_iff
end Sn

namespace Sn
open PySem PySem.Spec PyProof.Rows L2
/-! ### stepping mirrors by simp: `sym` -/
section
variable {S : Type} {α β γ : Type} {τ l τ' l' : Type}
theorem compL_congr {f g : α → M S (Option β)} {xs ys : List α} (h : xs = ys) (hf : ∀ x ∈ ys, f x = g x) : compL f xs = compL g ys := by
  subst h
  induction xs with
  | nil => rfl
  | cons x xs ih => rw [compL_cons, compL_cons, hf x List.mem_cons_self, ih fun y hy => hf y (List.mem_cons_of_mem _ hy)]
/-- a comprehension, a loop, each turn told that its item is one of the list (a plain `if`, so that simp knows it in the turn) -/
def InP (xs : List α) (x : α) : Prop := x ∈ xs
theorem InP.mem {xs : List α} {x : α} (h : InP xs x) : x ∈ xs := h
noncomputable instance (xs : List α) (x : α) : Decidable (InP xs x) := Classical.propDecidable _
def compG (f : α → M S (Option β)) (xs : List α) : M S (List β) := compL f xs
theorem compG_of (f : α → M S (Option β)) (xs : List α) : compG (fun x => if InP xs x then f x else stuck) xs = compL f xs := compL_congr rfl fun x hx => if_pos hx
theorem compG_ret (g : α → β) (xs : List α) : compG (S := S) (fun x => if InP xs x then ret (some (g x)) else stuck) xs = ret (xs.map g) := (compG_of _ xs).trans (compL_all g fun _ _ => rfl)
theorem compG_none (xs : List α) : compG (S := S) (β := β) (fun x => if InP xs x then ret none else stuck) xs = ret [] := by
  refine (compG_of _ xs).trans ?_
  induction xs with
  | nil => rfl
  | cons x xs ih => rw [compL_cons, ih]; rfl
theorem compG_retIf (p : α → Bool) (g : α → β) (xs : List α) : compG (S := S) (fun x => if InP xs x then ret (if p x = true then some (g x) else none) else stuck) xs = ret ((xs.filter p).map g) := (compG_of _ xs).trans (compL_if p g fun x _ => by split <;> rfl)
theorem compL_filt (p : α → Bool) (m : α → M S (Option β)) (xs : List α) : compL (S := S) (fun x => if p x = true then m x else ret none) xs = compL m (xs.filter p) := by
  induction xs with
  | nil => rfl
  | cons x xs ih =>
    rw [compL_cons, List.filter_cons]
    cases p x
    · simp only [Bool.false_eq_true, if_false, r_bnd, ih]
      exact bnd_id _
    · simp only [if_true]
      rw [compL_cons, ih]
theorem compG_filt (p : α → Bool) (m : α → M S (Option β)) (xs : List α) : compG (S := S) (fun x => if InP xs x then (if p x = true then m x else ret none) else stuck) xs = compG (fun x => if InP (xs.filter p) x then m x else stuck) (xs.filter p) := by
  rw [compG_of, compG_of, compL_filt]
theorem eltM_ret (b : Bool) (m : M S D) : eltM (ret b) m = if b = true then bnd m fun y => ret (some y) else ret none := (rfl)
/-- a loop over items told by others -/
def forE (f : τ → α → M S (Fl τ τ)) (k : τ → M S (Fl τ' l')) : List α → τ → M S (Fl τ' l')
  | [], s => k s
  | x :: xs, s => bnd (f s x) fun fl => match fl with
    | .nx s' => forE f k xs s'
    | .ct s' => forE f k xs s'
    | .bk s' => k s'
    | .rt d => Sn.ret (.rt d)
theorem forL_E (e : α → D) (f : τ → D → M S (Fl τ τ)) (k : τ → M S (Fl τ' l')) : ∀ (xs : List α) (s : τ), forL f k (xs.map e) s = forE (fun s x => f s (e x)) k xs s
  | [], _ => rfl
  | x :: xs, s => by
    rw [List.map_cons, forL_cons]
    show _ = bnd _ _
    congr 1
    funext fl
    cases fl with
    | nx s => exact forL_E e f k xs s
    | ct s => exact forL_E e f k xs s
    | bk s => rfl
    | rt d => rfl
theorem forE_congr {f g : τ → α → M S (Fl τ τ)} {k k' : τ → M S (Fl τ' l')} {xs ys : List α} {s s' : τ} (h : xs = ys) (hf : ∀ s, ∀ x ∈ ys, f s x = g s x) (hk : ∀ s, k s = k' s) (hs : s = s') : forE f k xs s = forE g k' ys s' := by
  subst h hs
  induction xs generalizing s with
  | nil => exact hk s
  | cons x xs ih =>
    show bnd _ _ = bnd _ _
    rw [hf s x List.mem_cons_self]
    congr 1
    funext fl
    cases fl with
    | nx s => exact ih fun s y hy => hf s y (List.mem_cons_of_mem _ hy)
    | ct s => exact ih fun s y hy => hf s y (List.mem_cons_of_mem _ hy)
    | bk s => exact hk s
    | rt d => rfl
def forG (f : τ → α → M S (Fl τ τ)) (k : τ → M S (Fl τ' l')) (xs : List α) (s : τ) : M S (Fl τ' l') := forE f k xs s
theorem forG_E (f : τ → α → M S (Fl τ τ)) (k : τ → M S (Fl τ' l')) (xs : List α) (s : τ) : forG (fun s x => if InP xs x then f s x else stuck) k xs s = forE f k xs s := forE_congr rfl (fun _ x hx => if_pos hx) (fun _ => rfl) rfl
theorem forL_G (e : α → D) (f : τ → D → M S (Fl τ τ)) (k : τ → M S (Fl τ' l')) (xs : List α) (s : τ) : forL f k (xs.map e) s = forG (fun s x => if InP xs x then f s (e x) else stuck) k xs s := by rw [forG_E, forL_E]
theorem forG_unit (k : Unit → M S (Fl τ' l')) (xs : List α) : forG (fun _ x => if InP xs x then ret (.nx ()) else stuck) k xs () = k () := by
  rw [forG_E]
  induction xs with
  | nil => rfl
  | cons x xs ih => exact ih
theorem forE_find (p : α → Bool) (r : α → D) (k : Unit → M S (Fl τ' l')) (xs : List α) : forE (fun _ x => if p x = true then ret (.rt (r x)) else ret (.nx ())) k xs () = match xs.find? p with | some x => ret (.rt (r x)) | none => k () := by
  induction xs with
  | nil => rfl
  | cons x xs ih =>
    show bnd (if p x = true then ret (Fl.rt (r x)) else ret (Fl.nx ())) _ = _
    rw [List.find?_cons]
    cases p x
    · exact ih
    · rfl
theorem forG_find (p : α → Bool) (r : α → D) (k : Unit → M S (Fl τ' l')) (xs : List α) : forG (fun _ x => if InP xs x then (if p x = true then ret (.rt (r x)) else ret (.nx ())) else stuck) k xs () = match xs.find? p with | some x => ret (.rt (r x)) | none => k () := by rw [forG_E, forE_find]
/-- a loop whose state is told by a plain one -/
theorem forE_fold {σ : Type} (e : σ → τ) (g : σ → α → σ) (I : σ → Prop) {f : τ → α → M S (Fl τ τ)} {k : τ → M S (Fl τ' l')} : ∀ {xs : List α} {s : σ}, I s → (∀ s, I s → ∀ x ∈ xs, f (e s) x = ret (.nx (e (g s x))) ∧ I (g s x)) → forE f k xs (e s) = k (e (xs.foldl g s))
  | [], _, _, _ => rfl
  | x :: xs, s, hi, h => by
    obtain ⟨h1, h2⟩ := h s hi x List.mem_cons_self
    show bnd _ _ = _
    rw [h1, r_bnd, List.foldl_cons]
    exact forE_fold e g I h2 fun s hs y hy => h s hs y (List.mem_cons_of_mem _ hy)
theorem iteF_ret (b : Bool) (mA mB : M S (Fl τ' l)) (k : τ' → M S (Fl τ l)) : iteF (ret b) mA mB k = if b = true then bnd mA (fun f => seqF f k) else bnd mB (fun f => seqF f k) := r_iteF b mA mB k
theorem bcM_bnd (g : List D → Option D) (d : D) : bcM (S := S) g (ret [d]) = lift (g [d]) := (rfl)
theorem chainM_ret (g g' : D → D → Option D) (a b c : D) : chainM (S := S) g g' (ret a) (ret b) (ret c) = bnd (bnd (lift (g a b)) asB) fun t => if t = true then lift (g' b c) else ret (.bl false) := (rfl)
theorem chainT_ret (g g' : D → D → Option D) (a b c : D) : chainT (S := S) g g' (ret a) (ret b) (ret c) = bnd (bnd (lift (g a b)) asB) fun t => if t = true then bnd (lift (g' b c)) asB else ret false := (rfl)
theorem s_iteB (b c : Bool) : (if b = true then ret (.bl c) else ret (.bl false) : M S D) = ret (.bl (b && c)) := by cases b <;> rfl
theorem s_iteT (b c : Bool) : (if b = true then ret c else ret false : M S Bool) = ret (b && c) := by cases b <;> rfl
theorem lstD_map (f : α → D) (xs : List α) (h : xs.length ≤ 16777216) : lstD (xs.map f) = some (.lst (xs.map f)) := lstD_le (by rw [List.length_map]; exact h)
theorem lenT_map (f : α → D) (xs : List α) : lenD [.tup (xs.map f)] = some (.int xs.length) := by rw [r_lenT, List.length_map]
theorem lenL_map (f : α → D) (xs : List α) : lenD [.lst (xs.map f)] = some (.int xs.length) := by rw [r_lenL, List.length_map]
theorem s_comp {e : α → D} {xs : List α} {f : D → M S (Option D)} (h : xs.length ≤ 16777216) : compM (ret (xs.map e)) f = bnd (compG (fun x => if InP xs x then f (e x) else stuck) xs) fun ys => ret (.lst ys) := by
  rw [comp_ok (by rw [List.length_map]; exact h), compL_map, compG_of]
theorem s_all (p : α → Bool) (xs : List α) : allD [.lst (xs.map fun x => .bl (p x))] = some (.bl (xs.all p)) := by
  have : (xs.map fun x => D.bl (p x)) = (xs.map p).map D.bl := by rw [List.map_map]; rfl
  rw [this, all_bls, List.all_map]; rfl
theorem s_any (p : α → Bool) (xs : List α) : anyD [.lst (xs.map fun x => .bl (p x))] = some (.bl (xs.any p)) := by
  have : (xs.map fun x => D.bl (p x)) = (xs.map p).map D.bl := by rw [List.map_map]; rfl
  rw [this, any_bls, List.any_map]; rfl
theorem s_sum (p : α → Int) (xs : List α) : sumD [.lst (xs.map fun x => .int (p x))] = some (.int (xs.map p).sum) := by
  have : (xs.map fun x => D.int (p x)) = (xs.map p).map D.int := by rw [List.map_map]; rfl
  rw [this, sum_ints]
/-- the greatest, the least of a list that is not empty -/
def maxL : List Int → Int
  | [] => 0
  | i :: is => is.foldl (fun a b => if a < b then b else a) i
def minL : List Int → Int
  | [] => 0
  | i :: is => is.foldl (fun a b => if b < a then b else a) i
theorem s_max (p : α → Int) (xs : List α) (h : xs ≠ []) : maxD [.lst (xs.map fun x => .int (p x))] = some (.int (maxL (xs.map p))) := by
  have : (xs.map fun x => D.int (p x)) = (xs.map p).map D.int := by rw [List.map_map]; rfl
  rw [this]
  show ((asInts ((xs.map p).map D.int)).bind maxI).map D.int = _
  rw [asInts_map]
  cases xs with
  | nil => exact absurd rfl h
  | cons x xs => rfl
theorem s_min (p : α → Int) (xs : List α) (h : xs ≠ []) : minD [.lst (xs.map fun x => .int (p x))] = some (.int (minL (xs.map p))) := by
  have : (xs.map fun x => D.int (p x)) = (xs.map p).map D.int := by rw [List.map_map]; rfl
  rw [this]
  show ((asInts ((xs.map p).map D.int)).bind minI).map D.int = _
  rw [asInts_map]
  cases xs with
  | nil => exact absurd rfl h
  | cons x xs => rfl
theorem max2_ok (i j : Int) : maxD [.int i, .int j] = some (.int (max i j)) := by
  show some (D.int (if j > i then j else i)) = _
  congr 2
  split <;> omega
theorem min2_ok (i j : Int) : minD [.int i, .int j] = some (.int (min i j)) := by
  show some (D.int (if j < i then j else i)) = _
  congr 2
  split <;> omega
theorem maxL_spec : ∀ {xs : List Int}, xs ≠ [] → maxL xs ∈ xs ∧ ∀ y ∈ xs, y ≤ maxL xs := by
  intro xs h
  cases xs with
  | nil => exact absurd rfl h
  | cons i is =>
    show is.foldl (fun a b => if a < b then b else a) i ∈ i :: is ∧ ∀ y ∈ i :: is, y ≤ is.foldl (fun a b => if a < b then b else a) i
    clear h
    induction is generalizing i with
    | nil => exact ⟨by simp, fun y hy => by simp at hy; subst hy; exact Int.le_refl _⟩
    | cons j js ih =>
      rw [List.foldl_cons]
      obtain ⟨h1, h2⟩ := ih (if i < j then j else i)
      constructor
      · rcases List.mem_cons.mp h1 with e | e
        · rw [e]; split <;> simp
        · exact List.mem_cons_of_mem _ (List.mem_cons_of_mem _ e)
      · intro y hy
        have h3 := h2 (if i < j then j else i) List.mem_cons_self
        have h4 : i ≤ (if i < j then j else i) ∧ j ≤ (if i < j then j else i) := by split <;> omega
        rcases List.mem_cons.mp hy with e | hy
        · rw [e]; exact Int.le_trans h4.1 h3
        · rcases List.mem_cons.mp hy with e | hy
          · rw [e]; exact Int.le_trans h4.2 h3
          · exact h2 y (List.mem_cons_of_mem _ hy)
theorem minL_spec : ∀ {xs : List Int}, xs ≠ [] → minL xs ∈ xs ∧ ∀ y ∈ xs, minL xs ≤ y := by
  intro xs h
  cases xs with
  | nil => exact absurd rfl h
  | cons i is =>
    show is.foldl (fun a b => if b < a then b else a) i ∈ i :: is ∧ ∀ y ∈ i :: is, is.foldl (fun a b => if b < a then b else a) i ≤ y
    clear h
    induction is generalizing i with
    | nil => exact ⟨by simp, fun y hy => by simp at hy; subst hy; exact Int.le_refl _⟩
    | cons j js ih =>
      rw [List.foldl_cons]
      obtain ⟨h1, h2⟩ := ih (if j < i then j else i)
      constructor
      · rcases List.mem_cons.mp h1 with e | e
        · rw [e]; split <;> simp
        · exact List.mem_cons_of_mem _ (List.mem_cons_of_mem _ e)
      · intro y hy
        have h3 := h2 (if j < i then j else i) List.mem_cons_self
        have h4 : (if j < i then j else i) ≤ i ∧ (if j < i then j else i) ≤ j := by split <;> omega
        rcases List.mem_cons.mp hy with e | hy
        · rw [e]; exact Int.le_trans h3 h4.1
        · rcases List.mem_cons.mp hy with e | hy
          · rw [e]; exact Int.le_trans h3 h4.2
          · exact h2 y (List.mem_cons_of_mem _ hy)
theorem maxL_iff {xs : List Int} (h : xs ≠ []) (k : Int) : maxL xs ≤ k ↔ ∀ x ∈ xs, x ≤ k := ⟨fun q x hx => Int.le_trans ((maxL_spec h).2 x hx) q, fun q => q _ (maxL_spec h).1⟩
theorem in_ints {α : Type} (x : Int) (xs : List α) (p : α → Int) : inD (.int x) (.lst (xs.map fun y => .int (p y))) = some (.bl (decide (x ∈ xs.map p))) := by
  have e : (xs.map fun y => D.int (p y)) = (xs.map p).map D.int := by rw [List.map_map]; rfl
  rw [e, inL_pl (n := 1) (.int _) (pl_ints _) (by decide)]
  congr 2
  rw [decide_eq_decide, List.mem_map]
  constructor
  · rintro ⟨y, hy, e⟩; cases e; exact hy
  · intro h; exact ⟨x, h, rfl⟩
theorem s_zipL (xs ys : List D) : zipM2 (S := S) (ret (.lst xs)) (ret (.lst ys)) = ret (zipT xs ys) := (rfl)
theorem s_zipT (xs ys : List D) : zipM2 (S := S) (ret (.tup xs)) (ret (.tup ys)) = ret (zipT xs ys) := (rfl)
theorem zipT_map {β : Type} (f : α → D) (g : β → D) : ∀ (xs : List α) (ys : List β), zipT (xs.map f) (ys.map g) = (xs.zip ys).map fun p => .tup [f p.1, g p.2]
  | [], _ => by cases ‹List β› <;> rfl
  | _ :: _, [] => rfl
  | x :: xs, y :: ys => by
    rw [List.map_cons, List.map_cons, List.zip_cons_cons, List.map_cons, ← zipT_map f g xs ys]
    rfl
theorem s_count (x : Int) (xs : List Int) : mlM (S := S) countD (ret (.lst (xs.map .int))) (ret [.int x]) = ret (.int (xs.count x : Nat)) := by
  show lift (countD (xs.map .int) [.int x]) = _
  unfold countD
  rw [asInts_map]
  rfl
theorem s_atR {α : Type} (g : Nat → α) {n s : Nat} (h : s < n) : atI ((List.range n).map g) (s : Int) = some (g s) := by
  rw [atI_ok (by omega) (by rw [List.length_map, List.length_range]; omega)]
  simp
theorem s_atC0 {α : Type} (x : α) (xs : List α) : atI (x :: xs) 0 = some x := by
  rw [atI_ok (by decide) (by rw [List.length_cons]; omega)]
  rfl
theorem s_atC1 {α : Type} (x y : α) (xs : List α) : atI (x :: y :: xs) 1 = some y := by
  rw [atI_ok (by decide) (by rw [List.length_cons, List.length_cons]; omega)]
  rfl
theorem s_atC2 {α : Type} (x y z : α) (xs : List α) : atI (x :: y :: z :: xs) 2 = some z := by
  rw [atI_ok (by decide) (by rw [List.length_cons, List.length_cons, List.length_cons]; omega)]
  rfl
theorem s_in_nats (x : Nat) (xs : List Nat) : inD (.int (x : Int)) (.lst (xs.map fun k : Nat => .int (k : Int))) = some (.bl (decide (x ∈ xs))) := by
  have e : (xs.map fun k : Nat => D.int (k : Int)) = (xs.map fun k : Nat => (k : Int)).map D.int := by rw [List.map_map]; rfl
  rw [e, inL_pl (n := 1) (.int _) (pl_ints _) (by decide)]
  congr 2
  rw [decide_eq_decide, List.mem_map]
  constructor
  · rintro ⟨y, hy, e⟩
    obtain ⟨z, hz, rfl⟩ := List.mem_map.mp hy
    cases e; exact hz
  · intro h; exact ⟨x, List.mem_map.mpr ⟨x, h, rfl⟩, rfl⟩
theorem s_nin_nats (x : Nat) (xs : List Nat) : ninD (.int (x : Int)) (.lst (xs.map fun k : Nat => .int (k : Int))) = some (.bl (!decide (x ∈ xs))) := by
  have e : (xs.map fun k : Nat => D.int (k : Int)) = (xs.map fun k : Nat => (k : Int)).map D.int := by rw [List.map_map]; rfl
  rw [e, ninL_pl (n := 1) (.int _) (pl_ints _) (by decide)]
  congr 3
  rw [decide_eq_decide, List.mem_map]
  constructor
  · rintro ⟨y, hy, e⟩
    obtain ⟨z, hz, rfl⟩ := List.mem_map.mp hy
    cases e; exact hz
  · intro h; exact ⟨x, List.mem_map.mpr ⟨x, h, rfl⟩, rfl⟩
theorem s_app {xs : List D} {y : D} {k : D → M S (Fl τ l)} (h : xs.length < 16777216) : appM (.lst xs) (ret y) k = k (.lst (xs ++ [y])) := Sn.app_ok h
theorem s_extL {xs ys : List D} {k : D → M S (Fl τ l)} (h : xs.length + ys.length ≤ 16777216) : extM (.lst xs) (ret (.lst ys)) k = k (.lst (xs ++ ys)) := Sn.ext_ok h
theorem s_extT {xs ys : List D} {k : D → M S (Fl τ l)} (h : xs.length + ys.length ≤ 16777216) : extM (.lst xs) (ret (.tup ys)) k = k (.lst (xs ++ ys)) := Sn.extT_ok h
theorem s_pat2 {γ : Type} (f : D → D → M S γ) (a b : D) : pat2 f (.tup [a, b]) = f a b := (rfl)
theorem s_pat3 {γ : Type} (f : D → D → D → M S γ) (a b c : D) : pat3 f (.tup [a, b, c]) = f a b c := (rfl)
end
end Sn

namespace Sn
open PySem PySem.Spec PyProof.Rows L2
/-! ### sorted(dict([(x, ..) for x in xs])): the members once each, in order -/
/-- the members, once each -/
def dedI {α : Type} [DecidableEq α] (xs : List α) : List α := xs.foldr (fun x acc => if x ∈ acc then acc else x :: acc) []
theorem dedI_cons {α : Type} [DecidableEq α] (x : α) (xs : List α) : dedI (x :: xs) = if x ∈ dedI xs then dedI xs else x :: dedI xs := rfl
theorem mem_dedI {α : Type} [DecidableEq α] {xs : List α} {x : α} : x ∈ dedI xs ↔ x ∈ xs := by
  induction xs with
  | nil => exact Iff.rfl
  | cons y xs ih =>
    rw [dedI_cons]
    split
    · rename_i h
      rw [ih, List.mem_cons]
      constructor
      · exact .inr
      · rintro (rfl | h2)
        · exact ih.mp h
        · exact h2
    · rw [List.mem_cons, List.mem_cons, ih]
theorem nodup_dedI {α : Type} [DecidableEq α] (xs : List α) : (dedI xs).Nodup := by
  induction xs with
  | nil => exact .nil
  | cons y xs ih =>
    rw [dedI_cons]
    split
    · exact ih
    · rename_i h
      exact List.nodup_cons.mpr ⟨h, ih⟩
/-- .. ascending -/
def uniqI (xs : List Int) : List Int := sortI (dedI xs)
theorem mem_uniqI {xs : List Int} {x : Int} : x ∈ uniqI xs ↔ x ∈ xs := by unfold uniqI; rw [mem_sortI, mem_dedI]
theorem uniqI_lt (xs : List Int) : (uniqI xs).Pairwise (· < ·) := by
  have h1 := sortI_le (dedI xs)
  have h2 : (sortI (dedI xs)).Nodup := (sortI_perm (dedI xs)).nodup_iff.mpr (nodup_dedI xs)
  unfold uniqI
  exact (h1.and h2).imp fun ⟨a, b⟩ => by omega
theorem uniqI_of {ks xs : List Int} (h : ks.Nodup) (m : ∀ x, x ∈ ks ↔ x ∈ xs) : sortI ks = uniqI xs := sortI_ext h (nodup_dedI xs) fun x => by rw [m, mem_dedI]
theorem asKV_map {α : Type} (k : α → Int) (v : α → D) : ∀ xs : List α, asKV (xs.map fun x => .tup [.int (k x), v x]) = some (xs.map fun x => (.inl (k x), v x))
  | [] => rfl
  | x :: xs => by
    rw [List.map_cons]
    show (kq (.int (k x))).bind (fun q => (asKV (xs.map fun x => .tup [.int (k x), v x])).map fun r => (q, v x) :: r) = _
    rw [asKV_map k v xs]
    rfl
theorem dput_keys {α : Type} (k : α → Int) (v : α → D) : ∀ (xs : List α) (ds : List (D × D)) (ks pre : List Int), ds.map (·.1) = ks.map D.int → ks.Nodup → (∀ x, x ∈ ks ↔ x ∈ pre) →
    ∃ (ds' : List (D × D)) (ks' : List Int), ((xs.map fun x => ((.inl (k x) : Key), v x)).foldl (fun acc p => dput acc p.1 p.2) ds) = ds' ∧ ds'.map (·.1) = ks'.map D.int ∧ ks'.Nodup ∧ (∀ x, x ∈ ks' ↔ x ∈ pre ++ xs.map k)
  | [], ds, ks, pre, h1, h2, h3 => ⟨ds, ks, rfl, h1, h2, by simpa using h3⟩
  | x :: xs, ds, ks, pre, h1, h2, h3 => by
    rw [List.map_cons, List.foldl_cons]
    have hk := keys_dput (ds := ds) (k := .inl (k x)) (v := v x)
    by_cases hx : k x ∈ ks
    · have : (dget ds (.inl (k x))).isSome = true := by
        cases q : dget ds (.inl (k x)) with
        | some _ => rfl
        | none =>
          rw [dget_none, List.any_eq_false] at q
          have : D.int (k x) ∈ ds.map (·.1) := by rw [h1]; exact List.mem_map.mpr ⟨_, hx, rfl⟩
          obtain ⟨p, hp, e⟩ := List.mem_map.mp this
          have := q p hp
          rw [e] at this
          exact absurd (decide_eq_true (rfl : kq (D.int (k x)) = some (Sum.inl (k x)))) this
      rw [if_pos this] at hk
      have hm : ∀ y, y ∈ ks ↔ y ∈ pre ++ [k x] := fun y => by
        rw [h3 y, List.mem_append, List.mem_singleton]
        constructor
        · exact .inl
        · rintro (h | rfl)
          · exact h
          · exact (h3 _).mp hx
      obtain ⟨ds', ks', e1, e2, e3, e4⟩ := dput_keys k v xs (dput ds (.inl (k x)) (v x)) ks (pre ++ [k x]) (hk.trans h1) h2 hm
      exact ⟨ds', ks', e1, e2, e3, fun y => by rw [e4 y, List.append_assoc]; rfl⟩
    · have : ¬ (dget ds (.inl (k x))).isSome = true := by
        intro q
        cases q2 : dget ds (.inl (k x)) with
        | none => rw [q2] at q; cases q
        | some w =>
          unfold dget at q2
          obtain ⟨p, hp, _⟩ := Option.map_eq_some_iff.mp q2
          have hm := List.mem_of_find?_eq_some hp
          have hq : kq p.1 = some (Sum.inl (k x)) := by simpa using List.find?_some hp
          have he := keyD_of hq
          have : p.1 ∈ ds.map (·.1) := List.mem_map.mpr ⟨p, hm, rfl⟩
          rw [h1] at this
          obtain ⟨z, hz, ez⟩ := List.mem_map.mp this
          rw [← ez] at hq
          have : z = k x := by simpa [kq] using hq
          exact hx (this ▸ hz)
      rw [if_neg this] at hk
      obtain ⟨ds', ks', e1, e2, e3, e4⟩ := dput_keys k v xs (dput ds (.inl (k x)) (v x)) (ks ++ [k x]) (pre ++ [k x]) (by rw [hk, h1, List.map_append]; rfl) (by
        rw [List.nodup_append]
        exact ⟨h2, by simp, fun a ha b hb e => by rw [List.mem_singleton] at hb; subst hb; subst e; exact hx ha⟩) (fun y => by rw [List.mem_append, List.mem_append, h3 y])
      exact ⟨ds', ks', e1, e2, e3, fun y => by rw [e4 y, List.append_assoc]; rfl⟩
/-- dict([(k x, v x) for x in xs]) -/
def dctI {α : Type} (k : α → Int) (v : α → D) (xs : List α) : List (D × D) := (xs.map fun x => ((.inl (k x) : Key), v x)).foldl (fun acc p => dput acc p.1 p.2) []
theorem dict_map {α : Type} (k : α → Int) (v : α → D) (xs : List α) : dictD [.lst (xs.map fun x => .tup [.int (k x), v x])] = some (.dct (dctI k v xs)) := by
  show (asKV _).map _ = _
  rw [asKV_map, Option.map_some]
  rfl
theorem sorted_dctI {α : Type} (k : α → Int) (v : α → D) (xs : List α) (h : (uniqI (xs.map k)).length < 64) : sortedD [.dct (dctI k v xs)] = some (.lst ((uniqI (xs.map k)).map .int)) := by
  obtain ⟨ds', ks', e1, e2, e3, e4⟩ := dput_keys k v xs [] [] [] rfl .nil fun _ => Iff.rfl
  rw [List.nil_append] at e4
  have eu := uniqI_of e3 e4
  show (asInts ((dctI k v xs).map (·.1))).bind _ = _
  rw [show dctI k v xs = ds' from e1, e2, asInts_map, Option.bind_some, if_pos (by
    have h1 := congrArg List.length eu
    rw [(sortI_perm ks').length_eq] at h1
    omega), eu]
/-! ### rules for whatever the box gives -/
section
variable {S : Type} {α β : Type} {τ l τ' l' : Type}
theorem Wp.val {m : M S α} {v : α} {k : α → M S β} {P : β → Prop} (h : m = Sn.ret v) (q : Wp (k v) P) : Wp (Sn.bnd m k) P := Wp.bnd (Wp.eq h (Wp.ret q))
theorem Wp.off {n : M S Bool} {mA : M S (Fl τ' l)} {s : τ'} {k : τ' → M S (Fl τ l)} {P : Fl τ l → Prop} (h : n = Sn.ret false) (q : Wp (k s) P) : Wp (iteF n mA (Sn.ret (.nx s)) k) P := by
  subst h
  exact q
theorem Wp.ownV {m : M S D} {d : D} {k : D → M S (Fl τ l)} {P : Fl τ l → Prop} (h : m = Sn.ret d) (e : isMut d = true) (q : Wp (k d) P) : Wp (ownM m k) P := Wp.own (Wp.eq h (Wp.ret ⟨e, q⟩))
theorem Wp.parE {mu mv : M S D} {k : D → D → M S (Fl τ l)} {P : Fl τ l → Prop} (h : Wp mu fun d => Wp mv fun e => Wp (k d e) P) : Wp (parM .E .E mu mv k) P :=
  Wp.bnd (h.mono fun _ h => Wp.bnd (h.mono fun _ h => by rw [if_pos ⟨rfl, rfl⟩]; exact h))
theorem Wp.forN {f : Unit → D → M S (Fl Unit Unit)} {k : Unit → M S (Fl τ' l')} {mi : M S (List D)} {xs : List D} {P : Fl τ' l' → Prop} (hi : mi = Sn.ret xs) (h : ∀ x ∈ xs, Wp (f () x) fun fl => fl = .nx ()) (hk : Wp (k ()) P) : Wp (forM' mi f () k) P := by
  subst hi
  exact Wp.forU h hk
/-- .. some items of a comprehension, as draws have it -/
theorem Wp.compS {f : α → M S (Option β)} {R : β → Prop} : ∀ {xs : List α} {P : List β → Prop}, (∀ x ∈ xs, Wp (f x) fun o => ∀ y, o = some y → R y) → (∀ ys, ys.length ≤ xs.length → (∀ y ∈ ys, R y) → P ys) → Wp (compL f xs) P
  | [], P, _, q => Wp.ret (q [] (Nat.le_refl _) fun _ h => by cases h)
  | x :: xs, P, h, q => by
    rw [compL_cons]
    refine Wp.bnd (Wp.mono (h x List.mem_cons_self) fun o ho => ?_)
    refine Wp.bnd (Wp.compS (R := R) (fun z hz => h z (List.mem_cons_of_mem _ hz)) fun ys hl hr => Wp.ret ?_)
    cases o with
    | none => exact q ys (by rw [List.length_cons]; omega) hr
    | some y =>
      refine q (y :: ys) (by rw [List.length_cons, List.length_cons]; omega) fun z hz => ?_
      rcases List.mem_cons.mp hz with e | hz
      · rw [e]; exact ho _ rfl
      · exact hr z hz
theorem Wp.eltC {n : M S Bool} {m : M S D} {P : Option D → Prop} (h : Wp n fun b => if b = true then Wp m fun y => P (some y) else P none) : Wp (eltM n m) P :=
  Wp.bnd (h.mono fun b h => by
    cases b with
    | true => exact Wp.bnd ((show Wp m _ from h).mono fun _ p => Wp.ret p)
    | false => exact Wp.ret h)
theorem Wp.drawn {k : Int} {P : D → Prop} (h : 0 < k) (h2 : k < 1073741824) (q : ∀ d : Nat, (d : Int) < k → P (.int (d : Int))) : Wp (Sn.bnd (consM (Sn.ret .box) (consM (Sn.ret (.int k)) (Sn.ret []))) m_draw) P :=
  Wp.drawc h h2 fun d d1 d2 => by
    have := q d.toNat (by omega)
    rwa [Int.toNat_of_nonneg d1] at this
end
theorem nodup_len {α : Type} [DecidableEq α] : ∀ {a b : List α}, a.Nodup → (∀ x ∈ a, x ∈ b) → a.length ≤ b.length
  | [], _, _, _ => Nat.zero_le _
  | x :: a, b, h, m => by
    rw [List.nodup_cons] at h
    have hx := m x List.mem_cons_self
    have := nodup_len (a := a) (b := b.erase x) h.2 fun y hy => (List.mem_erase_of_ne (fun e : y = x => h.1 (by rw [← e]; exact hy))).mpr (m y (List.mem_cons_of_mem _ hy))
    rw [List.length_erase_of_mem hx] at this
    have := List.length_pos_of_mem hx
    rw [List.length_cons]
    omega
/-- a loop that appends -/
theorem forE_app {S α γ : Type} {τ' l' : Type} {enc : γ → D} (g : α → γ) {f : D → α → M S (Fl D D)} {k : D → M S (Fl τ' l')} : ∀ {xs : List α} (acc : List γ), acc.length + xs.length ≤ 16777216 →
    (∀ ls : List γ, ls.length < 16777216 → ∀ x ∈ xs, f (.lst (ls.map enc)) x = ret (.nx (.lst (ls.map enc ++ [enc (g x)])))) → forE f k xs (.lst (acc.map enc)) = k (.lst ((acc ++ xs.map g).map enc))
  | [], acc, _, _ => by rw [List.map_nil, List.append_nil]; rfl
  | x :: xs, acc, hl, h => by
    rw [List.length_cons] at hl
    show bnd (f (.lst (acc.map enc)) x) _ = _
    rw [h acc (by omega) x List.mem_cons_self, r_bnd]
    have := forE_app (k := k) g (xs := xs) (acc ++ [g x]) (by rw [List.length_append]; simp; omega) fun ls hls y hy => h ls hls y (List.mem_cons_of_mem _ hy)
    rw [List.map_append] at this
    rw [List.map_cons, show acc ++ g x :: xs.map g = acc ++ [g x] ++ xs.map g by simp]
    exact this
theorem Wp.pure {S τ l τ' l' : Type} {s : τ'} {m : (τ' → M S (Fl τ l)) → M S (Fl τ l)} {k : τ' → M S (Fl τ l)} {P : Fl τ l → Prop} (h : ∀ k, m k = k s) (q : Wp (k s) P) : Wp (m k) P := Wp.eq (h k) q
theorem Wp.forP {S τ τ' l' : Type} {mi : M S (List D)} {f : τ → D → M S (Fl τ τ)} {s0 s1 : τ} {k : τ → M S (Fl τ' l')} {P : Fl τ' l' → Prop} (h : ∀ k' : τ → M S (Fl τ' l'), forM' mi f s0 k' = k' s1) (q : Wp (k s1) P) : Wp (forM' mi f s0 k) P := Wp.eq (h k) q
/-- a search that finds at the first that does -/
def hitF {S τ l : Type} (k : τ) (o : Option D) : M S (Fl τ l) := match o with
  | some d => ret (.rt d)
  | none => ret (.nx k)
theorem forE_hit {S α : Type} {τ' l' : Type} (g : α → Option D) (k : Unit → M S (Fl τ' l')) (xs : List α) : forE (fun (_ : Unit) x => hitF () (g x)) k xs () = match xs.findSome? g with | some d => ret (.rt d) | none => k () := by
  induction xs with
  | nil => rfl
  | cons x xs ih =>
    show bnd (hitF () (g x)) _ = _
    rw [List.findSome?_cons]
    cases g x
    · exact ih
    · rfl
end Sn

namespace Sn
open PySem PySem.Spec PyProof.Rows L2
/-! ### sorted(set(xs)), tuples of ints -/
def asTups : List D → Option (List (List Int))
  | [] => some []
  | .tup xs :: ds => (asInts xs).bind fun is => (asTups ds).map fun r => is :: r
  | _ => none
def cod (k : List Int) : Int := TS.code 64 k
def tupOk (d : Nat) (ks : List (List Int)) : Prop := ks.length < 64 ∧ 1 ≤ d ∧ ∀ k ∈ ks, k.length = d ∧ TS.Bd 64 k
def canT (ks : List (List Int)) : List (List Int) := (uniqI (ks.map cod)).map fun c => (ks.find? fun k => decide (cod k = c)).getD []
def tI' (is : List Int) : D := .tup (is.map .int)
open Classical in
noncomputable def ssD : List D → Option D
  | [.lst xs] => (asTups xs).bind fun ks => if ∃ d, tupOk d ks then some (.lst ((canT ks).map tI')) else none
  | _ => none
theorem cod_inj : ∀ {x y : List Int}, x.length = y.length → TS.Bd 64 x → TS.Bd 64 y → cod x = cod y → x = y
  | [], [], _, _, _, _ => rfl
  | [], _ :: _, h, _, _, _ => by simp at h
  | _ :: _, [], h, _, _, _ => by simp at h
  | a :: x, b :: y, h, hx, hy, e => by
    have hl : x.length = y.length := by simpa using h
    have hab : a = b := by
      rcases Int.lt_trichotomy a b with q | q | q
      · have := TS.code_lt hl hx.tail hy.tail q
        unfold cod at e; omega
      · exact q
      · have := TS.code_lt hl.symm hy.tail hx.tail q
        unfold cod at e; omega
    subst hab
    have e2 : cod x = cod y := by
      have h1 := TS.code_same (B := 64) (d := a) hl
      have h2 := TS.code_same (B := 64) (d := a) hl.symm
      unfold cod at e ⊢
      omega
    rw [cod_inj hl hx.tail hy.tail e2]
theorem find_cod {d : Nat} {ks : List (List Int)} (h : tupOk d ks) {k : List Int} (hk : k ∈ ks) : (ks.find? fun k' => decide (cod k' = cod k)).getD [] = k := by
  cases e : ks.find? fun k' => decide (cod k' = cod k) with
  | none => exact absurd (List.find?_eq_none.mp e k hk) (by simp)
  | some k' =>
    have h1 := List.mem_of_find?_eq_some e
    have h2 := List.find?_some e
    obtain ⟨l1, b1⟩ := h.2.2 k hk
    obtain ⟨l2, b2⟩ := h.2.2 k' h1
    show k' = k
    exact cod_inj (by rw [l1, l2]) b2 b1 (of_decide_eq_true h2)
theorem canT_mem {ks : List (List Int)} {d : Nat} (h : tupOk d ks) {k : List Int} : k ∈ canT ks ↔ k ∈ ks := by
  unfold canT
  rw [List.mem_map]
  constructor
  · rintro ⟨c, hc, rfl⟩
    obtain ⟨k, hk, rfl⟩ := List.mem_map.mp (mem_uniqI.mp hc)
    rw [find_cod h hk]
    exact hk
  · intro hk
    exact ⟨cod k, mem_uniqI.mpr (List.mem_map.mpr ⟨k, hk, rfl⟩), find_cod h hk⟩
theorem canT_len (ks : List (List Int)) : (canT ks).length ≤ ks.length := by
  unfold canT uniqI
  rw [List.length_map, (sortI_perm _).length_eq]
  have : ∀ xs : List Int, (dedI xs).length ≤ xs.length := fun xs => by
    have hn := nodup_dedI xs
    exact nodup_len hn fun x hx => mem_dedI.mp hx
  have := this (ks.map cod)
  rwa [List.length_map] at this
/-- what the machine gives is just this -/
theorem canT_of {d : Nat} {ks L : List (List Int)} (h : tupOk d ks) (m : ∀ k, k ∈ L ↔ k ∈ ks) (nd : L.Nodup) (pw : L.Pairwise fun q r => cod q ≤ cod r) : L = canT ks := by
  have hc : L.map cod = uniqI (ks.map cod) := by
    have hnd : (L.map cod).Nodup := by
      unfold List.Nodup
      rw [List.pairwise_map]
      refine (List.Pairwise.and_mem.mp nd).imp fun {x y} ⟨hx, hy, hne⟩ e => hne ?_
      obtain ⟨l1, b1⟩ := h.2.2 x ((m x).mp hx)
      obtain ⟨l2, b2⟩ := h.2.2 y ((m y).mp hy)
      exact cod_inj (by rw [l1, l2]) b1 b2 e
    rw [← uniqI_of hnd (fun x => by simp only [List.mem_map, m])]
    exact sortI_of (List.Perm.refl _) (List.pairwise_map.mpr pw)
  unfold canT
  rw [← hc, List.map_map]
  conv => lhs; rw [← List.map_id L]
  apply List.map_congr_left
  intro k hk
  exact (find_cod h ((m k).mp hk)).symm
theorem asInts_eq : ∀ {ds : List D} {is : List Int}, asInts ds = some is → ds = is.map D.int
  | [], is, h => by cases h; rfl
  | d :: ds, is, h => by
    cases d with
    | int i =>
      cases e : asInts ds with
      | none => simp [asInts, e] at h
      | some js =>
        have : is = i :: js := by simp [asInts, e] at h; exact h.symm
        subst this
        rw [List.map_cons, ← asInts_eq e]
    | _ => simp [asInts] at h
theorem asTups_rep {K : PySem.W.Frag} {β : Addr} {Z H : Hp} (zh : Sub Z H) : ∀ {ds : List D} {vs : List V} {ks : List (List Int)}, RepL K β Z ds vs → asTups ds = some ks → ∃ ps : List (Addr × List Int), vs = ps.map (fun p => V.ref p.1) ∧ ps.map (·.2) = ks ∧ (∀ p ∈ ps, SqT K H p.1 (p.2.map V.int)) ∧ ∀ p ∈ ps, Rep K β Z (tI' p.2) (.ref p.1)
  | _, _, ks, .nil, h => by cases h; exact ⟨[], rfl, rfl, fun p h => (by cases h), fun p h => (by cases h)⟩
  | _, _, ks, .cons (d := d) (ds := ds) r t, e => by
    cases d with
    | tup xs =>
      obtain ⟨is, h1, e2⟩ := Option.bind_eq_some_iff.mp (show (asInts xs).bind (fun is => (asTups ds).map fun r => is :: r) = some ks from e)
      obtain ⟨r', e3, rfl⟩ := Option.map_eq_some_iff.mp e2
      obtain ⟨ps, rfl, h2, h3, h4⟩ := asTups_rep zh t e3
      cases r with
      | tup hq l =>
        have := asInts_rep l h1
        subst this
        have hx : xs = is.map D.int := asInts_eq h1
        subst hx
        refine ⟨(_, is) :: ps, rfl, by rw [List.map_cons, h2], fun p hp => ?_, fun p hp => ?_⟩
        · rcases List.mem_cons.mp hp with rfl | hp
          · exact zh.sqT hq
          · exact h3 p hp
        · rcases List.mem_cons.mp hp with rfl | hp
          · exact .tup hq l
          · exact h4 p hp
    | _ => cases e
open Classical in
theorem ssD_inv {x d : D} (h : ssD [x] = some d) : ∃ xs ks n, x = .lst xs ∧ asTups xs = some ks ∧ tupOk n ks ∧ d = .lst ((canT ks).map tI') := by
  unfold ssD at h
  split at h
  · rename_i xs e
    cases e
    obtain ⟨ks, e1, e2⟩ := Option.bind_eq_some_iff.mp h
    split at e2
    · rename_i hok
      obtain ⟨n, hok⟩ := hok
      cases e2
      exact ⟨xs, ks, n, rfl, e1, hok, rfl⟩
    · cases e2
  · cases h
section
variable {S : Type} [BoxS S] {C : Stat} {Γ : SCx} {a : Expr} {ma : M S D} {mda : Md} {pos pos2 p p2 : Pos}
noncomputable def ssM (ma : M S D) : M S D := bnd ma fun x => lift (ssD [x])
theorem Ok.sset (ha : Ok mda C Γ a ma) (hg : C.sc.names.lookup ("sorted" : Str) = some .globalImplicit) (hm : C.G.mg "sorted" = none) (hg2 : C.sc.names.lookup ("set" : Str) = some .globalImplicit) (hm2 : C.G.mg "set" = none) (hp : plainArg a = true := by rfl)
    (hb : bootBuiltins "sorted" = some (.builtin "sorted") := by decide +kernel) (hb2 : bootBuiltins "set" = some (.type "set") := by decide +kernel) :
    Ok .N C Γ (.Call (.Name "sorted" p) [.Call (.Name "set" p2) [a] [] pos2] [] pos) (ssM ma) := .mk fun X hX W σ Z H st d st' Q r hm' q => by
  obtain ⟨x, st1, h1, hm1⟩ := bnd_some hm'
  obtain ⟨hgd, rfl⟩ := lift_some hm1
  have hu := hX.units
  refine tU_of (pe_callB (cr_sortedT hX.calm) (hX.glob hg) (hX.none hm) hb (pa_cons (pe_callTy (cr_setOfT hX.calm (by omega)) (hX.glob hg2) (hX.none hm2) hb2 (pa_cons peU pa_nil (starEach_plain _ hp)) (by decide) (by decide) (starEach_plain _ hp)) pa_nil)) ?_
  refine ha X hX W σ Z H st x _ _ r h1 fun v Z1 H1 s1 b1 r1 => ?_
  have r1v := r1.view s1.zh
  obtain ⟨xs, ks, n, rfl, e1, hok, rfl⟩ := ssD_inv hgd
  obtain ⟨p1, vs, rfl, hq, l⟩ := r1v.1
  obtain ⟨ps, rfl, hk, hT, hR⟩ := asTups_rep (subOf s1.zh) l e1
  refine ⟨p1, ps, rfl, .inl (.inl hq), hT, ?_, fun pa L hn hsub hall => ?_⟩
  · have := hok.1
    rw [← hk, List.length_map] at this
    exact this
  have hTL : ∀ q ∈ L, SqT X.K (upd H1 pa (SetTO X.prog X.w pa L)) q.1 (q.2.map V.int) := fun q hq => (Sub.sqTT (fun a o h => upd_none hn h) (hT q (hsub q hq)))
  have hin : ∀ q ∈ L, q.2 ∈ ks := fun q hq => by rw [← hk]; exact List.mem_map.mpr ⟨q, hsub q hq, rfl⟩
  refine ⟨pa, L, n, 64, rfl, upd_same, hTL, hok.2.1, fun q hq => hok.2.2 _ (hin q hq), fun L' pl pm nd hlen pw hn2 => ?_⟩
  have hc : L'.map (·.2) = canT ks := canT_of hok (fun k => by
    constructor
    · intro h
      obtain ⟨q, hq, rfl⟩ := List.mem_map.mp h
      exact hin q (pm.mem_iff.mp hq)
    · intro h
      rw [← hk] at h
      obtain ⟨q, hq, rfl⟩ := List.mem_map.mp h
      have := hall q hq
      obtain ⟨q', hq', e⟩ := List.mem_map.mp this
      exact List.mem_map.mpr ⟨q', pm.mem_iff.mpr hq', e⟩) nd (List.pairwise_map.mpr pw)
  have hRL : ∀ q ∈ L', Rep X.K W.β Z1 (tI' q.2) (.ref q.1) := fun q hq => hR q (hsub q (pm.mem_iff.mp hq))
  have hrl : RepL X.K W.β Z1 ((canT ks).map tI') (L'.map fun q => V.ref q.1) := by
    rw [← hc, List.map_map]
    clear hc pm nd pw hlen
    induction L' with
    | nil => exact .nil
    | cons q qs ih => exact .cons (hRL q List.mem_cons_self) (ih fun q' h => hRL q' (List.mem_cons_of_mem _ h))
  have s2 := Stp.layH (W := W) (o := SetTO X.prog X.w pa L) s1.zh hn trivial
  have b2 := box_lay (o := SetTO X.prog X.w pa L) b1 hn
  refine fin_lst (H := upd H1 pa (SetTO X.prog X.w pa L)) s2.zh b2 hn2 hrl (by rw [List.length_map, sizeLine_eq]; omega) fun v Z' H' s' b' r' => ?_
  exact q v Z' H' ((s1.trans s2).trans s') b' (r'.back r.box b2 (s1.trans s2))
end
/-! ### a yes or no less another one -/
def subB : D → D → Option D
  | .bl a, .bl b => some (.int (b2i a - b2i b))
  | _, _ => none
theorem op_subB {X : Cx} : OpR X (binaryOp .Sub) (fun x y H Q => ∃ a b, x = .bl a ∧ y = .bl b ∧ Q (.int (b2i a - b2i b)) H) := by
  intro pins s σ H x y v u Q I rx ry h
  obtain ⟨a, b, rfl, rfl, q⟩ := h
  cases rx; cases ry
  exact sub_bool ⟨.int _, H, I.tok _, ⟨_, rfl⟩, q⟩
theorem o_subB {C : Stat} : Op2 C (binaryOp .Sub) subB := fun X hX S _ W Z H st x y dx dy d Q zh sz bx r1 r2 hg q => by
  cases dx with
  | bl i => cases dy with
    | bl j => cases r1; cases r2; cases hg; exact rU_of op_subB ⟨i, j, rfl, rfl, fin_plain zh bx (.int _) rfl q⟩
    | _ => cases hg
  | _ => cases hg
/-! ### sum and any of a tuple of ints -/
theorem any_rangeI (ns : List Int) : (List.range ns.length).any (fun i => ns.getD i 0 != 0) = ns.any fun i => i != 0 := by
  induction ns with
  | nil => rfl
  | cons b bs ih =>
    rw [List.length_cons, List.range_succ_eq_map, List.any_cons, List.any_map, List.any_cons, ← ih]
    rfl
theorem truth_ints {prog : Program} {w : World} {A : Around} {ns : List Int} {its : List Value} (e : Vals (ns.map V.int) its) :
    TruthOf prog w A (fun i v => its.toArray[i]? = some v) (fun i => ns.getD i 0 != 0) := fun i v s Q E hv hq => by
  have hv' : its[i]? = some v := by simpa using hv
  obtain ⟨x, hx, r⟩ : ∃ x, (ns.map V.int)[i]? = some x ∧ RelV x v := by
    clear hv hq
    generalize hm : ns.map V.int = xs at e
    clear hm
    induction e generalizing i with
    | nil => simp at hv'
    | cons h t ih =>
      cases i with
      | zero => cases hv'; exact ⟨_, rfl, h⟩
      | succ i => exact ih i hv'
  rw [List.getElem?_map] at hx
  obtain ⟨n, hn, rfl⟩ := Option.map_eq_some_iff.mp hx
  obtain ⟨t, rfl⟩ := r
  have hg : ns.getD i 0 = n := by rw [List.getD_eq_getElem?_getD, hn]; rfl
  have hq' : Q (ns.getD i 0 != 0) s := hq
  rw [hg] at hq'
  exact PyProof.Rows.truthy_int hq'
section
variable {X : Cx}
theorem cr_anyT (hc : X.calm = true) : CallR X (.builtin "any") (fun vs H Q => ∃ (a : Addr) (ns : List Int), vs = [V.ref a] ∧ SqT X.K H a (ns.map V.int) ∧ Q (.bl (ns.any fun i => i != 0)) H) := by
  intro pins s σ H vs us Q I r h
  obtain ⟨a, ns, rfl, hs, q⟩ := h
  obtain ⟨its, rv, ⟨o, ho, hcl, n, hd⟩, _⟩ := I.tuple hs
  rw [Vals.ref1 r]
  have ht : s.heap.IsTuple a its.toArray := ⟨o, ho, hcl, n, hd⟩
  have hne : a ≠ s.heap.objs.size := Nat.ne_of_lt (Heap.lt_size ho)
  refine call_any_walk (wpAny_pyIter_tuple ht ?_)
  refine ⟨s.heap.objs.size, _, _, _, _, _, (fun i => ns.getD i 0 != 0), rfl, Walks.tuple (A := X.A.in1) (I.ok.hd hc) s.heap.objs.size a hne its.toArray, ⟨⟨_, Heap.get?_push_size _ rfl, rfl, rfl⟩, ht.at fun o e => Heap.get?_push_of_some _ e⟩, truth_ints rv, fun h' tk hk => ?_⟩
  refine ⟨.bl _, H, I.kept fun b o eo => hk b o (fun hmem => ?_) (Heap.get?_push_of_some _ eo), ?_, q⟩
  · exact absurd (Heap.lt_size eo) (by rw [List.mem_singleton.mp hmem]; exact Nat.lt_irrefl _)
  · have e := rv.length
    rw [List.length_map] at e
    show Value.bool _ = Value.bool _
    rw [← any_rangeI, List.size_toArray, ← e]
theorem cr_sumT (hc : X.calm = true) : CallR X (.builtin "sum") (fun vs H Q => ∃ (a : Addr) (ns : List Int), vs = [V.ref a] ∧ SqT X.K H a (ns.map V.int) ∧ Q (.int ns.sum) H) := by
  intro pins s σ H vs us Q I r h
  obtain ⟨a, ns, rfl, hs, q⟩ := h
  obtain ⟨its, rv, ⟨o, ho, hcl, n, hd⟩, _⟩ := I.tuple hs
  rw [Vals.ref1 r]
  have ht : s.heap.IsTuple a its.toArray := ⟨o, ho, hcl, n, hd⟩
  have hi := rv.ints
  obtain ⟨xs, e⟩ := hi.allInts.items
  have hn : numsOf (intItems xs).toList = ns := by rw [← e]; exact hi.numsOf
  rw [nums_intItems] at hn
  rw [e] at ht
  refine PySem.W.ktm_sumG (I.ok.hd hc) ht fun h' tk t' hk => ⟨.int _, H, I.kept hk, ⟨_, rfl⟩, ?_⟩
  rw [preSum_eq, List.take_of_length_le (by simp), hn]
  exact q
end
def sum2D : List D → Option D
  | [.lst xs] => (asInts xs).map fun is => .int is.sum
  | [.tup xs] => (asInts xs).map fun is => .int is.sum
  | _ => none
theorem o_sum2 {C : Stat} : OpL C (.builtin "sum") sum2D := fun X hX S _ W Z H st xs dxs d Q zh sz bx r0 hg q => by
  match dxs, hg with
  | [.lst xs], hg => exact o_sum X hX W Z H st _ _ d Q zh sz bx r0 hg q
  | [.tup xs], hg =>
    obtain ⟨v, rfl, r⟩ := r0.one
    cases r with
    | tup h l =>
      obtain ⟨ns, e1, rfl⟩ := Option.map_eq_some_iff.mp hg
      have ev := asInts_rep l e1
      subst ev
      exact cU_of (cr_sumT hX.calm) ⟨_, ns, rfl, (subOf zh).sqT h, fin_plain zh bx (.int _) rfl q⟩
def any2D : List D → Option D
  | [.lst xs] => anyD [.lst xs]
  | [.tup xs] => (asInts xs).map fun is => .bl (is.any fun i => i != 0)
  | _ => none
theorem o_any2 {C : Stat} : OpL C (.builtin "any") any2D := fun X hX S _ W Z H st xs dxs d Q zh sz bx r0 hg q => by
  match dxs, hg with
  | [.lst xs], hg => exact o_any X hX W Z H st _ _ d Q zh sz bx r0 hg q
  | [.tup xs], hg =>
    obtain ⟨v, rfl, r⟩ := r0.one
    cases r with
    | tup h l =>
      obtain ⟨ns, e1, rfl⟩ := Option.map_eq_some_iff.mp hg
      have ev := asInts_rep l e1
      subst ev
      exact cU_of (cr_anyT hX.calm) ⟨_, ns, rfl, (subOf zh).sqT h, fin_plain zh bx (.bl _) rfl q⟩
/-! ### several at once, constants alone -/
theorem swapped_fold {env : Env} {tgs es : List Expr} {kt k2 : Nat} {pt pt2 : Pos} (hf : es.all (foldedForSure 8) = true) : swappedStores [.Tuple tgs kt pt] (.Tuple es k2 pt2) env = pure none := by
  unfold swappedStores
  simp only [hf, if_true]
  split
  · rfl
  · split
    · rfl
    · split <;> rfl
section
variable {S : Type} [BoxS S] {C : Stat} {Γ : SCx} {es : List Expr} {rest : List Stmt} {τ l : Type} {T : Tg τ l} {pos : Pos}
theorem OkB.parF {mds : List Md} {mr : M S (List D)} {tgs : List Expr} {is : List Nat} {kt k2 : Nat} {pt pt2 : Pos} {k : List D → M S (Fl τ l)} (hT : NamesAt C tgs is) (he : OkV mds C Γ es mr) (hlen : mds.length = is.length)
    (hb : ∀ ds, ds.length = mds.length → OkB C (setΓ Γ is mds ds) rest T (k ds))
    (h16 : tgs.length ≤ 16 := by decide) (hf : es.all (foldedForSure 8) = true := by rfl)
    (hs : ∀ env : Env, swapsWithSole [.Tuple tgs kt pt] (.Tuple es k2 pt2) pos.line env = pure false := by intro _; rfl)
    (h1 : ∀ env : Env, (assignEach [.Tuple tgs kt pt] env).map (·.2) = [assign (.Tuple tgs kt pt) env] := by intro _; rfl) :
    OkB C Γ (.Assign [.Tuple tgs kt pt] (.Tuple es k2 pt2) pos :: rest) T (parN mds mr k) := .mk fun X hX W σ Z H st f st' D r hm q => by
  obtain ⟨ds, st1, h2, hm1⟩ := bnd_some hm
  split at hm1
  · rename_i hok
    obtain ⟨pl1, pl2⟩ := hT.plain
    refine tUS_of (pss_cons (ps_asg peU pgU (hs _) (swapped_fold hf) (h1 _)) pssU) ?_
    refine tU_of (pe_tup paU) (he X hX W σ Z H st ds st1 _ r h2 hok fun vs as Z1 H1 s1 b1 v1 => ?_)
    obtain ⟨l1, l2⟩ := v1.len
    have hle : vs.length ≤ sizeLine := by rw [← l1, hlen, ← pl2, sizeLine_eq]; omega
    refine ⟨hle, fun p hp => ?_⟩
    have s2 := Stp.layH (o := .tup vs) s1.zh hp hle
    have s3 := s1.trans s2
    refine tUG_of (pg_tup (n := tgs.length) hX.calm pgsU (each_len _ pl1).1 (each_len _ pl1).2) ⟨_, _, rfl, .inl (.inl upd_same), by rw [pl2, ← hlen, l1], NamesAt.run hX hT (by rw [← l1, hlen]) ?_⟩
    have rr := r.step s3 (box_lay b1 hp)
    have vv : Voks X.K W H Z1 (upd H1 p (.tup vs)) mds ds vs as := v1.stp s2
    have no : ∀ a ∈ as, ¬ ownA Γ σ a := fun a ha h => by
      obtain ⟨o, ho⟩ := r.ownThere h
      rw [v1.fresh a ha] at ho; cases ho
    obtain ⟨g1, g2⟩ := vv.store (is := is) rr no
    refine hb ds (by rw [l2, l1]) X hX W _ Z1 _ st1 f st' D g1 hm1 (q.after s3.bst fun a h => ?_)
    exact (g2 a h).elim .inl fun h => .inr (v1.fresh a h)
  · exact (stuck_some hm1).elim
theorem OkB.parC2 {m1 m2 : Md} {u v : Expr} {a b : M S D} {i j : Nat} {x y : Str} {px py pt pt2 : Pos} {kt k2 : Nat} {k : D → D → M S (Fl τ l)} (hN : C.N[i]? = some x) (hN2 : C.N[j]? = some y) (hx : Loc C.sc x) (hy : Loc C.sc y) (fx : C.fn x = true ∨ C.sc.names.lookup x = some .local) (fy : C.fn y = true ∨ C.sc.names.lookup y = some .local)
    (hu : Ok m1 C Γ u a) (hv : Ok m2 C Γ v b) (e1 : m1 = .E ∨ m1 = .N) (e2 : m2 = .E ∨ m2 = .N) (hb : ∀ d e, OkB C ((Γ.set i (some (mdEn m1 d))).set j (some (mdEn m2 e))) rest T (k d e))
    (pu : plainArg u = true := by rfl) (pv : plainArg v = true := by rfl) (hf : [u, v].all (foldedForSure 8) = true := by rfl)
    (hs : ∀ env : Env, swapsWithSole [.Tuple [.Name x px, .Name y py] kt pt] (.Tuple [u, v] k2 pt2) pos.line env = pure false := by intro _; rfl) :
    OkB C Γ (.Assign [.Tuple [.Name x px, .Name y py] kt pt] (.Tuple [u, v] k2 pt2) pos :: rest) T (parM m1 m2 a b k) := by
  rw [parM_eq]
  exact OkB.parF (is := [i, j]) ⟨hN, hx, fx, hN2, hy, fy, True.intro⟩ (OkV.cons hu (OkV.cons hv OkV.nil e2 pv) e1 pu) rfl (fun ds hl => match ds, hl with | [d, e], _ => hb d e) (by simp) hf hs (by intro _; rfl)
end
end Sn

namespace Sn
open PySem PySem.Spec PyProof.Rows L2
/-! ### five at once -/
def pat5 {S α : Type} (f : D → D → D → D → D → M S α) : D → M S α
  | .tup [a, b, c, d, e] => f a b c d e
  | _ => stuck
section
variable {S : Type} [BoxS S] {C : Stat} {Γ : SCx} {pos : Pos} {α : Type} {tgs : List Expr} {ds : List D} {Wp : Nat → Prop} {KK : SCx → M S α → Prop}
theorem BindOk.tup5 {t1 t2 t3 t4 t5 : Expr} {k : Nat} {d : D} {f : D → D → D → D → D → M S α} (hp : [t1, t2, t3, t4, t5].all plainTg = true) (h : ∀ a b c e g, BindOk C Γ (t1 :: t2 :: t3 :: t4 :: t5 :: tgs) (a :: b :: c :: e :: g :: ds) Wp KK (f a b c e g)) : BindOk C Γ (.Tuple [t1, t2, t3, t4, t5] k pos :: tgs) (d :: ds) Wp KK (pat5 f d) := by
  cases d with
  | tup xs =>
    match xs with
    | [a, b, c, e, g] => exact BindOk.tupN (ts := [a, b, c, e, g]) hp rfl (h a b c e g)
    | [] => exact .inl fun _ => rfl
    | [_] => exact .inl fun _ => rfl
    | [_, _] => exact .inl fun _ => rfl
    | [_, _, _] => exact .inl fun _ => rfl
    | [_, _, _, _] => exact .inl fun _ => rfl
    | _ :: _ :: _ :: _ :: _ :: _ :: _ => exact .inl fun _ => rfl
  | _ => exact .inl fun _ => rfl
end
/-! ### x in a dict -/
def in2D (x y : D) : Option D :=
  match y with
  | .dct ds => (kq x).map fun k => .bl (dget ds k).isSome
  | _ => inD x y
def nin2D (x y : D) : Option D :=
  match y with
  | .dct ds => (kq x).map fun k => .bl (!(dget ds k).isSome)
  | _ => ninD x y
section
variable {X : Cx}
theorem op_inK (hu : X.A.units + 1 < cLine) : OpR X (compareOp .In) (fun x y H Q => ∃ a o, y = .ref a ∧ DGet H a x o ∧ Q (.bl o.isSome) H) := by
  intro pins s σ H x y v u Q I rx ry h
  obtain ⟨a, o, rfl, g, q⟩ := h
  cases ry
  exact d_in hu I g rx fun s2 I2 => ⟨.bl _, H, I2, rfl, q⟩
theorem op_ninK (hu : X.A.units + 1 < cLine) : OpR X (compareOp .NotIn) (fun x y H Q => ∃ a o, y = .ref a ∧ DGet H a x o ∧ Q (.bl (!o.isSome)) H) := by
  intro pins s σ H x y v u Q I rx ry h
  obtain ⟨a, o, rfl, g, q⟩ := h
  cases ry
  exact d_notIn hu I g rx fun s2 I2 => ⟨.bl _, H, I2, rfl, q⟩
end
theorem key_rep1 {K : PySem.W.Frag} {β : Addr} {Z H : Hp} {x : D} {v : V} {k : Key} (h : kq x = some k) (r : Rep1 K β Z H x v) : v = kV k := by
  cases x with
  | int i => cases r; cases h; rfl
  | str x => cases r; cases h; rfl
  | _ => cases h
theorem isSome_get {K : PySem.W.Frag} {β : Addr} {Z : Hp} {ds : List (D × D)} {kvs : List (Key × V)} {k : Key} (l : RepK K β Z ds kvs) : (valV kvs k).isSome = (dget ds k).isSome := by
  rcases RepK.get (k := k) l with ⟨h1, h2⟩ | ⟨d, v, h1, h2, _⟩
  · rw [h1, h2]
    rfl
  · rw [h1, h2]
    rfl
theorem o_in2 {C : Stat} : Op2 C (compareOp .In) in2D := fun X hX S _ W Z H st x y dx dy d Q zh sz bx r1 r2 hg q => by
  cases dy with
  | dct ds =>
    obtain ⟨k, hk, rfl⟩ := Option.map_eq_some_iff.mp (show (kq dx).map (fun k => D.bl (dget ds k).isSome) = some d from hg)
    obtain ⟨a, rfl, ⟨kvs, h, l⟩ | ⟨kvs, h, l⟩⟩ := r2
    · have hu := hX.units
      refine rU_of (op_inK (by omega)) ⟨a, valV kvs k, rfl, by rw [key_rep1 hk r1]; exact DGet.k h, ?_⟩
      rw [isSome_get l]
      exact fin_plain zh bx (.bl _) rfl q
    · exact l.false.elim
  | _ => exact o_in X hX W Z H st x y dx _ d Q zh sz bx r1 r2 hg q
theorem o_nin2 {C : Stat} : Op2 C (compareOp .NotIn) nin2D := fun X hX S _ W Z H st x y dx dy d Q zh sz bx r1 r2 hg q => by
  cases dy with
  | dct ds =>
    obtain ⟨k, hk, rfl⟩ := Option.map_eq_some_iff.mp (show (kq dx).map (fun k => D.bl (!(dget ds k).isSome)) = some d from hg)
    obtain ⟨a, rfl, ⟨kvs, h, l⟩ | ⟨kvs, h, l⟩⟩ := r2
    · have hu := hX.units
      refine rU_of (op_ninK (by omega)) ⟨a, valV kvs k, rfl, by rw [key_rep1 hk r1]; exact DGet.k h, ?_⟩
      rw [isSome_get l]
      exact fin_plain zh bx (.bl _) rfl q
    · exact l.false.elim
  | _ => exact o_nin X hX W Z H st x y dx _ d Q zh sz bx r1 r2 hg q
end Sn

namespace Sn
open PySem PySem.Spec PyProof.Rows L2
/-! ### [xs.pop(e) for k in ..], xs a list of one's own -/
section
variable {S : Type}
def popD (xs : List D) : D → Option (D × List D)
  | .int i => if h : 0 ≤ i ∧ i < xs.length then some (xs[i.toNat]'(by omega), xs.eraseIdx i.toNat) else none
  | _ => none
def popE (xs : List D) (me : M S D) : M S (D × List D) := bnd me fun i => fun s => (popD xs i).map fun p => (p, s)
def compP (f : List D → D → M S (D × List D)) : List D → List D → M S (List D × List D)
  | [], xs => ret ([], xs)
  | it :: its, xs => bnd (f xs it) fun p => bnd (compP f its p.2) fun q => ret (p.1 :: q.1, q.2)
def comP (mi : M S (List D)) (xs : List D) (f : List D → D → M S (D × List D)) : M S (D × D) := bnd mi fun its => if its.length ≤ sizeLine then bnd (compP f its xs) fun q => ret (.lst q.1, .lst q.2) else stuck
end
section
variable {S : Type} [BoxS S] {K : PySem.W.Frag} {W : Wd} {Γ : SCx} {σ : L2.St} {Z H : Hp} {st : S}
/-- an object that is nobody's changes -/
theorem SR.chg {D : Addr} {o : HO} (r : SR K W Γ σ Z H st) (z : Z D = none) (nb : ¬ W.bx D) (no : ¬ ownA Γ σ D) (so : SzO o) : SR K W Γ σ Z (upd H D o) st where
  ln := r.ln
  sz := r.sz.upd so
  box := BoxS.congr r.box (upd_ne fun e => nb (.inl e.symm)) (upd_ne fun e => nb (.inr e.symm))
  zh := fun a u h => ⟨by rw [upd_ne (fun e => by rw [e, z] at h; cases h)]; exact (r.zh a u h).1, (r.zh a u h).2⟩
  frz := r.frz
  own := fun i d h => by
    obtain ⟨a, ea, za, na, ma, qa⟩ := r.own i d h
    refine ⟨a, ea, za, na, ma, qa.mono (Sub.refl _) fun b eb u hb => ?_⟩
    cases eb
    rw [upd_ne (fun e => no ⟨i, d, h, by rw [← e]; exact ea⟩)]
    exact hb
  dis := r.dis
theorem owned_at {j : Nat} {xs : List D} {a : Addr} {e : D} (h0 : Γ[j]? = some (some (En.own e))) : ownA (Γ.set j (some (.own (.lst xs)))) σ a ↔ ownA Γ σ a := by
  constructor
  · exact own_mut h0
  · rintro ⟨i, d, h1, h2⟩
    by_cases e : i = j
    · subst e
      exact ⟨i, _, List.getElem?_set_self (by
        cases q : Γ[i]? with
        | none => rw [q] at h0; cases h0
        | some y => exact (List.getElem?_eq_some_iff.mp q).1), h2⟩
    · exact ⟨i, d, by rw [List.getElem?_set_ne (Ne.symm e)]; exact h1, h2⟩
end
section
variable {S : Type} [BoxS S] {C : Stat} {Γ : SCx} {tg iter e : Expr} {j : Nat} {y : Str} {yp ap cp pos : Pos}
theorem lcp_rd {scope : Scope} (own : List (Str × Nat)) {mi : M S (List D)} {xs0 : List D} {f : List D → D → M S (D × List D)} (h0 : Γ[j]? = some (some (.own (.lst xs0)))) (hi : OkI true C Γ tg iter mi) (hN : C.N[j]? = some y) (hv : Vis (C.blk scope).sc y)
    (hb : ∀ xs d, BindOk (C.blk scope) (wipeΓ (Γ.set j (some (.own (.lst xs)))) (own.map (·.2))) [tg] [d] (fun i => i ∈ own.map (·.2)) (fun Γ' n => ∃ me, Γ'[j]? = some (some (.own (.lst xs))) ∧ Ok .V (C.blk scope) Γ' e me ∧ n = popE xs me) (f xs d))
    (hjo : j ∉ own.map (·.2)) (hp : plainArg e = true) (hd : (y == ("__debug__" : Str)) = false) (hcd : (y == ("__classdict__" : Str)) = false) (hline : (ap.endLine == cp.line) = true)
    (X : Cx) (hX : CtxP C X) (W : Wd) (σ : L2.St) (Z H : Hp) (st : S) (d d1 : D) (st' : S) (Q : VK) (r : SR X.K W Γ σ Z H st) (hm : comP mi xs0 f st = some ((d, d1), st'))
    (q : ∀ v Z' H', SR X.K W (Γ.set j (some (.own d1))) σ Z' H' st' → BSt W Γ σ Z H Z' H' → Res X.K W .N H Z' H' d v → (∀ a, v = .ref a → ¬ ownA Γ σ a) → Q v H') : tLc (tUI X tg iter) (bG X scope tg) (bT X scope []) (bE X scope (.Call (.Attribute (.Name y yp) "pop" ap) [e] [] cp)) (own.map (·.2)) σ H Q := by
  obtain ⟨its, st1, h1, hm1⟩ := bnd_some hm
  by_cases hxs : its.length ≤ sizeLine
  · rw [if_pos hxs] at hm1
    obtain ⟨ys, st2, h2, hm2⟩ := bnd_some hm1
    obtain ⟨hq0, rfl⟩ := ret_some hm2
    cases hq0
    refine hi X hX W σ Z H st its st1 _ r h1 fun J A Z1 H1 s1 b1 y1 hA => fun D hD => ?_
    have r1 := r.step s1 b1
    have nbD : ¬ W.bx D := BoxS.bxThere b1 hD
    have zD : Z1 D = none := z_none s1.zh hD
    have noD : ¬ ownA Γ σ D := fun h => by
      obtain ⟨o, ho⟩ := r1.ownThere h
      rw [hD] at ho; cases ho
    have hG : ∀ xs : List Sn.D, (Γ.set j (some (.own (.lst xs0)))) = Γ := fun _ => by
      apply List.ext_getElem?
      intro i
      by_cases e : j = i
      · subst e
        rw [List.getElem?_set_self (by
          cases q : Γ[j]? with
          | none => rw [q] at h0; cases h0
          | some y => exact (List.getElem?_eq_some_iff.mp q).1), h0]
      · rw [List.getElem?_set_ne e]
    refine ⟨fun i n H' => ∃ Z' acc dacc st3 xsi rst, n = its.length - i ∧ i ≤ its.length ∧ SR X.K W (Γ.set j (some (.own (.lst xsi)))) σ Z' H' st3 ∧ BSt W Γ σ Z1 (upd H1 D (.lst [])) Z' (upd H' D (.lst [])) ∧ H' D = some (.lst acc) ∧ Z' D = none ∧ acc.length ≤ i ∧ RepL X.K W.β Z' dacc acc ∧ compP f (its.drop i) xsi st3 = some (rst, st') ∧ ys = (dacc ++ rst.1, rst.2),
      ⟨its.length, Z1, [], [], st1, xs0, ys, by omega, Nat.zero_le _, ?_, ?_, upd_same, zD, Nat.zero_le _, .nil, h2, rfl⟩, ?_⟩
    · rw [hG xs0]
      exact r1.chg zD nbD noD (Nat.zero_le _)
    · rw [upd_upd]
      exact BSt.refl
    rintro i n H2 ⟨Z2, acc, dacc, st3, xsi, rst, rfl, hi2, rr, s2, hD2, zD2, hac, rl2, run2, ey⟩
    have ka : ∀ a o, A a → H1 a = some o → H2 a = some o := fun a o ha h => by
      have hne : a ≠ D := ne_of_none h hD
      have := s2.hh a o (by rw [upd_ne hne]; exact h) (y1.1 a ha).2 (hA rfl a ha).1
      rwa [upd_ne hne] at this
    have yy := y1.2 i Z2 H2 st3 s2.zz rr.zh ka rr.sz rr.box
    have hjl : j < Γ.length := by
      cases q : Γ[j]? with
      | none => rw [q] at h0; cases h0
      | some y => exact (List.getElem?_eq_some_iff.mp q).1
    by_cases hlt : i < its.length
    · have hdi : its[i]? = some its[i] := List.getElem?_eq_getElem hlt
      rw [List.drop_eq_getElem_cons hlt] at run2
      obtain ⟨p, st4, h4, run3⟩ := bnd_some (show bnd (f xsi its[i]) _ st3 = some (rst, st') from run2)
      obtain ⟨zs, st5, h5, run4⟩ := bnd_some run3
      obtain ⟨er, rfl⟩ := ret_some run4
      obtain ⟨go, yl⟩ := yy.2 _ hdi
      refine .inr ⟨go, fun H' => ∃ Z' acc dacc st3 xsi rst, SR X.K W (Γ.set j (some (.own (.lst xsi)))) σ Z' H' st3 ∧ BSt W Γ σ Z1 (upd H1 D (.lst [])) Z' (upd H' D (.lst [])) ∧ H' D = some (.lst acc) ∧ Z' D = none ∧ acc.length ≤ i + 1 ∧ RepL X.K W.β Z' dacc acc ∧ compP f (its.drop (i + 1)) xsi st3 = some (rst, st') ∧ ys = (dacc ++ rst.1, rst.2), fun H' hN' => ?_, fun x H3 hy => ?_⟩
      · obtain ⟨Z', acc, dacc, st3, xsi, rst, q1, q2, q3, q4, q5, q6, q7, q8⟩ := hN'
        exact ⟨its.length - (i + 1), by omega, Z', acc, dacc, st3, xsi, rst, rfl, hlt, q1, q2, q3, q4, q5, q6, q7, q8⟩
      · obtain ⟨Z3, s3, b3, rx⟩ := yl x H3 hy
        intro s0 H0 C' cl fp
        have hXb := hX.blk scope s0 H0 C' cl fp
        rcases hb xsi its[i] with hb' | ⟨Γ', vs, ht, hvs, me, hj, oe, en⟩
        · rw [hb' st3] at h4; cases h4
        · obtain ⟨Γ1, v1, v2, t1, ⟨e1, e2⟩, e3⟩ := ht
          subst e1
          subst e2
          rw [List.append_nil] at e3
          subst e3
          rw [en] at h4
          obtain ⟨k, st6, h6, h7⟩ := bnd_some (show bnd me (fun i => fun s => (popD xsi i).map fun p => (p, s)) st3 = some (p, st4) from h4)
          obtain ⟨p', hpop, e7⟩ := Option.map_eq_some_iff.mp h7
          cases e7
          refine t1 _ hXb W (wipe σ (own.map (·.2))) Z3 H3 st3 x _ ((rr.step s3 b3).wipe) rx fun σ3 r4 w4 o4 => ?_
          refine ⟨by
            have := w4 (own.map (·.2)) hvs
            rw [this]
            exact wipe_idem _ _ σ fun _ h => h, fun s5 H5 C5 cl5 fp5 => ?_⟩
          have hXc := hX.blk scope s5 H5 C5 cl5 fp5
          refine OkTs.nil _ hXc W σ3 Z3 H3 st3 true st3 _ r4 rfl fun Z6 H6 s6 b6 => ?_
          rw [if_pos rfl]
          intro s8 H8 C8 cl8 fp8
          have hXd := hX.blk scope s8 H8 C8 cl8 fp8
          refine tU_of (pe_bm PySem.F.plainAttrs_list PySem.F.slot_list_pop PySem.F.type_list_pop mt_popAt (pe_var (i := j) (by rw [hXd.N]; exact hN) (by rw [hXd.sc]; exact hv) hd hcd) (pa_cons peU pa_nil (starEach_plain _ hp)) rfl (by rw [starEach_plain _ hp]; rfl) hline (starEach_plain _ hp)) ?_
          have r6 := r4.step s6 b6
          obtain ⟨pa, ep, z, nb, mu, a', vs', ea, hq, lr⟩ := r6.own j _ hj
          cases ea
          have ep3 : σ[j]? = some (some (.ref pa)) := by
            have e1 := w4 (own.map (·.2)) hvs
            rw [wipe_idem _ _ σ fun _ h => h] at e1
            rw [← wipe_get (σ := σ) hjo, ← e1, wipe_get hjo]
            exact ep
          have opa : ownA Γ σ pa := ⟨j, _, h0, ep3⟩
          have hne : D ≠ pa := fun e => noD (e ▸ opa)
          refine ⟨_, ep, .inl ⟨rfl, _, .inl (.inl hq)⟩, ?_⟩
          refine oe _ hXd W σ3 Z6 H6 st3 k _ _ r6 h6 fun v Z7 H7 s7 b7 r7 => ?_
          cases k with
          | int n =>
            have hpop' : (if h : 0 ≤ n ∧ n < xsi.length then some (xsi[n.toNat]'(by omega), xsi.eraseIdx n.toNat) else none) = some p := hpop
            split at hpop'
            · rename_i hc
              cases hpop'
              have hq7 := s7.hh _ _ hq nb
              cases r7.1
              have ll := lr.length
              have s36 := s3.trans s6
              have s37 := s36.trans s7
              have D7 : H7 D = some (.lst acc) := s37.hh D _ hD2 nbD
              have zD7 : Z7 D = none := by
                cases q : Z7 D with
                | none => rfl
                | some u =>
                  rcases s37.nw D u q with w | w
                  · rw [zD2] at w; cases w
                  · rw [hD2] at w; cases w
              have sz7 : vs'.length ≤ sizeLine := by
                have := s7.sz r6.sz
                exact this pa vs' (.inl hq7)
              rw [sizeLine_eq] at sz7
              obtain ⟨v, hv1, hv2⟩ := lr.get (i := n.toNat) (List.getElem?_eq_getElem (by omega : n.toNat < xsi.length))
              refine ⟨pa, vs', n, n.toNat, v, rfl, rfl, hq7, by omega, by omega, (ixN_seq (by unfold ixN; rw [if_pos hc.1, if_pos (by omega)])).1, hv1, ?_⟩
              have so : SzO (.lst (vs'.eraseIdx n.toNat)) := by
                show (vs'.eraseIdx n.toNat).length ≤ sizeLine
                have := List.length_eraseIdx_le vs' n.toNat
                rw [sizeLine_eq]; omega
              have hlen : (acc ++ [v]).length ≤ sizeLine := by rw [List.length_append, List.length_singleton]; omega
              have rr7 := rr.step s37 b7
              have rrm := rr7.mut (i := j) (d' := Sn.D.lst (xsi.eraseIdx n.toNat)) (List.getElem?_set_self hjl) ep3 rfl ⟨pa, _, rfl, upd_same, (lr.mono s7.zz).erase n.toNat⟩ so
              rw [List.set_set] at rrm
              have noD2 : ¬ ownA (Γ.set j (some (.own (.lst (xsi.eraseIdx n.toNat))))) σ D := fun h => noD ((owned_at h0).mp h)
              refine ⟨acc, by rw [upd_ne hne]; exact D7, by omega, Z7, acc ++ [v], dacc ++ [xsi[n.toNat]'(by omega)], _, xsi.eraseIdx n.toNat, zs, rrm.chg zD7 nbD noD2 hlen, ⟨s2.zz.trans s37.zz, fun a o h nba noa => ?_, fun a o h => ?_, fun _ => ?_⟩, upd_same, zD7, by rw [List.length_append, List.length_singleton]; omega, (rl2.mono s37.zz).append (.cons (hv2.mono s7.zz) .nil), h5, by rw [ey, er]; simp⟩
              · rw [upd_upd]
                by_cases e : a = D
                · subst e
                  rw [upd_same] at h ⊢
                  exact h
                · have g := s2.hh a o h nba noa
                  rw [upd_ne e] at g
                  rw [upd_ne e, upd_ne (fun z => noa (by rw [z]; exact opa))]
                  exact s37.hh a o g nba
              · rcases s37.nw a o h with w | w
                · exact s2.nw a o w
                · by_cases e : a = D
                  · subst e; rw [hD2] at w; cases w
                  · cases q : upd H1 D (.lst []) a with
                    | none => exact .inr (.inl rfl)
                    | some u =>
                      by_cases noa : ownA Γ σ a
                      · exact .inr (.inr noa)
                      · have g := s2.hh a u q (s37.zh a o h).2 noa
                        rw [upd_ne e, w] at g
                        cases g
              · rw [upd_upd]
                exact rrm.sz.upd (Nat.zero_le _)
            · cases hpop'
          | _ => cases hpop
    · have ei : i = its.length := by omega
      subst ei
      rw [List.drop_length] at run2
      obtain ⟨e1, rfl⟩ := ret_some run2
      cases e1
      rw [List.append_nil] at ey
      subst ey
      refine .inl ⟨yy.1 (Nat.le_refl _), ?_⟩
      have bs : BSt W Γ σ Z1 H1 Z2 H2 := ⟨s2.zz, fun a o h nb no => by
          have hne : a ≠ D := ne_of_none h hD
          have := s2.hh a o (by rw [upd_ne hne]; exact h) nb no
          rwa [upd_ne hne] at this, fun a o h => by
          rcases s2.nw a o h with w | w | w
          · exact .inl w
          · by_cases e : a = D
            · subst e; rw [zD2] at h; cases h
            · rw [upd_ne e] at w; exact .inr (.inl w)
          · exact .inr (.inr w), fun _ => rr.sz⟩
      refine q (.ref D) Z2 H2 rr (s1.bst.trans (fun a o h => (rr.zh a o h).2) OwLe.refl bs) ⟨⟨D, acc, rfl, hD2, rl2⟩, fun a ea _ => ?_⟩ fun a ea => ?_
      · cases ea
        exact ⟨fresh_back r.box b1 s1 hD, zD2, nbD⟩
      · cases ea
        exact noD
  · rw [if_neg hxs] at hm1; exact (stuck_some hm1).elim
theorem SR.frzAt {K : PySem.W.Frag} {W : Wd} {σ : L2.St} {Z H : Hp} {st : S} {D : Addr} {o : HO} (r : SR K W Γ σ Z H st) (z : Z D = none) (h : H D = some o) (nb : ¬ W.bx D) (no : ¬ ownA Γ σ D) : SR K W Γ σ (upd Z D o) H st where
  ln := r.ln
  sz := r.sz
  box := r.box
  zh := fun a u q => by
    rcases upd_get q with ⟨rfl, rfl⟩ | ⟨_, q⟩
    · exact ⟨h, nb⟩
    · exact r.zh a u q
  frz := fun i d q => by
    obtain ⟨v, h1, h2⟩ := r.frz i d q
    exact ⟨v, h1, h2.mono fun a u w => upd_none z w⟩
  own := fun i d q => by
    obtain ⟨a, ea, za, na, ma, qa⟩ := r.own i d q
    exact ⟨a, ea, by rw [upd_ne (fun e => no ⟨i, d, q, by rw [← e]; exact ea⟩)]; exact za, na, ma, qa.mono (fun a u w => upd_none z w) fun _ _ _ hb => hb⟩
  dis := r.dis
/-- an expression that changes a list of one's own: its value, frozen, and the list behind -/
def OkPD (C : Stat) (Γ : SCx) (j : Nat) (e : Expr) (m : M S (D × D)) : Prop :=
  ∀ X, CtxP C X → ∀ (W : Wd) (σ : L2.St) (Z H : Hp) (st : S) (d d1 : D) (st' : S) (Q : VK), SR X.K W Γ σ Z H st → m st = some ((d, d1), st') →
    (∀ v Z' H', SR X.K W (Γ.set j (some (.own d1))) σ Z' H' st' → BSt W Γ σ Z H Z' H' → Rep X.K W.β Z' d v → Q v H') → tU X e σ H Q
structure OkP (C : Stat) (Γ : SCx) (j : Nat) (e : Expr) (m : M S (D × D)) : Prop where
  mk ::
  run : OkPD C Γ j e m
instance {C : Stat} {Γ : SCx} {j : Nat} {e : Expr} {m : M S (D × D)} : CoeFun (OkP C Γ j e m) fun _ => OkPD C Γ j e m := ⟨OkP.run⟩
theorem OkP.lc {scope : Scope} (own : List (Str × Nat)) {mi : M S (List D)} {xs0 : List D} {f : List D → D → M S (D × List D)} (h0 : Γ[j]? = some (some (.own (.lst xs0)))) (hi : OkI true C Γ tg iter mi) (hN : C.N[j]? = some y) (hv : Vis (C.blk scope).sc y)
    (hb : ∀ xs d, BindOk (C.blk scope) (wipeΓ (Γ.set j (some (.own (.lst xs)))) (own.map (·.2))) [tg] [d] (fun i => i ∈ own.map (·.2)) (fun Γ' n => ∃ me, Γ'[j]? = some (some (.own (.lst xs))) ∧ Ok .V (C.blk scope) Γ' e me ∧ n = popE xs me) (f xs d))
    (hjo : j ∉ own.map (·.2) := by decide) (hp : plainArg e = true := by rfl) (hd : (y == ("__debug__" : Str)) = false := by decide) (hcd : (y == ("__classdict__" : Str)) = false := by decide) (hline : (ap.endLine == cp.line) = true := by rfl)
    (ok : blkC C.N C.sc scope own = true := by (try dsimp only [Stat.blk]); decide +kernel) (hs : ∀ (env : Env) x, foldedSetIterable iter env x = pure x := by intro _ _; rfl) :
    OkP C Γ j (.ListComp (.Call (.Attribute (.Name y yp) "pop" ap) [e] [] cp) [⟨tg, iter, [], 0⟩] scope pos) (comP mi xs0 f) := .mk fun X hX W σ Z H st d d1 st' Q r hm q => by
  refine tU_of (pe_lc (own := own) hX.calm (by rw [hX.N]; exact hX.nd) piU (blkOk_by (by rw [hX.N, hX.sc]; exact ok)) bG_ok bT_ok bE_ok (hs _)) (lcp_rd own h0 hi hN hv hb hjo hp hd hcd hline X hX W σ Z H st d d1 st' Q r hm fun v Z' H' rr bs rN no => ?_)
  obtain ⟨its, st1, h1, hm1⟩ := bnd_some hm
  by_cases hxs : its.length ≤ sizeLine
  · rw [if_pos hxs] at hm1
    obtain ⟨ys, st2, h2, hm2⟩ := bnd_some hm1
    obtain ⟨hq0, rfl⟩ := ret_some hm2
    cases hq0
    obtain ⟨⟨a, acc, rfl, ha, rl⟩, fr⟩ := rN
    obtain ⟨f1, f2, f3⟩ := fr a rfl rfl
    have hnb : ∀ b, ownA (Γ.set j (some (.own (.lst ys.2)))) σ b → ownA Γ σ b := fun b h => (owned_at h0).mp h
    refine q (.ref a) (upd Z' a (.lst acc)) H' (rr.frzAt f2 ha f3 fun h => no a rfl (hnb a h)) ⟨fun b u w => upd_none f2 (bs.zz b u w), bs.hh, fun b u w => ?_, bs.sz⟩ (.lst upd_same (rl.mono fun b u w => upd_none f2 w))
    rcases upd_get w with ⟨rfl, rfl⟩ | ⟨_, w⟩
    · exact .inr (.inl f1)
    · exact bs.nw b u w
  · rw [if_neg hxs] at hm1; exact (stuck_some hm1).elim
end
section
variable {S : Type} [BoxS S] {C : Stat} {Γ : SCx} {j i : Nat} {x : Str} {pos : Pos} {τ l : Type} {T : Tg τ l} {rest : List Stmt} {e : Expr}
def popS (mi : M S (List D)) (d : D) (f : List D → D → M S (D × List D)) (k : D → D → M S (Fl τ l)) : M S (Fl τ l) :=
  match d with
  | .lst xs => bnd (comP mi xs f) fun p => k p.1 p.2
  | _ => stuck
/-- name = [xs.pop(e) for ..] -/
theorem OkB.popC {mi : M S (List D)} {d0 : D} {f : List D → D → M S (D × List D)} {k : D → D → M S (Fl τ l)} {pos' : Pos} (hN : C.N[i]? = some x) (hx : Loc C.sc x) (hf : C.fn x = true ∨ C.sc.names.lookup x = some .local) (h0 : Γ[j]? = some (some (.own d0)))
    (he : ∀ xs0, Γ[j]? = some (some (.own (.lst xs0))) → OkP C Γ j e (comP mi xs0 f)) (hb : ∀ d d1, OkB C ((Γ.set j (some (.own d1))).set i (some (.frz d))) rest T (k d d1))
    (hs : ∀ env : Env, env.scope = C.sc → swapsWith e (some (.Name x pos')) pos.line env = pure false := by intro _ _; rfl) : OkB C Γ (.Assign [.Name x pos'] e pos :: rest) T (popS mi d0 f k) := .mk fun X hX W σ Z H st fl st' D r hm q => by
  cases d0 with
  | lst xs0 =>
    obtain ⟨⟨d, d1⟩, st1, h1, hm1⟩ := bnd_some (show bnd (comP mi xs0 f) (fun p => k p.1 p.2) st = some (fl, st') from hm)
    refine tUS_of (pss_cons (ps_set (i := i) (by rw [hX.N]; exact hX.nd) (by rw [hX.N]; exact hN) (by rw [hX.sc]; exact hx) peU (hs _ hX.sc) (store_hyp hX hf)) pssU) ?_
    refine he xs0 h0 X hX W σ Z H st d d1 st1 _ r h1 fun v Z1 H1 rr bs rv => ?_
    exact hb d d1 X hX W (σ.set i (some v)) Z1 H1 st1 fl st' D (rr.setF rv) hm1 (q.after bs fun a h => .inl (own_mut h0 (own_setF h)))
  | _ => exact (stuck_some (S := S) (α := Fl τ l) (s := st) hm).elim
end
end Sn
namespace Sn
open PySem PySem.Spec PyProof.Rows L2
section
variable {S : Type} [BoxS S] {C : Stat} {Γ : SCx} {pos : Pos} {τ l : Type} {T : Tg τ l} {rest : List Stmt} {e tg : Expr}
/-- a, b = x -/
theorem OkB.unpackV {d : D} {n : M S (Fl τ l)} (he : Ok .E C Γ e (Sn.ret d : M S D)) (hb : BindOk C Γ [tg] [d] (fun _ => True) (fun Γ' n => OkB C Γ' rest T n) n)
    (hs : ∀ env : Env, swapsWithSole [tg] e pos.line env = pure false := by intro _; rfl) (hw : ∀ env : Env, swappedStores [tg] e env = pure none := by intro _; rfl) (h1 : ∀ env : Env, (assignEach [tg] env).map (·.2) = [assign tg env] := by intro _; rfl) :
    OkB C Γ (.Assign [tg] e pos :: rest) T n := .mk fun X hX W σ Z H st f st' D r hm q => by
  refine tUS_of (pss_cons (ps_asg peU pgU (hs _) (hw _) (h1 _)) pssU) (he X hX W σ Z H st d st _ r rfl fun v Z1 H1 s1 b1 r1 => ?_)
  rcases hb with hb | ⟨Γ', vs, ⟨Γ1, v1, v2, t1, ⟨e1, _⟩, _⟩, _, hb⟩
  · rw [hb st] at hm
    cases hm
  · subst e1
    exact t1 X hX W σ Z1 H1 st v _ (r.step s1 b1) r1 fun σ' r' w' o' => hb X hX W σ' Z1 H1 st f st' D r' hm (q.after s1.bst fun a h => .inl (o' a h))
end
end Sn

namespace Sn
open PySem PySem.Spec PyProof.Rows L2
/-! ### sorted of a tuple of ints -/
theorem gather_tup {P : Program} {w : World} {A : Around} {E : Value → Shared → Prop} {s : Shared} {t : Addr} {vs : List Value} {Q : List Value → Shared → Prop} (ht : s.heap.IsTuple t vs.toArray) (hz : vs.length ≤ sizeLine)
    (h : Q vs { s with heap := (s.heap.push (seqObj "list" #[] 0)).update s.heap.objs.size (Obj.mapSeq (· ++ vs.toArray)) }) : wpAny (model P w) A (collect (.ref t)) Q E s := by
  obtain ⟨o, ho, hc, n, hd⟩ := id ht
  have ho2 : (s.heap.push (seqObj "list" #[] 0)).get? t = some o := Heap.get?_push_of_some _ ho
  have hn : (s.heap.push (seqObj "list" #[] 0)).get? s.heap.objs.size = some (seqObj "list" #[] 0) := Heap.get?_push_size _ rfl
  unfold collect
  refine wpAny_bind (wpAny_runValue (codeAny_builtin entry_proto_collect' (show wpAny _ _ (do again (.builtin "list.__iadd__" ⟨[← newList [], .ref t], []⟩)) _ _ s from wpAny_bind (wpAny_newList (wpAny_pure ⟨Code.quiet_builtin _ (by decide +kernel), codeAny_builtin entry_list_iadd' (show wpAny _ _ (Builtin.List.listExtendWith (.ref s.heap.objs.size) (.ref t) (.ref s.heap.objs.size)) _ _ { s with heap := s.heap.push (seqObj "list" #[] 0) } from ?_)⟩)))))
  unfold Builtin.List.listExtendWith
  refine wpAny_bind (wpAny_typeOf (T := "tuple") ⟨o, ho2, hc⟩ ?_)
  rw [if_pos (by rw [show (Value.type "tuple" == Value.type "tuple") = true by rfl, Bool.or_true])]
  refine wpAny_bind (listItems_at ho2 hd (wpAny_bind (listItems_at (xs := #[]) (n := 0) hn rfl ?_)))
  rw [if_neg (by simp)]
  refine wpAny_bind (listUpdate_at (xs := #[]) (n := 0) hn rfl (wpAny_pure ?_) (Nat.zero_le _) (by show (#[] ++ vs.toArray).size ≤ sizeLine + 1; simp; omega))
  show wpAny (model P w) A (do let o ← load s.heap.objs.size; match o.data with | .seq xs _ => pure xs.toList | _ => unsupported "internal:collect") Q E { s with heap := (s.heap.push (seqObj "list" #[] 0)).update s.heap.objs.size (Obj.mapSeq (· ++ vs.toArray)) }
  refine wpAny_bind (wpAny_load (get?_update_seq hn _) (show wpAny _ _ (pure ((#[] : Array Value) ++ vs.toArray).toList) Q E _ from ?_))
  rw [show ((#[] : Array Value) ++ vs.toArray).toList = vs by simp]
  exact wpAny_pure h
section
variable {X : Cx}
theorem cr_sortedTI (hc : X.calm = true) : CallR X (.builtin "sorted") (fun vs H Q => ∃ (a : Addr) (ns : List Int), vs = [V.ref a] ∧ SqT X.K H a (ns.map V.int) ∧ ns.length < 64 ∧
    ∀ (ns' : List Int) (p : Addr), ns'.Perm ns → ns'.Pairwise (· ≤ ·) → H p = none → Q (.ref p) (upd H p (.lst (ns'.map V.int)))) := by
  intro pins s σ H vs us Q I r h
  obtain ⟨a, ns, rfl, hs, h64, q⟩ := h
  obtain ⟨its, rv, ⟨o, ho, hcl, n, hd⟩, _⟩ := I.tuple hs
  rw [Vals.ref1 r]
  have hi := rv.ints
  have hlen := hi.length
  refine Calls.call_function_entry kind_sorted plain_sorted entry_sorted (args_sorted1 _) ?_
  unfold Builtin.«sorted»
  refine wpAny_bind (m := checkCount "sorted" 1 1 _) (wpAny_pure (wpAny_bind (gather_tup (vs := its) ⟨o, ho, hcl, n, hd⟩ (by rw [sizeLine_eq]; omega) ?_)))
  generalize hh : (s.heap.push (seqObj "list" #[] 0)).update s.heap.objs.size (Obj.mapSeq (· ++ its.toArray)) = h'
  have hsz : h'.objs.size = s.heap.objs.size + 1 := by rw [← hh, Heap.size_update, size_push']
  have hk : ∀ b u, s.heap.get? b = some u → h'.get? b = some u := fun b u e => by
    rw [← hh, Heap.get?_update_ne _ _ _ _ (Nat.ne_of_lt (Heap.lt_size e))]
    exact Heap.get?_push_of_some _ e
  refine wpAny_bind (wpAny_newList ?_)
  · have hoL : (h'.push (seqObj "list" its.toArray 0)).get? h'.objs.size = some (seqObj "list" its.toArray 0) := Heap.get?_push_size _ rfl
    refine wpAny_bind (wpAny_holding (wpAny_call_entry slot_list_sort ⟨_, hoL, rfl⟩ entry_list_sort (list_sort_tree hoL hi (by omega) fun out ns' a1 a2 a3 => ⟨_, rfl, ?_⟩) (args_list_sort _)))
    obtain ⟨ep, he'⟩ := sortedHeap_at (vs := its) (out := out) hoL
    have hl : (ns'.map V.int).length ≤ sizeLine := by rw [List.length_map, a2.length_eq, sizeLine_eq]; omega
    have hge : s.heap.objs.size ≤ h'.objs.size := by omega
    exact wpAny_pure ⟨_, rfl, .ref _, upd H h'.objs.size (.lst (ns'.map V.int)), I.laid (t' := s.toks) (fun b u e => by
      have e1 := hk b u e
      rw [sortedHeap_old (Nat.ne_of_lt (Heap.lt_size e1)) (Heap.lt_size (Heap.get?_push_of_some _ e1))]
      exact Heap.get?_push_of_some _ e1) hge ⟨hl, out.toList, ep, vals_of_ints a1, he'⟩, rfl, q ns' _ a2 a3 (I.hok.fresh hge)⟩
end
noncomputable def sorted3D (xs : List D) : Option D :=
  match xs with
  | [.tup xs] => (asInts xs).bind fun is => if is.length < 64 then some (.lst ((sortI is).map .int)) else none
  | _ => sorted2D xs
theorem o_sorted3 {C : Stat} : OpL C (.builtin "sorted") sorted3D := fun X hX S _ W Z H st xs dxs d Q zh sz bx r0 hg q => by
  match dxs, hg with
  | [.tup ds], hg =>
    obtain ⟨is, e, hg2⟩ := Option.bind_eq_some_iff.mp (show (asInts ds).bind (fun is => if is.length < 64 then some (Sn.D.lst ((sortI is).map .int)) else none) = some d from hg)
    split at hg2
    · rename_i h64
      cases hg2
      obtain ⟨v, rfl, r⟩ := r0.one
      cases r with
      | tup h l =>
        have ev := asInts_rep l e
        subst ev
        refine cU_of (cr_sortedTI hX.calm) ⟨_, is, rfl, (subOf zh).sqT h, h64, fun ys p hp hs hn => ?_⟩
        rw [sortI_of hp hs]
        exact fin_lst zh bx hn (repL_ints _) (by rw [List.length_map, (sortI_perm is).length_eq, sizeLine_eq]; omega) q
    · cases hg2
  | [], hg => exact o_sorted2 X hX W Z H st xs _ d Q zh sz bx r0 hg q
  | .lst ds :: r, hg => exact o_sorted2 X hX W Z H st xs _ d Q zh sz bx r0 hg q
  | .dct ds :: r, hg => exact o_sorted2 X hX W Z H st xs _ d Q zh sz bx r0 hg q
  | .tup ds :: y :: r, hg => exact o_sorted2 X hX W Z H st xs _ d Q zh sz bx r0 hg q
  | .non :: r, hg => exact o_sorted2 X hX W Z H st xs _ d Q zh sz bx r0 hg q
  | .bl _ :: r, hg => exact o_sorted2 X hX W Z H st xs _ d Q zh sz bx r0 hg q
  | .int _ :: r, hg => exact o_sorted2 X hX W Z H st xs _ d Q zh sz bx r0 hg q
  | .str _ :: r, hg => exact o_sorted2 X hX W Z H st xs _ d Q zh sz bx r0 hg q
  | .box :: r, hg => exact o_sorted2 X hX W Z H st xs _ d Q zh sz bx r0 hg q
end Sn

namespace Sn
open PySem PySem.Spec PyProof.Rows L2

/-! ### the other kind of drawing: a tape that is read and mixed -/
def mixA (n : Int) : Int := (n * 6364136223846793005 + 1442695040888963407) % 18446744073709551616
def mixI (n : Int) : Int := (mixA n * mixA n / 4294967296 + mixA n * 69621) % 18446744073709551557
theorem mixA_nn (n : Int) : 0 ≤ mixA n ∧ mixA n < 18446744073709551616 := ⟨Int.emod_nonneg _ (by decide), Int.emod_lt_of_pos _ (by decide)⟩
theorem mixI_nn (n : Int) : 0 ≤ mixI n := Int.emod_nonneg _ (by decide)
structure Tp where
  cells : List Int
  at' : Nat
  val : Int
  mix : Int
  hv : 0 ≤ val
def tpR (b : Tp) (β γ : Addr) (H : Hp) : Prop := H β = some (.lst [.ref γ, .int (b.at' : Int), .int b.val, .int b.mix]) ∧ H γ = some (.lst (b.cells.map V.int))
instance : BoxS Tp where
  R := tpR
  there := fun h => ⟨⟨_, h.1⟩, ⟨_, h.2⟩⟩
  congr := fun h e1 e2 => ⟨e1.trans h.1, e2.trans h.2⟩
/-- the next number: place, value, mix -/
def tpLoad (cells : List Int) (a : Nat) (mix : Int) : Nat × Int × Int :=
  match cells[a]? with
  | some c => (a + 1, if 1000000000000000000 ≤ bxSize c then bxSize c else mixI (mixI (bxSize c) + ((a + 1 : Nat) : Int)), mixI (mix + bxSize c))
  | none => (a, mixI (mix + 1), mixI (mix + 1))
theorem tpLoad_nn (cells : List Int) (a : Nat) (mix : Int) : 0 ≤ (tpLoad cells a mix).2.1 := by
  unfold tpLoad
  split
  · rename_i c _
    have := bxSize_nn c
    split
    · exact this
    · exact mixI_nn _
  · exact mixI_nn _
def takeT (b : Tp) (many : Int) (hm : 0 < many) : Int × Tp :=
  if b.val < many then ((tpLoad b.cells b.at' b.mix).2.1 % many, ⟨b.cells, (tpLoad b.cells b.at' b.mix).1, (tpLoad b.cells b.at' b.mix).2.1 / many, (tpLoad b.cells b.at' b.mix).2.2, Int.ediv_nonneg (tpLoad_nn b.cells b.at' b.mix) (Int.le_of_lt hm)⟩)
  else (b.val % many, ⟨b.cells, b.at', b.val / many, b.mix, Int.ediv_nonneg b.hv (Int.le_of_lt hm)⟩)
def takeM (many : Int) : M Tp D := fun b => if h : 0 < many ∧ many < 1073741824 then some (.int (takeT b many h.1).1, (takeT b many h.1).2) else none
def m_take : List D → M Tp D
  | [.box, .int many] => takeM many
  | _ => stuck
theorem takeT_in (b : Tp) (many : Int) (hm : 0 < many) : 0 ≤ (takeT b many hm).1 ∧ (takeT b many hm).1 < many := by
  unfold takeT
  split
  · exact ⟨Int.emod_nonneg _ (by omega), Int.emod_lt_of_pos _ hm⟩
  · exact ⟨Int.emod_nonneg _ (by omega), Int.emod_lt_of_pos _ hm⟩
def spMix : Sp := fun vs H Q _ => ∃ n : Int, vs = [.int n] ∧ Q (.int (mixI n)) H
def spTape (K : PySem.W.Frag) : Sp := fun vs H Q _ => ∃ (a : Addr) (ns : List Int), vs = [.ref a] ∧ SqL K H a (ns.map V.int) ∧ ns.length ≤ 63 ∧
  ∀ (H' : Hp) (β γ : Addr), Same H H' → H β = none → H γ = none → H' β = some (.lst [.ref γ, .int 0, .int 0, .int (1 + (ns.length : Int))]) → H' γ = some (.lst (ns.map V.int)) → (Sz H → Sz H') → Q (.ref β) H'
section
variable {P : Program} {w : World} {K : PySem.W.Frag} {mg : Str → Option Value} {base : Heap}
theorem ok_law_ofT {st : Stmt} {f fB : Addr} {fd fdB : FuncData} {N : List Str} {k jB i : Nat} {rest : List Stmt} {x1 xB x3 : Str} {p1 p2 p3 pc ps : Pos} {m : M Tp (Fl Unit Unit)} {Γ1 : SCx} {qual xl : Str}
    (F : Fun K xl qual st f fd) (Sc : FnScope N ["script"] (defScope st)) (GB : FnOk P w K mg base CX0 jB fB fdB ["script"] (spTape K)) (kpB : PySem.W.keepIn K (.ref fB) = true) (bB : Binds K fdB ["script"] []) (gB : mg xB = some (.ref fB)) (hj : jB ≤ k)
    (hb : defBody st = .Assign [.Name x1 p1] (.Call (.Name xB p2) [.Name x3 p3] [] pc) ps :: rest) (h3 : x3 = "script") (hgl : (defScope st).names.lookup xB = some .globalImplicit) (hv3 : Vis (defScope st) x3) (hi : N[i]? = some x1) (hi0 : N[0]? = some x3) (hx1 : Loc (defScope st) x1)
    (hΓ : Γ1 = (List.replicate N.length none).set i (some (.frz .box)))
    (hrest : OkB (S := Tp) ⟨⟨P, w, K, mg, base⟩, N, defScope st, k, fun _ => true⟩ Γ1 rest ⟨fun _ : Unit => List.replicate N.length none, fun _ : Unit => List.replicate N.length none⟩ m)
    (hm : ∀ b : Tp, ∃ b', bnd m endF b = some (.bl true, b')) (hd : (x3 == ("__debug__" : Str)) = false := by decide) (hcd : (x3 == ("__classdict__" : Str)) = false := by decide) (hdB : (xB == ("__debug__" : Str)) = false := by decide) :
    FnOk P w K mg base CX0 (k + 1) f fd ["script"] (spLaw K) := by
  refine F.ok Sc (fun vs H Q E h => ?_) (fun cdv A outer s H vs Q E hr h => ?_)
  · obtain ⟨a, ns, rfl, _⟩ := h
    rfl
  obtain ⟨a, ns, rfl, hS, hlen, sz, q⟩ := h
  rw [hb]
  refine ⟨_, pss_cons (ps_set (i := i) Sc.nd hi hx1 (pe_call GB (hr.mono hj) hgl gB kpB bB .nil pass0 (pa_cons (pe_var (i := 0) hi0 hv3 hd hcd) pa_nil) hdB)) pssU, ?_⟩
  have hNl : 0 < N.length := by
    cases N with
    | nil => cases hi0
    | cons _ _ => simp
  refine ⟨.ref a, ?_, a, ns, rfl, hS, hlen, fun H1 β γ sm nβ nγ hβ hγ szi => ?_⟩
  · unfold L2.start; rfl
  let b0 : Tp := ⟨ns, 0, 0, 1 + (ns.length : Int), Int.le_refl 0⟩
  obtain ⟨b', hb'⟩ := hm b0
  obtain ⟨fl, b1, h1, h2⟩ := bnd_some hb'
  have hil : i < N.length := by
    cases h : N[i]? with
    | none => rw [hi] at h; cases h
    | some y => exact (List.getElem?_eq_some_iff.mp h).1
  refine hrest _ ⟨rfl, rfl, rfl, rfl, rfl, rfl, rfl, Sc.nd, rfl, hr, rfl, fun _ _ => rfl⟩ ⟨β, γ⟩ ((L2.start N [.ref a]).set i (some (.ref β))) (fun _ => none) H1 b0 fl b1 _ ?_ h1 ?_
  · subst hΓ
    refine ⟨?_, szi sz, (⟨hβ, hγ⟩ : tpR b0 β γ H1), (fun _ _ h => nomatch h), (fun j d h => ?_), (fun j d h => ?_), (fun j j' d d' a' h => ?_)⟩
    · unfold L2.start
      simp only [List.length_set, List.length_append, List.length_map, List.length_cons, List.length_nil, List.length_replicate]
      omega
    · rcases set_cases h with ⟨rfl, he, hl⟩ | ⟨hn, h⟩
      · cases he
        refine ⟨.ref β, List.getElem?_set_self ?_, .box⟩
        unfold L2.start
        simp only [List.length_append, List.length_map, List.length_cons, List.length_nil, List.length_replicate]
        omega
      · rw [List.getElem?_replicate] at h
        split at h <;> simp at h
    · rcases set_cases h with ⟨rfl, he, hl⟩ | ⟨hn, h⟩
      · cases he
      · rw [List.getElem?_replicate] at h
        split at h <;> simp at h
    · rcases set_cases h with ⟨rfl, he, hl⟩ | ⟨hn, h⟩
      · cases he
      · rw [List.getElem?_replicate] at h
        split at h <;> simp at h
  · cases fl with
    | nx s' =>
      obtain ⟨e, _⟩ := ret_some h2
      cases e
    | rt d =>
      obtain ⟨e, _⟩ := ret_some h2
      intro v Z' H' _ _ _ rv
      subst e
      cases rv
      exact q H'
    | bk s' => exact (stuck_some (S := Tp) (α := D) (s := b1) h2).elim
    | ct s' => exact (stuck_some (S := Tp) (α := D) (s := b1) h2).elim
end
end Sn

namespace Lw
open PySem PySem.Spec PyProof.Rows L2 Sn
def topS (i : Nat) : Stmt := PySem.Challenge.pw_albumsfilled_k65_whole_tiles_laid.main.body.getD i (.Pass ⟨0, 0, 0, 0⟩)
abbrev s__law_mix : Stmt := topS 14
abbrev s__law_tape : Stmt := topS 15
abbrev s__law_take : Stmt := topS 16
theorem sc__law_mix : FnScope ["number"] ["number"] (defScope s__law_mix) := ⟨rfl, rfl, rfl, by decide +kernel, rfl, by decide +kernel, by decide +kernel⟩
theorem sc__law_tape : FnScope ["script"] ["script"] (defScope s__law_tape) := ⟨rfl, rfl, rfl, by decide +kernel, rfl, by decide +kernel, by decide +kernel⟩
theorem sc__law_take : FnScope ["tape", "many", "cell", "digit"] ["tape", "many"] (defScope s__law_take) := ⟨rfl, rfl, rfl, by decide +kernel, rfl, by decide +kernel, by decide +kernel⟩
section
variable {P : Program} {w : World} {K : PySem.W.Frag} {mg : Str → Option Value} {base : Heap}
theorem ok_mix {f : Addr} {fd : FuncData} {k : Nat} (F : Fun K "_law_mix" "_law_mix" s__law_mix f fd) (mi : mg "int" = none) : FnOk P w K mg base CX0 (k + 1) f fd ["number"] spMix := by
  refine F.ok sc__law_mix (fun vs H Q E h => ?_) (fun cdv A outer s H vs Q E hr h => ?_)
  · obtain ⟨n, rfl, _⟩ := h
    rfl
  · obtain ⟨n, rfl, q⟩ := h
    refine ⟨_, pss_cons (ps_set (i := 0) sc__law_mix.nd rfl (.inl rfl) (pe_op op_mod (pe_callTy call_int1 (by rfl) mi (by decide +kernel) (pa_cons (pe_op op_add (pe_op op_mul (pv 0) pe_int) pe_int) pa_nil)) pe_int))
      (pss_one (ps_ret (pe_op op_mod (pe_callTy call_int1 (by rfl) mi (by decide +kernel) (pa_cons (pe_op op_add (pe_op op_fdivW (pe_op op_mul (pv 0) (pv 0)) pe_int) (pe_op op_mul (pv 0) pe_int)) pa_nil)) pe_int))), ?_⟩
    obtain ⟨g0, g1⟩ := mixA_nn n
    refine ⟨.int n, rfl, n, 6364136223846793005, rfl, rfl, .inr (by decide), _, 1442695040888963407, rfl, rfl, .inl ⟨_, rfl, _, 18446744073709551616, rfl, rfl, (by show (0 : Int) < 18446744073709551616; decide), ?_⟩⟩
    exact ⟨.int (mixA n), rfl, .int (mixA n), rfl, mixA n, mixA n, rfl, rfl, .inl (by omega), _, 4294967296, rfl, rfl, ⟨by decide, by decide +kernel⟩, .int (mixA n), rfl, mixA n, 69621, rfl, rfl, .inl (by omega), _, _, rfl, rfl, .inl ⟨_, rfl, _, 18446744073709551557, rfl, rfl, (by show (0 : Int) < 18446744073709551557; decide), q⟩⟩
theorem ok_tape {f : Addr} {fd : FuncData} {k : Nat} (F : Fun K "_law_tape" "_law_tape" s__law_tape f fd) (ml : mg "len" = none) (mi : mg "list" = none) : FnOk P w K mg base CX0 (k + 1) f fd ["script"] (spTape K) := by
  refine F.ok sc__law_tape (fun vs H Q E h => ?_) (fun cdv A outer s H vs Q E hr h => ?_)
  · obtain ⟨a, ns, rfl, _⟩ := h
    rfl
  obtain ⟨a, ns, rfl, hS, hlen, q⟩ := h
  refine ⟨_, pss_one (ps_ret (pe_lst (pa_cons (pe_callTy call_list_of (by rfl) mi (by decide +kernel) (pa_cons (pe_slice sl_list (pv 0) po_none (po_some pe_int)) pa_nil)) (pa_cons pe_int (pa_cons pe_int (pa_cons (pe_op op_add pe_int (pe_callB call_len_seq (by rfl) ml PySem.boot_len (pa_cons (pv 0) pa_nil))) pa_nil)))))), ?_⟩
  have ec : cutV (ns.map V.int) none (some 80) = ns.map V.int := by
    unfold cutV
    rw [HT.sIx_none, show (some (80 : Int)) = some (((80 : Nat) : Int)) from rfl, HT.sIx_nat]
    simp only [List.length_map, List.drop_zero, Nat.sub_zero]
    rw [Nat.min_eq_right (Nat.le_trans hlen (by decide))]
    exact List.take_of_length_le (by simp)
  refine ⟨.ref a, rfl, 80, rfl, a, _, rfl, hS, fun p hp => ⟨p, _, rfl, .inl (.inl (.inl upd_same)), fun l hl => ?_⟩⟩
  have sm1 : Same H (upd H p (.lst (cutV (ns.map V.int) none (some 80)))) := fun b o h => upd_none hp h
  have sm2 : Same H (upd (upd H p (.lst (cutV (ns.map V.int) none (some 80)))) l (.lst (cutV (ns.map V.int) none (some 80)))) := fun b o h => upd_none hl (sm1 b o h)
  refine ⟨.ref a, rfl, a, _, rfl, .inl (sm2.seq hS), _, _, rfl, rfl, by show (4 : Nat) ≤ sizeLine; decide, fun r hr2 => ?_⟩
  have nl : H l = none := sm1.free hl
  have nr : H r = none := sm2.free hr2
  refine q _ r l (fun b o h => upd_none hr2 (sm2 b o h)) nr nl ?_ ?_ fun sz => ?_
  · rw [upd_same, List.length_map]
  · rw [upd_ne (ne_of_none upd_same hr2), upd_same, ec]
  · have h80 : (cutV (ns.map V.int) none (some 80)).length ≤ sizeLine := by
      rw [ec, List.length_map]
      exact Nat.le_trans hlen (by decide)
    exact Sz.upd (Sz.upd (Sz.upd sz (o := .lst (cutV (ns.map V.int) none (some 80))) h80) (o := .lst (cutV (ns.map V.int) none (some 80))) h80) (by show (4 : Nat) ≤ sizeLine; decide)
theorem ok_take {f fL : Addr} {fd fdL : FuncData} {k : Nat} (F : Fun K "_law_take" "_law_take" s__law_take f fd) (FL : Fun K "_law_mix" "_law_mix" s__law_mix fL fdL) (bL : Binds K fdL ["number"] []) (gL : mg "_law_mix" = some (.ref fL)) (ml : mg "len" = none) (mi : mg "int" = none) :
    FnOk P w K mg base CX0 (k + 2) f fd ["tape", "many"] (spF K 2 m_take) := by
  have GL : FnOk P w K mg base CX0 (k + 1) fL fdL ["number"] spMix := ok_mix FL mi
  refine F.ok sc__law_take (fun vs H Q E h => h.1) (fun cdv A outer s H vs Q E hr h => ?_)
  obtain ⟨hl, W, Z, ds, st, d, st', zh, sz, bx, rl, hm, q⟩ := h
  match ds, hm with
  | [.box, .int many], hm =>
    cases rl with
    | cons r1 rl =>
    cases rl with
    | cons r2 rl =>
    cases rl
    cases r1
    cases r2
    have hm' : (if h : 0 < many ∧ many < 1073741824 then some (Sn.D.int (takeT st many h.1).1, (takeT st many h.1).2) else none) = some (d, st') := hm
    split at hm'
    · rename_i hc
      cases hm'
      obtain ⟨hβ, hγ⟩ := bx
      have hne : W.β ≠ W.γ := ne_of hβ hγ (by intro e; cases h : st.cells <;> rw [h] at e <;> cases e)
      -- the end, from any tape
      obtain ⟨tR, hR, qR⟩ : ∃ t, PSs (cxOf CX0 P w K mg base ["tape", "many", "cell", "digit"] "_law_take" (defScope s__law_take) f cdv A outer s H E).nox ((defBody s__law_take).drop 1) t ∧
          ∀ (H1 : Hp) (a1 : Nat) (v1 m1 : Int) (o2 : Option V) (st2 : Tp) (dg : Int), Else2 H H1 W.β W.γ → H1 W.β = some (.lst [.ref W.γ, .int (a1 : Int), .int v1, .int m1]) → H1 W.γ = some (.lst (st.cells.map V.int)) → dg = v1 % many → st2.cells = st.cells → st2.at' = a1 → st2.val = v1 / many → st2.mix = m1 → takeT st many hc.1 = (dg, st2) → Sz H1 →
            t { nx := fun _ H' => Q .non H', rt := Q } [some (.ref W.β), some (.int many), o2, none] H1 := by
        refine ⟨_, pss_cons (ps_set (i := 3) sc__law_take.nd rfl (.inl rfl) (pe_op op_mod (pe_callTy call_int1 (by rfl) mi (by decide +kernel) (pa_cons (pe_ix ix_list (pv 0) pe_int (fun _ _ => rfl)) pa_nil)) (pv 1)))
          (pss_cons (ps_asg (pe_op op_fdiv (pe_ix ix_list (pv 0) pe_int (fun _ _ => rfl)) (pv 1)) (pg_sub (pv 0) pe_int set_list))
          (pss_one (ps_ret (pv 3)))), ?_⟩
        intro H1 a1 v1 m1 o2 st2 dg el h1 h2 e0 e1 e2 e3 e4 et sz1
        refine ⟨.ref W.β, rfl, W.β, _, 2, .int v1, rfl, rfl, .inl (.inl h1), rfl, .inl ⟨_, rfl, .int many, rfl, _, many, rfl, rfl, hc.1, ?_⟩⟩
        refine ⟨.ref W.β, rfl, W.β, _, 2, .int v1, rfl, rfl, .inl (.inl h1), rfl, .int many, rfl, _, many, rfl, rfl, hc, ?_⟩
        refine ⟨.ref W.β, rfl, W.β, _, 2, 2, rfl, rfl, h1, rfl, ?_⟩
        refine ⟨_, rfl, ?_⟩
        rw [et] at q
        subst e0
        refine q _ Z _ ⟨Sub.refl _, fun a o h => ?_, fun a o h nb => ?_, fun a o h => .inl h, fun _ => ?_⟩ ⟨?_, ?_⟩ (.int _)
        · have n1 : a ≠ W.β := fun e => (zh a o h).2 (.inl e)
          have n2 : a ≠ W.γ := fun e => (zh a o h).2 (.inr e)
          exact ⟨by rw [upd_ne n1, el a n1 n2]; exact (zh a o h).1, (zh a o h).2⟩
        · have n1 : a ≠ W.β := fun e => nb (.inl e)
          have n2 : a ≠ W.γ := fun e => nb (.inr e)
          rw [upd_ne n1, el a n1 n2]; exact h
        · exact sz1.upd (by show (4 : Nat) ≤ sizeLine; decide)
        · rw [upd_same, e2, e3, e4]; rfl
        · rw [upd_ne hne.symm, e1]; exact h2
      refine ⟨_, pss_cons (ps_if (pt_cmpR op_lt (pe_ix ix_list (pv 0) pe_int (fun _ _ => rfl)) (pv 1) (nomark _))
          (pss_one (ps_if (pt_cmpR op_lt (pe_ix ix_list (pv 0) pe_int (fun _ _ => rfl)) (pe_callB call_len_seq (by rfl) ml PySem.boot_len (pa_cons (pe_ix ix_list (pv 0) pe_int (fun _ _ => rfl)) pa_nil)) (nomark _))
            (pss_cons (ps_set (i := 2) sc__law_take.nd rfl (.inl rfl) (pe_ix ix_list (pe_ix ix_list (pv 0) pe_int (fun _ _ => rfl)) (pe_ix ix_list (pv 0) pe_int (fun _ _ => rfl)) (fun _ _ => rfl)))
            (pss_cons (ps_set (i := 2) sc__law_take.nd rfl (.inl rfl) (pe_ifExp (pt_cmpR op_ge (pv 2) pe_int (nomark _)) (pe_op op_mul pe_int (pv 2)) (pe_op op_sub (pe_op op_mul (pe_un un_neg pe_int) (pv 2)) pe_int)))
            (pss_cons (ps_asg (pe_op op_add (pe_ix ix_list (pv 0) pe_int (fun _ _ => rfl)) pe_int) (pg_sub (pv 0) pe_int set_list))
            (pss_cons (ps_asg (pe_call GL hr (by rfl) gL FL.kp bL .nil pass0 (pa_cons (pe_op op_add (pe_ix ix_list (pv 0) pe_int (fun _ _ => rfl)) (pv 2)) pa_nil)) (pg_sub (pv 0) pe_int set_list))
            (pss_one (ps_asg (pe_ifExp (pt_cmpR op_ge (pv 2) (pe_op op_pow pe_int pe_int) (nomark _)) (pv 2) (pe_call GL hr (by rfl) gL FL.kp bL .nil pass0 (pa_cons (pe_op op_add (pe_call GL hr (by rfl) gL FL.kp bL .nil pass0 (pa_cons (pv 2) pa_nil)) (pe_ix ix_list (pv 0) pe_int (fun _ _ => rfl))) pa_nil))) (pg_sub (pv 0) pe_int set_list)))))))
            (pss_cons (ps_asg (pe_call GL hr (by rfl) gL FL.kp bL .nil pass0 (pa_cons (pe_op op_add (pe_ix ix_list (pv 0) pe_int (fun _ _ => rfl)) pe_int) pa_nil)) (pg_sub (pv 0) pe_int set_list))
            (pss_one (ps_asg (pe_ix ix_list (pv 0) pe_int (fun _ _ => rfl)) (pg_sub (pv 0) pe_int set_list))))))
          pss_nil) hR, ?_⟩
      have four : ∀ {H1 : Hp} {x : List V}, Sz H1 → x.length = 4 → Sz (upd H1 W.β (.lst x)) := fun h e => h.upd (by show _ ≤ sizeLine; rw [e]; decide)
      refine ⟨.ref W.β, rfl, W.β, _, 2, .int st.val, rfl, rfl, .inl (.inl hβ), rfl, .int many, rfl, st.val, many, rfl, rfl, _, rfl, ite2 (fun hlt => ?_) (fun hlt => ?_)⟩
      · have hlt' : st.val < many := of_decide_eq_true hlt
        refine ⟨.ref W.β, rfl, W.β, _, 1, .int (st.at' : Int), rfl, rfl, .inl (.inl hβ), rfl, .ref W.β, rfl, W.β, _, 0, .ref W.γ, rfl, rfl, .inl (.inl hβ), rfl, W.γ, st.cells.map V.int, rfl, .inl (.inl (.inl hγ)), _, _, rfl, rfl, _, rfl, ite2 (fun hc1 => ?_) (fun hc1 => ?_)⟩
        · have hc2 : (st.at' : Int) < ((st.cells.map V.int).length : Int) := of_decide_eq_true hc1
          rw [List.length_map] at hc2
          have hlt2 : st.at' < st.cells.length := by omega
          obtain ⟨c, ec⟩ : ∃ c, st.cells[st.at']? = some c := ⟨_, List.getElem?_eq_getElem hlt2⟩
          have hget : atI (st.cells.map V.int) (st.at' : Int) = some (.int c) := by
            rw [atI_map, atI_ok (by omega) (by omega)]
            rw [List.getElem?_eq_getElem hlt2] at ec
            have e2 := Option.some.inj ec
            rw [← e2]
            rfl
          refine ⟨.ref W.β, rfl, W.β, _, 0, .ref W.γ, rfl, rfl, .inl (.inl hβ), rfl, .ref W.β, rfl, W.β, _, 1, .int (st.at' : Int), rfl, rfl, .inl (.inl hβ), rfl, W.γ, st.cells.map V.int, (st.at' : Int), .int c, rfl, rfl, .inl (.inl hγ), hget, ?_⟩
          refine ⟨.int c, rfl, c, 0, rfl, rfl, _, rfl, ite2 (fun h0 => ?_) (fun h0 => ?_)⟩
          · have h0' : (0 : Int) ≤ c := of_decide_eq_true h0
            refine ⟨.int c, rfl, 2, c, rfl, rfl, .inl (by decide), ?_⟩
            obtain ⟨z, hz⟩ : ∃ z, z = 2 * c := ⟨_, rfl⟩
            dsimp only
            rw [← hz]
            have ez : z = bxSize c := by rw [hz]; unfold bxSize; rw [if_pos h0']
            have nz : 0 ≤ z := by rw [ez]; exact bxSize_nn c
            refine ⟨.ref W.β, rfl, W.β, _, 1, .int (st.at' : Int), rfl, rfl, .inl (.inl hβ), rfl, (st.at' : Int), 1, rfl, rfl, ?_⟩
            refine ⟨.ref W.β, rfl, W.β, _, 1, 1, rfl, rfl, hβ, rfl, ?_⟩
            refine ⟨.ref W.β, rfl, W.β, _, 3, .int st.mix, rfl, rfl, .inl (.inl upd_same), rfl, .int z, rfl, st.mix, z, rfl, rfl, _, rfl, ?_⟩
            refine ⟨.ref W.β, rfl, W.β, _, 3, 3, rfl, rfl, upd_same, rfl, ?_⟩
            refine ⟨.int z, rfl, 10, 18, rfl, rfl, ⟨by decide, by decide, by decide⟩, z, _, rfl, rfl, _, rfl, ite2 (fun hb => ?_) (fun hb => ?_)⟩
            · have hb' : (1000000000000000000 : Int) ≤ z := of_decide_eq_true hb
              have elz : tpLoad st.cells st.at' st.mix = (st.at' + 1, z, mixI (st.mix + z)) := by unfold tpLoad; rw [ec]; simp only; rw [← ez, if_pos hb']
              refine ⟨.int z, rfl, .ref W.β, rfl, W.β, _, 2, 2, rfl, rfl, upd_same, rfl, ?_⟩
              refine qR _ (st.at' + 1) z (mixI (st.mix + z)) _ ⟨st.cells, st.at' + 1, z / many, mixI (st.mix + z), Int.ediv_nonneg nz (Int.le_of_lt hc.1)⟩ _ (fun a n1 n2 => by rw [upd_ne n1, upd_ne n1, upd_ne n1]) (by rw [upd_same]; rfl) (by rw [upd_ne hne.symm, upd_ne hne.symm, upd_ne hne.symm]; exact hγ) rfl rfl rfl rfl rfl ?_ (four (four (four sz rfl) rfl) rfl)
              unfold takeT
              rw [if_pos hlt']
              congr 1
              · rw [elz]
              · simp only [elz]
            · have hb' : ¬ (1000000000000000000 : Int) ≤ z := fun h => hb (decide_eq_true h)
              have elz : tpLoad st.cells st.at' st.mix = (st.at' + 1, mixI (mixI z + ((st.at' + 1 : Nat) : Int)), mixI (st.mix + z)) := by unfold tpLoad; rw [ec]; simp only; rw [← ez, if_neg hb']
              refine ⟨.int z, rfl, z, rfl, .ref W.β, rfl, W.β, _, 1, .int ((st.at' : Int) + 1), rfl, rfl, .inl (.inl upd_same), rfl, mixI z, (st.at' : Int) + 1, rfl, rfl, _, rfl, ?_⟩
              refine ⟨.ref W.β, rfl, W.β, _, 2, 2, rfl, rfl, upd_same, rfl, ?_⟩
              refine qR _ (st.at' + 1) (mixI (mixI z + ((st.at' + 1 : Nat) : Int))) (mixI (st.mix + z)) _ ⟨st.cells, st.at' + 1, mixI (mixI z + ((st.at' + 1 : Nat) : Int)) / many, mixI (st.mix + z), Int.ediv_nonneg (mixI_nn _) (Int.le_of_lt hc.1)⟩ _ (fun a n1 n2 => by rw [upd_ne n1, upd_ne n1, upd_ne n1]) (by rw [upd_same]; rfl) (by rw [upd_ne hne.symm, upd_ne hne.symm, upd_ne hne.symm]; exact hγ) rfl rfl rfl rfl rfl ?_ (four (four (four sz rfl) rfl) rfl)
              unfold takeT
              rw [if_pos hlt']
              congr 1
              · rw [elz]
              · simp only [elz]
          · have h0' : ¬ (0 : Int) ≤ c := fun h => h0 (decide_eq_true h)
            refine ⟨2, rfl, .int c, rfl, -2, c, rfl, rfl, .inl (by decide), _, 1, rfl, rfl, ?_⟩
            obtain ⟨z, hz⟩ : ∃ z, z = -2 * c - 1 := ⟨_, rfl⟩
            dsimp only
            rw [← hz]
            have ez : z = bxSize c := by rw [hz]; unfold bxSize; rw [if_neg h0']
            have nz : 0 ≤ z := by rw [ez]; exact bxSize_nn c
            refine ⟨.ref W.β, rfl, W.β, _, 1, .int (st.at' : Int), rfl, rfl, .inl (.inl hβ), rfl, (st.at' : Int), 1, rfl, rfl, ?_⟩
            refine ⟨.ref W.β, rfl, W.β, _, 1, 1, rfl, rfl, hβ, rfl, ?_⟩
            refine ⟨.ref W.β, rfl, W.β, _, 3, .int st.mix, rfl, rfl, .inl (.inl upd_same), rfl, .int z, rfl, st.mix, z, rfl, rfl, _, rfl, ?_⟩
            refine ⟨.ref W.β, rfl, W.β, _, 3, 3, rfl, rfl, upd_same, rfl, ?_⟩
            refine ⟨.int z, rfl, 10, 18, rfl, rfl, ⟨by decide, by decide, by decide⟩, z, _, rfl, rfl, _, rfl, ite2 (fun hb => ?_) (fun hb => ?_)⟩
            · have hb' : (1000000000000000000 : Int) ≤ z := of_decide_eq_true hb
              have elz : tpLoad st.cells st.at' st.mix = (st.at' + 1, z, mixI (st.mix + z)) := by unfold tpLoad; rw [ec]; simp only; rw [← ez, if_pos hb']
              refine ⟨.int z, rfl, .ref W.β, rfl, W.β, _, 2, 2, rfl, rfl, upd_same, rfl, ?_⟩
              refine qR _ (st.at' + 1) z (mixI (st.mix + z)) _ ⟨st.cells, st.at' + 1, z / many, mixI (st.mix + z), Int.ediv_nonneg nz (Int.le_of_lt hc.1)⟩ _ (fun a n1 n2 => by rw [upd_ne n1, upd_ne n1, upd_ne n1]) (by rw [upd_same]; rfl) (by rw [upd_ne hne.symm, upd_ne hne.symm, upd_ne hne.symm]; exact hγ) rfl rfl rfl rfl rfl ?_ (four (four (four sz rfl) rfl) rfl)
              unfold takeT
              rw [if_pos hlt']
              congr 1
              · rw [elz]
              · simp only [elz]
            · have hb' : ¬ (1000000000000000000 : Int) ≤ z := fun h => hb (decide_eq_true h)
              have elz : tpLoad st.cells st.at' st.mix = (st.at' + 1, mixI (mixI z + ((st.at' + 1 : Nat) : Int)), mixI (st.mix + z)) := by unfold tpLoad; rw [ec]; simp only; rw [← ez, if_neg hb']
              refine ⟨.int z, rfl, z, rfl, .ref W.β, rfl, W.β, _, 1, .int ((st.at' : Int) + 1), rfl, rfl, .inl (.inl upd_same), rfl, mixI z, (st.at' : Int) + 1, rfl, rfl, _, rfl, ?_⟩
              refine ⟨.ref W.β, rfl, W.β, _, 2, 2, rfl, rfl, upd_same, rfl, ?_⟩
              refine qR _ (st.at' + 1) (mixI (mixI z + ((st.at' + 1 : Nat) : Int))) (mixI (st.mix + z)) _ ⟨st.cells, st.at' + 1, mixI (mixI z + ((st.at' + 1 : Nat) : Int)) / many, mixI (st.mix + z), Int.ediv_nonneg (mixI_nn _) (Int.le_of_lt hc.1)⟩ _ (fun a n1 n2 => by rw [upd_ne n1, upd_ne n1, upd_ne n1]) (by rw [upd_same]; rfl) (by rw [upd_ne hne.symm, upd_ne hne.symm, upd_ne hne.symm]; exact hγ) rfl rfl rfl rfl rfl ?_ (four (four (four sz rfl) rfl) rfl)
              unfold takeT
              rw [if_pos hlt']
              congr 1
              · rw [elz]
              · simp only [elz]
        · have hc2 : ¬ (st.at' : Int) < ((st.cells.map V.int).length : Int) := fun h => hc1 (decide_eq_true h)
          rw [List.length_map] at hc2
          have ec : st.cells[st.at']? = none := List.getElem?_eq_none (by omega)
          have el : tpLoad st.cells st.at' st.mix = (st.at', mixI (st.mix + 1), mixI (st.mix + 1)) := by unfold tpLoad; rw [ec]
          refine ⟨.ref W.β, rfl, W.β, _, 3, .int st.mix, rfl, rfl, .inl (.inl hβ), rfl, st.mix, 1, rfl, rfl, _, rfl, ?_⟩
          refine ⟨.ref W.β, rfl, W.β, _, 3, 3, rfl, rfl, hβ, rfl, ?_⟩
          refine ⟨.ref W.β, rfl, W.β, _, 3, .int (mixI (st.mix + 1)), rfl, rfl, .inl (.inl upd_same), rfl, ?_⟩
          refine ⟨.ref W.β, rfl, W.β, _, 2, 2, rfl, rfl, upd_same, rfl, ?_⟩
          refine qR _ st.at' (mixI (st.mix + 1)) (mixI (st.mix + 1)) _ ⟨st.cells, st.at', mixI (st.mix + 1) / many, mixI (st.mix + 1), Int.ediv_nonneg (mixI_nn _) (Int.le_of_lt hc.1)⟩ _ (fun a n1 n2 => by rw [upd_ne n1, upd_ne n1]) upd_same (by rw [upd_ne hne.symm, upd_ne hne.symm]; exact hγ) rfl rfl rfl rfl rfl ?_ (four (four sz rfl) rfl)
          unfold takeT
          rw [if_pos hlt']
          congr 1
          · rw [el]
          · simp only [el]
      · have hlt' : ¬ st.val < many := fun h => hlt (decide_eq_true h)
        refine qR H st.at' st.val st.mix _ ⟨st.cells, st.at', st.val / many, st.mix, Int.ediv_nonneg st.hv (Int.le_of_lt hc.1)⟩ _ (fun _ _ _ => rfl) hβ hγ rfl rfl rfl rfl rfl ?_ sz
        unfold takeT
        rw [if_neg hlt']
    · cases hm'
end
end Lw

namespace Lw
open PySem PySem.Spec PyProof.Rows L2 Sn
noncomputable section
variable {P : Program} {w : World} {K : PySem.W.Frag} {mg : Str → Option Value} {base : Heap}
abbrev s_is_number : Stmt := topS 1
theorem sc_is_number : FnScope ["value", "least", "most"] ["value", "least", "most"] (defScope s_is_number) := ⟨rfl, rfl, rfl, by decide +kernel, rfl, by decide +kernel, by decide +kernel⟩
abbrev CC_is_number (P : Program) (w : World) (K : PySem.W.Frag) (mg : Str → Option Value) (base : Heap) (k : Nat) : Stat := ⟨⟨P, w, K, mg, base⟩, ["value", "least", "most"], defScope s_is_number, k, fun _ => true⟩
def b_is_number (value_1 : D) (least_2 : D) (most_3 : D) : M Tp (Fl Unit Unit) :=
  (retF (andM (isiM "int" (ret value_1)) (andM (notM (isiM "bool" (ret value_1))) (chainM leD leD (ret least_2) (ret value_1) (ret most_3)))))
def mb_is_number : List D → M Tp (Fl Unit Unit)
  | [value_1, least_2, most_3] => b_is_number value_1 least_2 most_3
  | _ => stuck
def m_is_number (ds : List D) : M Tp D := bnd (mb_is_number ds) endF
set_option maxHeartbeats 0 in
theorem h_is_number {f : Addr} {fd : FuncData} (F : Fun K "is_number" "is_number" s_is_number f fd) (g : mg "is_number" = some (.ref f)) (z_bool : mg "bool" = none) (z_int : mg "int" = none) (z_isinstance : mg "isinstance" = none) : HasF (S := Tp) ⟨P, w, K, mg, base⟩ 1 "is_number" 3 m_is_number :=
  hasF_mk g F sc_is_number (F.binds fun _ _ _ _ _ _ us hl => match us, hl with | [_, _, _], _ => rfl) rfl fun ds hl => match ds, hl with
    | [value_1, least_2, most_3], _ =>
      (OkB.ret (Ok.and (Ok.view (Ok.isinst (T := "int") (Ok.view (Ok.var (i := 0) rfl (.inl rfl) rfl)) rfl z_isinstance rfl z_int (by decide +kernel))) (Ok.and (Ok.view (Ok.not (Ok.view (Ok.isinst (T := "bool") (Ok.view (Ok.var (i := 0) rfl (.inl rfl) rfl)) rfl z_isinstance rfl z_bool (by decide +kernel))))) (Ok.one (Ok.frz (Ok.chain o_le o_le (Ok.view (Ok.var (i := 1) rfl (.inl rfl) rfl)) (Ok.view (Ok.var (i := 0) rfl (.inl rfl) rfl)) (Ok.view (Ok.var (i := 2) rfl (.inl rfl) rfl))))))))
abbrev s_is_tile : Stmt := topS 5
theorem sc_is_tile : FnScope ["value", "part"] ["value"] (defScope s_is_tile) := ⟨rfl, rfl, rfl, by decide +kernel, rfl, by decide +kernel, by decide +kernel⟩
abbrev CC_is_tile (P : Program) (w : World) (K : PySem.W.Frag) (mg : Str → Option Value) (base : Heap) (k : Nat) : Stat := ⟨⟨P, w, K, mg, base⟩, ["value", "part"], defScope s_is_tile, k, fun _ => true⟩
def b_is_tile (value_4 : D) : M Tp (Fl Unit Unit) :=
  (retF (andM (isiM "tuple" (ret value_4)) (andM (op2M eqD (bcM lenD (consM (ret value_4) (ret []))) (ret (.int 4))) (bcM allD (consM (compM (itM (ret value_4)) fun part_5 => (eltM (ret true) (bnd (consM (ret part_5) (consM (ret (.int 0)) (consM (ret (.int 9)) (ret [])))) m_is_number))) (ret []))))))
def mb_is_tile : List D → M Tp (Fl Unit Unit)
  | [value_4] => b_is_tile value_4
  | _ => stuck
def m_is_tile (ds : List D) : M Tp D := bnd (mb_is_tile ds) endF
set_option maxHeartbeats 0 in
theorem h_is_tile {f : Addr} {fd : FuncData} (F : Fun K "is_tile" "is_tile" s_is_tile f fd) (g : mg "is_tile" = some (.ref f)) (z_all : mg "all" = none) (z_isinstance : mg "isinstance" = none) (z_len : mg "len" = none) (z_tuple : mg "tuple" = none) {t_GREATEST_SIGN : Tok} (c_GREATEST_SIGN : mg "GREATEST_SIGN" = some (.int 9 t_GREATEST_SIGN)) (h_is_number : HasF (S := Tp) ⟨P, w, K, mg, base⟩ 1 "is_number" 3 m_is_number) : HasF (S := Tp) ⟨P, w, K, mg, base⟩ 2 "is_tile" 1 m_is_tile :=
  hasF_mk g F sc_is_tile (F.binds fun _ _ _ _ _ _ us hl => match us, hl with | [_], _ => rfl) rfl fun ds hl => match ds, hl with
    | [value_4], _ =>
      (OkB.ret (Ok.and (Ok.view (Ok.isinst (T := "tuple") (Ok.view (Ok.var (i := 0) rfl (.inl rfl) rfl)) rfl z_isinstance rfl z_tuple (by decide +kernel))) (Ok.and (Ok.view (Ok.cmp o_eq (Ok.view (Ok.bfun o_len (by decide +kernel) rfl z_len (Ok.cons (Ok.view (Ok.var (i := 0) rfl (.inl rfl) rfl)) Ok.nil))) (Ok.view Ok.int))) (Ok.one (Ok.frz (Ok.bfun o_all (by decide +kernel) rfl z_all (Ok.cons (Ok.view (OkC.n (Ok.lc [("part", 1)] (OkI.val (Ok.var (i := 0) rfl (.inl rfl) rfl) (fun h => by first | rfl | cases h)) fun part_5 => (BindOk.name (i := 1) rfl (.inl rfl) (.inr rfl) (BindOk.nil ⟨_, _, OkTs.nil, (Ok.call h_is_number (Nat.le_of_ble_eq_true rfl) rfl (Ok.cons (Ok.var (i := 1) rfl (.inl rfl) rfl) (Ok.cons Ok.int (Ok.cons (Ok.cint rfl c_GREATEST_SIGN) Ok.nil)))), rfl⟩))))) Ok.nil)))))))
abbrev s_are_tiles : Stmt := topS 6
theorem sc_are_tiles : FnScope ["value", "tile"] ["value"] (defScope s_are_tiles) := ⟨rfl, rfl, rfl, by decide +kernel, rfl, by decide +kernel, by decide +kernel⟩
abbrev CC_are_tiles (P : Program) (w : World) (K : PySem.W.Frag) (mg : Str → Option Value) (base : Heap) (k : Nat) : Stat := ⟨⟨P, w, K, mg, base⟩, ["value", "tile"], defScope s_are_tiles, k, fun _ => true⟩
def b_are_tiles (value_6 : D) : M Tp (Fl Unit Unit) :=
  (retF (andM (isiM "tuple" (ret value_6)) (andM (chainM leD leD (ret (.int 1)) (bcM lenD (consM (ret value_6) (ret []))) (ret (.int 9))) (bcM allD (consM (compM (itM (ret value_6)) fun tile_7 => (eltM (ret true) (bnd (consM (ret tile_7) (ret [])) m_is_tile))) (ret []))))))
def mb_are_tiles : List D → M Tp (Fl Unit Unit)
  | [value_6] => b_are_tiles value_6
  | _ => stuck
def m_are_tiles (ds : List D) : M Tp D := bnd (mb_are_tiles ds) endF
set_option maxHeartbeats 0 in
theorem h_are_tiles {f : Addr} {fd : FuncData} (F : Fun K "are_tiles" "are_tiles" s_are_tiles f fd) (g : mg "are_tiles" = some (.ref f)) (z_all : mg "all" = none) (z_isinstance : mg "isinstance" = none) (z_len : mg "len" = none) (z_tuple : mg "tuple" = none) {t_MOST_TILES : Tok} (c_MOST_TILES : mg "MOST_TILES" = some (.int 9 t_MOST_TILES)) (h_is_tile : HasF (S := Tp) ⟨P, w, K, mg, base⟩ 2 "is_tile" 1 m_is_tile) : HasF (S := Tp) ⟨P, w, K, mg, base⟩ 3 "are_tiles" 1 m_are_tiles :=
  hasF_mk g F sc_are_tiles (F.binds fun _ _ _ _ _ _ us hl => match us, hl with | [_], _ => rfl) rfl fun ds hl => match ds, hl with
    | [value_6], _ =>
      (OkB.ret (Ok.and (Ok.view (Ok.isinst (T := "tuple") (Ok.view (Ok.var (i := 0) rfl (.inl rfl) rfl)) rfl z_isinstance rfl z_tuple (by decide +kernel))) (Ok.and (Ok.view (Ok.chain o_le o_le (Ok.view Ok.int) (Ok.view (Ok.bfun o_len (by decide +kernel) rfl z_len (Ok.cons (Ok.view (Ok.var (i := 0) rfl (.inl rfl) rfl)) Ok.nil))) (Ok.view (Ok.cint rfl c_MOST_TILES)))) (Ok.one (Ok.frz (Ok.bfun o_all (by decide +kernel) rfl z_all (Ok.cons (Ok.view (OkC.n (Ok.lc [("tile", 1)] (OkI.val (Ok.var (i := 0) rfl (.inl rfl) rfl) (fun h => by first | rfl | cases h)) fun tile_7 => (BindOk.name (i := 1) rfl (.inl rfl) (.inr rfl) (BindOk.nil ⟨_, _, OkTs.nil, (Ok.call h_is_tile (Nat.le_of_ble_eq_true rfl) rfl (Ok.cons (Ok.var (i := 1) rfl (.inl rfl) rfl) Ok.nil)), rfl⟩))))) Ok.nil)))))))
abbrev s_fits_behind : Stmt := topS 7
theorem sc_fits_behind : FnScope ["tiles", "size", "row", "k", "at", "columns"] ["tiles", "size", "row", "k"] (defScope s_fits_behind) := ⟨rfl, rfl, rfl, by decide +kernel, rfl, by decide +kernel, by decide +kernel⟩
abbrev CC_fits_behind (P : Program) (w : World) (K : PySem.W.Frag) (mg : Str → Option Value) (base : Heap) (k : Nat) : Stat := ⟨⟨P, w, K, mg, base⟩, ["tiles", "size", "row", "k", "at", "columns"], defScope s_fits_behind, k, fun _ => true⟩
def b_fits_behind (tiles_8 : D) (size_9 : D) (row_10 : D) (k_11 : D) : M Tp (Fl Unit Unit) :=
  (parM .E .E (bcM lenD (consM (ret row_10) (ret []))) (ixM (ret size_9) (ret (.int 1))) fun at_12 columns_13 => (iteF (andT (valT (op2M modD (ret at_12) (ret columns_13))) (cmpT neD (ixM (ixM (ret tiles_8) (ixM (ret row_10) (negM (ret (.int 1))))) (ret (.int 1))) (ixM (ixM (ret tiles_8) (ret k_11)) (ret (.int 3))))) (retF (ret (.bl false))) (ret (.nx ())) fun (s_14 : Unit) => (retF (orM (op2M ltD (ret at_12) (ret columns_13)) (op2M eqD (ixM (ixM (ret tiles_8) (ixM (ret row_10) (op2M subD (ret at_12) (ret columns_13)))) (ret (.int 2))) (ixM (ixM (ret tiles_8) (ret k_11)) (ret (.int 0))))))))
def mb_fits_behind : List D → M Tp (Fl Unit Unit)
  | [tiles_8, size_9, row_10, k_11] => b_fits_behind tiles_8 size_9 row_10 k_11
  | _ => stuck
def m_fits_behind (ds : List D) : M Tp D := bnd (mb_fits_behind ds) endF
set_option maxHeartbeats 0 in
theorem h_fits_behind {f : Addr} {fd : FuncData} (F : Fun K "fits_behind" "fits_behind" s_fits_behind f fd) (g : mg "fits_behind" = some (.ref f)) (z_len : mg "len" = none) : HasF (S := Tp) ⟨P, w, K, mg, base⟩ 1 "fits_behind" 4 m_fits_behind :=
  hasF_mk g F sc_fits_behind (F.binds fun _ _ _ _ _ _ us hl => match us, hl with | [_, _, _, _], _ => rfl) rfl fun ds hl => match ds, hl with
    | [tiles_8, size_9, row_10, k_11], _ =>
      (OkB.par2 (C := CC_fits_behind P w K mg base 0) (i := 4) (j := 5) rfl rfl (by decide) rfl rfl rfl (Ok.frz (Ok.bfun o_len (by decide +kernel) rfl z_len (Ok.cons (Ok.view (Ok.var (i := 2) rfl (.inl rfl) rfl)) Ok.nil))) (Ok.ix (Ok.view (Ok.var (i := 1) rfl (.inl rfl) rfl)) (Ok.view Ok.int)) (.inl rfl) (.inl rfl) fun at_12 columns_13 => (OkB.ite (C := CC_fits_behind P w K mg base 0) (Γj := fun (s_14 : Unit) => [some (.frz tiles_8), none, some (.frz row_10), some (.frz k_11), some (.frz at_12), some (.frz columns_13)]) (OkW.pt (OkW.and (OkT.val (Ok.view (Ok.op o_mod (Ok.view (Ok.var (i := 4) rfl (.inl rfl) rfl)) (Ok.view (Ok.var (i := 5) rfl (.inl rfl) rfl))))) (OkW.and1 (OkT.cmp o_ne (Ok.view (Ok.ix (Ok.view (Ok.ix (Ok.view (Ok.var (i := 0) rfl (.inl rfl) rfl)) (Ok.view (Ok.ix (Ok.view (Ok.var (i := 2) rfl (.inl rfl) rfl)) (Ok.view (Ok.neg' (Ok.view Ok.int))))))) (Ok.view Ok.int))) (Ok.view (Ok.ix (Ok.view (Ok.ix (Ok.view (Ok.var (i := 0) rfl (.inl rfl) rfl)) (Ok.view (Ok.var (i := 3) rfl (.inl rfl) rfl)))) (Ok.view Ok.int))))))) (OkB.ret Ok.bl) (OkB.nil (s := ()) (wk_mask (bs := [true, false, true, true, true, true]))) fun s_14 => (OkB.ret (Ok.or (Ok.view (Ok.cmp o_lt (Ok.view (Ok.var (i := 4) rfl (.inl rfl) rfl)) (Ok.view (Ok.var (i := 5) rfl (.inl rfl) rfl)))) (Ok.one (Ok.frz (Ok.cmp o_eq (Ok.view (Ok.ix (Ok.view (Ok.ix (Ok.view (Ok.var (i := 0) rfl (.inl rfl) rfl)) (Ok.view (Ok.ix (Ok.view (Ok.var (i := 2) rfl (.inl rfl) rfl)) (Ok.view (Ok.op o_sub (Ok.view (Ok.var (i := 4) rfl (.inl rfl) rfl)) (Ok.view (Ok.var (i := 5) rfl (.inl rfl) rfl)))))))) (Ok.view Ok.int))) (Ok.view (Ok.ix (Ok.view (Ok.ix (Ok.view (Ok.var (i := 0) rfl (.inl rfl) rfl)) (Ok.view (Ok.var (i := 3) rfl (.inl rfl) rfl)))) (Ok.view Ok.int))))))))))
abbrev s_is_laying : Stmt := topS 8
theorem sc_is_laying : FnScope ["tiles", "size", "value", "k", "at"] ["tiles", "size", "value"] (defScope s_is_laying) := ⟨rfl, rfl, rfl, by decide +kernel, rfl, by decide +kernel, by decide +kernel⟩
abbrev CC_is_laying (P : Program) (w : World) (K : PySem.W.Frag) (mg : Str → Option Value) (base : Heap) (k : Nat) : Stat := ⟨⟨P, w, K, mg, base⟩, ["tiles", "size", "value", "k", "at"], defScope s_is_laying, k, fun _ => true⟩
def b_is_laying (tiles_15 : D) (size_16 : D) (value_17 : D) : M Tp (Fl Unit Unit) :=
  (iteF (orT (notT (valT (isiM "tuple" (ret value_17)))) (notT (valT (bcM allD (consM (compM (itM (ret value_17)) fun k_18 => (eltM (ret true) (bnd (consM (ret k_18) (consM (ret (.int 0)) (consM (op2M subD (bcM lenD (consM (ret tiles_15) (ret []))) (ret (.int 1))) (ret [])))) m_is_number))) (ret [])))))) (retF (ret (.bl false))) (ret (.nx ())) fun (s_19 : Unit) => (iteF (cmpT neD (bcM sorted3D (consM (ret value_17) (ret []))) (rg1M lrgD (bcM lenD (consM (ret tiles_15) (ret []))))) (retF (ret (.bl false))) (ret (.nx ())) fun (s_20 : Unit) => (retF (bcM allD (consM (compM (rng1M (bcM lenD (consM (ret value_17) (ret [])))) fun at_21 => (eltM (ret true) (bnd (consM (ret tiles_15) (consM (ret size_16) (consM (slM (ret value_17) (ret none) (ptM (ret at_21))) (consM (ixM (ret value_17) (ret at_21)) (ret []))))) m_fits_behind))) (ret []))))))
def mb_is_laying : List D → M Tp (Fl Unit Unit)
  | [tiles_15, size_16, value_17] => b_is_laying tiles_15 size_16 value_17
  | _ => stuck
def m_is_laying (ds : List D) : M Tp D := bnd (mb_is_laying ds) endF
set_option maxHeartbeats 0 in
theorem h_is_laying {f : Addr} {fd : FuncData} (F : Fun K "is_laying" "is_laying" s_is_laying f fd) (g : mg "is_laying" = some (.ref f)) (z_all : mg "all" = none) (z_isinstance : mg "isinstance" = none) (z_len : mg "len" = none) (z_list : mg "list" = none) (z_range : mg "range" = none) (z_sorted : mg "sorted" = none) (z_tuple : mg "tuple" = none) (h_is_number : HasF (S := Tp) ⟨P, w, K, mg, base⟩ 1 "is_number" 3 m_is_number) (h_fits_behind : HasF (S := Tp) ⟨P, w, K, mg, base⟩ 1 "fits_behind" 4 m_fits_behind) : HasF (S := Tp) ⟨P, w, K, mg, base⟩ 2 "is_laying" 3 m_is_laying :=
  hasF_mk g F sc_is_laying (F.binds fun _ _ _ _ _ _ us hl => match us, hl with | [_, _, _], _ => rfl) rfl fun ds hl => match ds, hl with
    | [tiles_15, size_16, value_17], _ =>
      (OkB.ite (C := CC_is_laying P w K mg base 1) (Γj := fun (s_19 : Unit) => [some (.frz tiles_15), some (.frz size_16), some (.frz value_17), none, none]) (OkW.pt (OkW.or (OkT.not (OkT.val (Ok.view (Ok.isinst (T := "tuple") (Ok.view (Ok.var (i := 2) rfl (.inr (.inl rfl)) rfl)) rfl z_isinstance rfl z_tuple (by decide +kernel))))) (OkW.or1 (OkT.not (OkT.val (Ok.view (Ok.bfun o_all (by decide +kernel) rfl z_all (Ok.cons (Ok.view (OkC.n (Ok.lc [("k", 3)] (OkI.val (Ok.var (i := 2) rfl (.inr (.inl rfl)) rfl) (fun h => by first | rfl | cases h)) fun k_18 => (BindOk.name (i := 3) rfl (.inl rfl) (.inr rfl) (BindOk.nil ⟨_, _, OkTs.nil, (Ok.call h_is_number (Nat.le_of_ble_eq_true rfl) rfl (Ok.cons (Ok.var (i := 3) rfl (.inl rfl) rfl) (Ok.cons Ok.int (Ok.cons (Ok.frz (Ok.op o_sub (Ok.view (Ok.bfun o_len (by decide +kernel) rfl z_len (Ok.cons (Ok.view (Ok.var (i := 0) rfl (.inr (.inl rfl)) rfl)) Ok.nil))) (Ok.view Ok.int))) Ok.nil)))), rfl⟩))))) Ok.nil)))))))) (OkB.ret Ok.bl) (OkB.nil (s := ()) (wk_mask (bs := [true, true, true, false, false]))) fun s_19 => (OkB.ite (C := CC_is_laying P w K mg base 1) (Γj := fun (s_20 : Unit) => [some (.frz tiles_15), some (.frz size_16), some (.frz value_17), none, none]) (OkT.cmp o_ne (Ok.view (Ok.bfun o_sorted3 (by decide +kernel) rfl z_sorted (Ok.cons (Ok.view (Ok.var (i := 2) rfl (.inr (.inl rfl)) rfl)) Ok.nil))) (Ok.view (Ok.lrg1 (Ok.view (Ok.bfun o_len (by decide +kernel) rfl z_len (Ok.cons (Ok.view (Ok.var (i := 0) rfl (.inr (.inl rfl)) rfl)) Ok.nil))) rfl z_list rfl z_range))) (OkB.ret Ok.bl) (OkB.nil (s := ()) (wk_mask (bs := [true, true, true, false, false]))) fun s_20 => (OkB.ret (Ok.frz (Ok.bfun o_all (by decide +kernel) rfl z_all (Ok.cons (Ok.view (OkC.n (Ok.lc [("at", 4)] (OkI.range1 (Ok.view (Ok.bfun o_len (by decide +kernel) rfl z_len (Ok.cons (Ok.view (Ok.var (i := 2) rfl (.inr (.inl rfl)) rfl)) Ok.nil))) rfl z_range) fun at_21 => (BindOk.name (i := 4) rfl (.inl rfl) (.inr rfl) (BindOk.nil ⟨_, _, OkTs.nil, (Ok.call h_fits_behind (Nat.le_of_ble_eq_true rfl) rfl (Ok.cons (Ok.var (i := 0) rfl (.inr (.inl rfl)) rfl) (Ok.cons (Ok.var (i := 1) rfl (.inr (.inl rfl)) rfl) (Ok.cons (Ok.frz (Ok.sl (Ok.view (Ok.var (i := 2) rfl (.inr (.inl rfl)) rfl)) OkO.none (OkO.some (Ok.view (Ok.var (i := 4) rfl (.inl rfl) rfl))))) (Ok.cons (Ok.ix (Ok.view (Ok.var (i := 2) rfl (.inr (.inl rfl)) rfl)) (Ok.view (Ok.var (i := 4) rfl (.inl rfl) rfl))) Ok.nil))))), rfl⟩))))) Ok.nil))))))
abbrev s_all_layings : Stmt := topS 9
theorem sc_all_layings : FnScope ["tiles", "size", "rows", "_", "later", "row", "free", "k"] ["tiles", "size"] (defScope s_all_layings) := ⟨rfl, rfl, rfl, by decide +kernel, rfl, by decide +kernel, by decide +kernel⟩
abbrev CC_all_layings (P : Program) (w : World) (K : PySem.W.Frag) (mg : Str → Option Value) (base : Heap) (k : Nat) : Stat := ⟨⟨P, w, K, mg, base⟩, ["tiles", "size", "rows", "_", "later", "row", "free", "k"], defScope s_all_layings, k, fun _ => true⟩
def b_all_layings (tiles_22 : D) (size_23 : D) : M Tp (Fl Unit Unit) :=
  (bnd (lstM (consM (tupM (ret [])) (ret []))) fun rows_24 => (forM' (itM (ret tiles_22)) (fun (s_25 : D) u_26 => (ownM (lstM (ret [])) fun later_27 => (forM' (itM (ret s_25)) (fun (s_28 : D) row_29 => (bnd (compM (rng1M (bcM lenD (consM (ret tiles_22) (ret [])))) fun k_33 => (eltM (cmpT ninD (ret k_33) (ret row_29)) (ret k_33))) fun free_30 => (extM s_28 (compM (itM (ret free_30)) fun k_32 => (eltM (valT (bnd (consM (ret tiles_22) (consM (ret size_23) (consM (ret row_29) (consM (ret k_32) (ret []))))) m_fits_behind)) (op2M addD (ret row_29) (tupM (consM (ret k_32) (ret [])))))) fun later_31 => (ret (.nx later_31))))) later_27 fun s_34 => (bnd (ret s_34) fun rows_36 => (ret (.nx rows_36)))))) rows_24 fun s_37 => (retF (ret s_37))))
def mb_all_layings : List D → M Tp (Fl Unit Unit)
  | [tiles_22, size_23] => b_all_layings tiles_22 size_23
  | _ => stuck
def m_all_layings (ds : List D) : M Tp D := bnd (mb_all_layings ds) endF
set_option maxHeartbeats 0 in
theorem h_all_layings {f : Addr} {fd : FuncData} (F : Fun K "all_layings" "all_layings" s_all_layings f fd) (g : mg "all_layings" = some (.ref f)) (z_len : mg "len" = none) (z_range : mg "range" = none) (h_fits_behind : HasF (S := Tp) ⟨P, w, K, mg, base⟩ 1 "fits_behind" 4 m_fits_behind) : HasF (S := Tp) ⟨P, w, K, mg, base⟩ 2 "all_layings" 2 m_all_layings :=
  hasF_mk g F sc_all_layings (F.binds fun _ _ _ _ _ _ us hl => match us, hl with | [_, _], _ => rfl) rfl fun ds hl => match ds, hl with
    | [tiles_22, size_23], _ =>
      (OkB.set (C := CC_all_layings P w K mg base 1) (i := 2) rfl (.inl rfl) (.inl rfl) (Ok.frz (Ok.lst (Ok.cons (Ok.tup Ok.nil) Ok.nil))) (fun rows_24 => (OkB.forR (C := CC_all_layings P w K mg base 1) (Γl := fun (s_25 : D) => [some (.frz tiles_22), some (.frz size_23), some (.frz s_25), none, none, none, none, none]) (s0 := rows_24) (OkI.val (Ok.var (i := 0) rfl (.inr (.inl rfl)) rfl) (fun h => by first | rfl | cases h)) (wk_mask (bs := [true, true, true, false, false, false, false, false])) (fun s_25 u_26 => (BindOk.name (i := 3) rfl (.inl rfl) (.inl rfl) (BindOk.nil (OkB.setO (C := CC_all_layings P w K mg base 1) (i := 4) rfl (.inl rfl) (.inl rfl) (Ok.lst Ok.nil) (fun later_27 => (OkB.forR (C := CC_all_layings P w K mg base 1) (Γl := fun (s_28 : D) => [some (.frz tiles_22), some (.frz size_23), some (.frz s_25), none, some (.own s_28), none, none, none]) (s0 := later_27) (OkI.val (Ok.var (i := 2) rfl (.inl rfl) rfl) (fun h => by first | rfl | cases h)) (wk_mask (bs := [true, true, true, false, true, false, false, false])) (fun s_28 row_29 => (BindOk.name (i := 5) rfl (.inr rfl) (.inl rfl) (BindOk.nil (OkB.setC (C := CC_all_layings P w K mg base 1) (i := 6) rfl rfl rfl (Ok.lc [("k", 7)] (OkI.range1 (Ok.view (Ok.bfun o_len (by decide +kernel) rfl z_len (Ok.cons (Ok.view (Ok.var (i := 0) rfl (.inr (.inl rfl)) rfl)) Ok.nil))) rfl z_range) fun k_33 => (BindOk.name (i := 7) rfl (.inl rfl) (.inr rfl) (BindOk.nil ⟨_, _, (OkTs.one (OkT.cmp o_nin (Ok.view (Ok.var (i := 7) rfl (.inl rfl) rfl)) (Ok.view (Ok.var (i := 5) rfl (.inr (.inl rfl)) rfl)))), (Ok.var (i := 7) rfl (.inl rfl) rfl), rfl⟩))) fun free_30 => (OkB.ext (C := CC_all_layings P w K mg base 1) (i := 4) rfl (.inl rfl) rfl (Ok.view (OkC.n (Ok.lc [("k", 7)] (OkI.val (Ok.var (i := 6) rfl (.inl rfl) rfl) (fun h => by first | rfl | cases h)) fun k_32 => (BindOk.name (i := 7) rfl (.inl rfl) (.inr rfl) (BindOk.nil ⟨_, _, (OkTs.one (OkT.val (Ok.view (Ok.call h_fits_behind (Nat.le_of_ble_eq_true rfl) rfl (Ok.cons (Ok.var (i := 0) rfl (.inr (.inl rfl)) rfl) (Ok.cons (Ok.var (i := 1) rfl (.inr (.inl rfl)) rfl) (Ok.cons (Ok.var (i := 5) rfl (.inr (.inl rfl)) rfl) (Ok.cons (Ok.var (i := 7) rfl (.inl rfl) rfl) Ok.nil)))))))), (Ok.frz (Ok.op o_add (Ok.view (Ok.var (i := 5) rfl (.inr (.inl rfl)) rfl)) (Ok.view (Ok.tup (Ok.cons (Ok.var (i := 7) rfl (.inl rfl) rfl) Ok.nil))))), rfl⟩))))) fun later_31 => (OkB.nil (s := later_31) (wk_mask (bs := [true, true, true, false, true, false, false, false])))))))) fun s_34 => (OkB.freeze 4 rfl (OkB.set (C := CC_all_layings P w K mg base 1) (i := 2) rfl (.inl rfl) (.inl rfl) (Ok.var (i := 4) rfl (.inl rfl) rfl) (fun rows_36 => (OkB.nil (s := rows_36) (wk_mask (bs := [true, true, true, false, false, false, false, false])))))))))))) fun s_37 => (OkB.ret (Ok.var (i := 2) rfl (.inl rfl) rfl)))))
abbrev s_count_layings : Stmt := topS 10
theorem sc_count_layings : FnScope ["tiles", "size"] ["tiles", "size"] (defScope s_count_layings) := ⟨rfl, rfl, rfl, by decide +kernel, rfl, by decide +kernel, by decide +kernel⟩
abbrev CC_count_layings (P : Program) (w : World) (K : PySem.W.Frag) (mg : Str → Option Value) (base : Heap) (k : Nat) : Stat := ⟨⟨P, w, K, mg, base⟩, ["tiles", "size"], defScope s_count_layings, k, fun _ => true⟩
def b_count_layings (tiles_38 : D) (size_39 : D) : M Tp (Fl Unit Unit) :=
  (retF (bcM lenD (consM (bnd (consM (ret tiles_38) (consM (ret size_39) (ret []))) m_all_layings) (ret []))))
def mb_count_layings : List D → M Tp (Fl Unit Unit)
  | [tiles_38, size_39] => b_count_layings tiles_38 size_39
  | _ => stuck
def m_count_layings (ds : List D) : M Tp D := bnd (mb_count_layings ds) endF
set_option maxHeartbeats 0 in
theorem h_count_layings {f : Addr} {fd : FuncData} (F : Fun K "count_layings" "count_layings" s_count_layings f fd) (g : mg "count_layings" = some (.ref f)) (z_len : mg "len" = none) (h_all_layings : HasF (S := Tp) ⟨P, w, K, mg, base⟩ 2 "all_layings" 2 m_all_layings) : HasF (S := Tp) ⟨P, w, K, mg, base⟩ 3 "count_layings" 2 m_count_layings :=
  hasF_mk g F sc_count_layings (F.binds fun _ _ _ _ _ _ us hl => match us, hl with | [_, _], _ => rfl) rfl fun ds hl => match ds, hl with
    | [tiles_38, size_39], _ =>
      (OkB.ret (Ok.frz (Ok.bfun o_len (by decide +kernel) rfl z_len (Ok.cons (Ok.view (Ok.call h_all_layings (Nat.le_of_ble_eq_true rfl) rfl (Ok.cons (Ok.var (i := 0) rfl (.inl rfl) rfl) (Ok.cons (Ok.var (i := 1) rfl (.inl rfl) rfl) Ok.nil)))) Ok.nil))))
abbrev s_first_laying : Stmt := topS 11
theorem sc_first_laying : FnScope ["tiles", "size", "rows"] ["tiles", "size"] (defScope s_first_laying) := ⟨rfl, rfl, rfl, by decide +kernel, rfl, by decide +kernel, by decide +kernel⟩
abbrev CC_first_laying (P : Program) (w : World) (K : PySem.W.Frag) (mg : Str → Option Value) (base : Heap) (k : Nat) : Stat := ⟨⟨P, w, K, mg, base⟩, ["tiles", "size", "rows"], defScope s_first_laying, k, fun _ => true⟩
def b_first_laying (tiles_40 : D) (size_41 : D) : M Tp (Fl Unit Unit) :=
  (bnd (bnd (consM (ret tiles_40) (consM (ret size_41) (ret []))) m_all_layings) fun rows_42 => (retF (ifM (valT (ret rows_42)) (ixM (ret rows_42) (ret (.int 0))) (ret .non))))
def mb_first_laying : List D → M Tp (Fl Unit Unit)
  | [tiles_40, size_41] => b_first_laying tiles_40 size_41
  | _ => stuck
def m_first_laying (ds : List D) : M Tp D := bnd (mb_first_laying ds) endF
set_option maxHeartbeats 0 in
theorem h_first_laying {f : Addr} {fd : FuncData} (F : Fun K "first_laying" "first_laying" s_first_laying f fd) (g : mg "first_laying" = some (.ref f)) (h_all_layings : HasF (S := Tp) ⟨P, w, K, mg, base⟩ 2 "all_layings" 2 m_all_layings) : HasF (S := Tp) ⟨P, w, K, mg, base⟩ 3 "first_laying" 2 m_first_laying :=
  hasF_mk g F sc_first_laying (F.binds fun _ _ _ _ _ _ us hl => match us, hl with | [_, _], _ => rfl) rfl fun ds hl => match ds, hl with
    | [tiles_40, size_41], _ =>
      (OkB.set (C := CC_first_laying P w K mg base 2) (i := 2) rfl (.inl rfl) (.inl rfl) (Ok.call h_all_layings (Nat.le_of_ble_eq_true rfl) rfl (Ok.cons (Ok.var (i := 0) rfl (.inl rfl) rfl) (Ok.cons (Ok.var (i := 1) rfl (.inl rfl) rfl) Ok.nil))) (fun rows_42 => (OkB.ret (Ok.ife (OkT.val (Ok.view (Ok.var (i := 2) rfl (.inl rfl) rfl))) (Ok.ix (Ok.view (Ok.var (i := 2) rfl (.inl rfl) rfl)) (Ok.view Ok.int)) Ok.non))))
abbrev s_surplus_of : Stmt := topS 12
theorem sc_surplus_of : FnScope ["tiles", "size", "word", "there", "back", "most", "sign", "many", "tile"] ["tiles", "size"] (defScope s_surplus_of) := ⟨rfl, rfl, rfl, by decide +kernel, rfl, by decide +kernel, by decide +kernel⟩
abbrev CC_surplus_of (P : Program) (w : World) (K : PySem.W.Frag) (mg : Str → Option Value) (base : Heap) (k : Nat) : Stat := ⟨⟨P, w, K, mg, base⟩, ["tiles", "size", "word", "there", "back", "most", "sign", "many", "tile"], defScope s_surplus_of, k, fun _ => true⟩
def b_surplus_of (tiles_43 : D) (size_44 : D) : M Tp (Fl Unit Unit) :=
  (forM' (itM (tupM (consM (tupM (consM (ret (.str "right")) (consM (ret (.int 1)) (consM (ret (.int 3)) (consM (ixM (ret size_44) (ret (.int 0))) (ret [])))))) (consM (tupM (consM (ret (.str "down")) (consM (ret (.int 2)) (consM (ret (.int 0)) (consM (ixM (ret size_44) (ret (.int 1))) (ret [])))))) (ret []))))) (fun (s_45 : Unit) t_46 => (pat4 (fun word_47 there_48 back_49 most_50 => (forM' (rng1M (op2M addD (ret (.int 9)) (ret (.int 1)))) (fun (s_51 : Unit) sign_52 => (bnd (bcM lenD (consM (compM (itM (ret tiles_43)) fun tile_56 => (eltM (cmpT eqD (ixM (ret tile_56) (ret there_48)) (ret sign_52)) (ret tile_56))) (ret []))) fun many_53 => (iteF (cmpT gtD (bcM absD (consM (op2M subD (ret many_53) (bcM lenD (consM (compM (itM (ret tiles_43)) fun tile_54 => (eltM (cmpT eqD (ixM (ret tile_54) (ret back_49)) (ret sign_52)) (ret tile_54))) (ret [])))) (ret []))) (ret most_50)) (retF (tupM (consM (ret word_47) (consM (ret sign_52) (ret []))))) (ret (.nx ())) fun (s_55 : Unit) => (ret (.nx ()))))) () fun s_57 => (ret (.nx ())))) t_46)) () fun s_58 => (retF (ret .non)))
def mb_surplus_of : List D → M Tp (Fl Unit Unit)
  | [tiles_43, size_44] => b_surplus_of tiles_43 size_44
  | _ => stuck
def m_surplus_of (ds : List D) : M Tp D := bnd (mb_surplus_of ds) endF
set_option maxHeartbeats 0 in
theorem h_surplus_of {f : Addr} {fd : FuncData} (F : Fun K "surplus_of" "surplus_of" s_surplus_of f fd) (g : mg "surplus_of" = some (.ref f)) (z_abs : mg "abs" = none) (z_len : mg "len" = none) (z_range : mg "range" = none) {t_GREATEST_SIGN : Tok} (c_GREATEST_SIGN : mg "GREATEST_SIGN" = some (.int 9 t_GREATEST_SIGN)) : HasF (S := Tp) ⟨P, w, K, mg, base⟩ 1 "surplus_of" 2 m_surplus_of :=
  hasF_mk g F sc_surplus_of (F.binds fun _ _ _ _ _ _ us hl => match us, hl with | [_, _], _ => rfl) rfl fun ds hl => match ds, hl with
    | [tiles_43, size_44], _ =>
      (OkB.forR (C := CC_surplus_of P w K mg base 0) (Γl := fun (s_45 : Unit) => [some (.frz tiles_43), some (.frz size_44), none, none, none, none, none, none, none]) (s0 := ()) (OkI.val (Ok.tup (Ok.cons (Ok.tup (Ok.cons Ok.str (Ok.cons Ok.int (Ok.cons Ok.int (Ok.cons (Ok.ix (Ok.view (Ok.var (i := 1) rfl (.inl rfl) rfl)) (Ok.view Ok.int)) Ok.nil))))) (Ok.cons (Ok.tup (Ok.cons Ok.str (Ok.cons Ok.int (Ok.cons Ok.int (Ok.cons (Ok.ix (Ok.view (Ok.var (i := 1) rfl (.inl rfl) rfl)) (Ok.view Ok.int)) Ok.nil))))) Ok.nil))) (fun h => by first | rfl | cases h)) (wk_mask (bs := [true, true, false, false, false, false, false, false, false])) (fun s_45 t_46 => (BindOk.tup4 rfl fun word_47 there_48 back_49 most_50 => (BindOk.name (i := 2) rfl (.inl rfl) (.inl rfl) (BindOk.name (i := 3) rfl (.inr rfl) (.inl rfl) (BindOk.name (i := 4) rfl (.inr rfl) (.inl rfl) (BindOk.name (i := 5) rfl (.inl rfl) (.inl rfl) (BindOk.nil (OkB.forR (C := CC_surplus_of P w K mg base 0) (Γl := fun (s_51 : Unit) => [some (.frz tiles_43), some (.frz size_44), some (.frz word_47), some (.frz there_48), some (.frz back_49), some (.frz most_50), none, none, none]) (s0 := ()) (OkI.range1 (Ok.view (Ok.op o_add (Ok.view (Ok.cint rfl c_GREATEST_SIGN)) (Ok.view Ok.int))) rfl z_range) (wk_mask (bs := [true, true, true, true, true, true, false, false, false])) (fun s_51 sign_52 => (BindOk.name (i := 6) rfl (.inr rfl) (.inl rfl) (BindOk.nil (OkB.set (C := CC_surplus_of P w K mg base 0) (i := 7) rfl (.inl rfl) (.inl rfl) (Ok.frz (Ok.bfun o_len (by decide +kernel) rfl z_len (Ok.cons (Ok.view (OkC.n (Ok.lc [("tile", 8)] (OkI.val (Ok.var (i := 0) rfl (.inl rfl) rfl) (fun h => by first | rfl | cases h)) fun tile_56 => (BindOk.name (i := 8) rfl (.inl rfl) (.inr rfl) (BindOk.nil ⟨_, _, (OkTs.one (OkT.cmp o_eq (Ok.view (Ok.ix (Ok.view (Ok.var (i := 8) rfl (.inl rfl) rfl)) (Ok.view (Ok.var (i := 3) rfl (.inr (.inl rfl)) rfl)))) (Ok.view (Ok.var (i := 6) rfl (.inr (.inl rfl)) rfl)))), (Ok.var (i := 8) rfl (.inl rfl) rfl), rfl⟩))))) Ok.nil))) (fun many_53 => (OkB.ite (C := CC_surplus_of P w K mg base 0) (Γj := fun (s_55 : Unit) => [some (.frz tiles_43), some (.frz size_44), some (.frz word_47), some (.frz there_48), some (.frz back_49), some (.frz most_50), none, none, none]) (OkT.cmp o_gt (Ok.view (Ok.bfun o_abs (by decide +kernel) rfl z_abs (Ok.cons (Ok.view (Ok.op o_sub (Ok.view (Ok.var (i := 7) rfl (.inl rfl) rfl)) (Ok.view (Ok.bfun o_len (by decide +kernel) rfl z_len (Ok.cons (Ok.view (OkC.n (Ok.lc [("tile", 8)] (OkI.val (Ok.var (i := 0) rfl (.inl rfl) rfl) (fun h => by first | rfl | cases h)) fun tile_54 => (BindOk.name (i := 8) rfl (.inl rfl) (.inr rfl) (BindOk.nil ⟨_, _, (OkTs.one (OkT.cmp o_eq (Ok.view (Ok.ix (Ok.view (Ok.var (i := 8) rfl (.inl rfl) rfl)) (Ok.view (Ok.var (i := 4) rfl (.inr (.inl rfl)) rfl)))) (Ok.view (Ok.var (i := 6) rfl (.inr (.inl rfl)) rfl)))), (Ok.var (i := 8) rfl (.inl rfl) rfl), rfl⟩))))) Ok.nil))))) Ok.nil))) (Ok.view (Ok.var (i := 5) rfl (.inl rfl) rfl))) (OkB.ret (Ok.tup (Ok.cons (Ok.var (i := 2) rfl (.inl rfl) rfl) (Ok.cons (Ok.var (i := 6) rfl (.inr (.inl rfl)) rfl) Ok.nil)))) (OkB.nil (s := ()) (wk_mask (bs := [true, true, true, true, true, true, false, false, false]))) fun s_55 => (OkB.nil (s := ()) (wk_mask (bs := [true, true, true, true, true, true, false, false, false]))))))))) fun s_57 => (OkB.nil (s := ()) (wk_mask (bs := [true, true, false, false, false, false, false, false, false]))))))))))) fun s_58 => (OkB.ret Ok.non))
abbrev s__law_same : Stmt := topS 17
theorem sc__law_same : FnScope ["a", "b", "k"] ["a", "b"] (defScope s__law_same) := ⟨rfl, rfl, rfl, by decide +kernel, rfl, by decide +kernel, by decide +kernel⟩
abbrev CC__law_same (P : Program) (w : World) (K : PySem.W.Frag) (mg : Str → Option Value) (base : Heap) (k : Nat) : Stat := ⟨⟨P, w, K, mg, base⟩, ["a", "b", "k"], defScope s__law_same, k, fun _ => true⟩
def b__law_same (self : List D → M Tp D) (a_59 : D) (b_60 : D)  : M Tp (Fl Unit Unit) :=
  (iteF (orT (andT (valT (isiM "tuple" (ret a_59))) (valT (isiM "tuple" (ret b_60)))) (andT (valT (isiM "list" (ret a_59))) (valT (isiM "list" (ret b_60))))) (retF (andM (op2M eqD (bcM lenD (consM (ret a_59) (ret []))) (bcM lenD (consM (ret b_60) (ret [])))) (bcM allD (consM (compM (rng1M (bcM lenD (consM (ret a_59) (ret [])))) fun k_61 => (eltM (ret true) (bnd (consM (ixM (ret a_59) (ret k_61)) (consM (ixM (ret b_60) (ret k_61)) (ret []))) self))) (ret []))))) (ret (.nx ())) fun (s_62 : Unit) => (iteF (orT (valT (isiM "bool" (ret a_59))) (valT (isiM "bool" (ret b_60)))) (retF (andM (isiM "bool" (ret a_59)) (andM (isiM "bool" (ret b_60)) (op2M eqD (ret a_59) (ret b_60))))) (ret (.nx ())) fun (s_63 : Unit) => (iteF (orT (andT (valT (isiM "int" (ret a_59))) (valT (isiM "int" (ret b_60)))) (andT (valT (isiM "str" (ret a_59))) (valT (isiM "str" (ret b_60))))) (retF (op2M eqD (ret a_59) (ret b_60))) (ret (.nx ())) fun (s_64 : Unit) => (retF (andM (op2M isD (ret a_59) (ret .non)) (op2M isD (ret b_60) (ret .non)))))))
def mb__law_same (self : List D → M Tp D) : List D → M Tp (Fl Unit Unit)
  | [a_59, b_60] => b__law_same self a_59 b_60
  | _ => stuck
def m__law_same : Nat → List D → M Tp D
  | 0 => fun _ => stuck
  | n + 1 => fun ds => bnd (mb__law_same (m__law_same n) ds) endF
set_option maxHeartbeats 0 in
theorem st__law_same {k : Nat} (hk : 0 ≤ k) (self : List D → M Tp D) (hself : HasF (S := Tp) ⟨P, w, K, mg, base⟩ k "_law_same" 2 self) {f : Addr} {fd : FuncData} (F : Fun K "_law_same" "_law_same" s__law_same f fd) (g : mg "_law_same" = some (.ref f)) (z_all : mg "all" = none) (z_bool : mg "bool" = none) (z_int : mg "int" = none) (z_isinstance : mg "isinstance" = none) (z_len : mg "len" = none) (z_list : mg "list" = none) (z_range : mg "range" = none) (z_str : mg "str" = none) (z_tuple : mg "tuple" = none) : HasF ⟨P, w, K, mg, base⟩ (k + 1) "_law_same" 2 fun ds => bnd (mb__law_same self ds) endF :=
  hasF_mk g F sc__law_same (F.binds fun _ _ _ _ _ _ us hl => match us, hl with | [_, _], _ => rfl) rfl fun ds hl => match ds, hl with
    | [a_59, b_60], _ =>
      (OkB.ite (C := CC__law_same P w K mg base k) (Γj := fun (s_62 : Unit) => [some (.frz a_59), some (.frz b_60), none]) (OkW.pt (OkW.or (OkW.pt (OkW.and (OkT.val (Ok.view (Ok.isinst (T := "tuple") (Ok.view (Ok.var (i := 0) rfl (.inr (.inl rfl)) rfl)) rfl z_isinstance rfl z_tuple (by decide +kernel)))) (OkW.and1 (OkT.val (Ok.view (Ok.isinst (T := "tuple") (Ok.view (Ok.var (i := 1) rfl (.inr (.inl rfl)) rfl)) rfl z_isinstance rfl z_tuple (by decide +kernel))))))) (OkW.or1 (OkW.pt (OkW.and (OkT.val (Ok.view (Ok.isinst (T := "list") (Ok.view (Ok.var (i := 0) rfl (.inr (.inl rfl)) rfl)) rfl z_isinstance rfl z_list (by decide +kernel)))) (OkW.and1 (OkT.val (Ok.view (Ok.isinst (T := "list") (Ok.view (Ok.var (i := 1) rfl (.inr (.inl rfl)) rfl)) rfl z_isinstance rfl z_list (by decide +kernel)))))))))) (OkB.ret (Ok.and (Ok.view (Ok.cmp o_eq (Ok.view (Ok.bfun o_len (by decide +kernel) rfl z_len (Ok.cons (Ok.view (Ok.var (i := 0) rfl (.inr (.inl rfl)) rfl)) Ok.nil))) (Ok.view (Ok.bfun o_len (by decide +kernel) rfl z_len (Ok.cons (Ok.view (Ok.var (i := 1) rfl (.inr (.inl rfl)) rfl)) Ok.nil))))) (Ok.one (Ok.frz (Ok.bfun o_all (by decide +kernel) rfl z_all (Ok.cons (Ok.view (OkC.n (Ok.lc [("k", 2)] (OkI.range1 (Ok.view (Ok.bfun o_len (by decide +kernel) rfl z_len (Ok.cons (Ok.view (Ok.var (i := 0) rfl (.inr (.inl rfl)) rfl)) Ok.nil))) rfl z_range) fun k_61 => (BindOk.name (i := 2) rfl (.inl rfl) (.inr rfl) (BindOk.nil ⟨_, _, OkTs.nil, (Ok.call hself (Nat.le_refl _) rfl (Ok.cons (Ok.ix (Ok.view (Ok.var (i := 0) rfl (.inr (.inl rfl)) rfl)) (Ok.view (Ok.var (i := 2) rfl (.inl rfl) rfl))) (Ok.cons (Ok.ix (Ok.view (Ok.var (i := 1) rfl (.inr (.inl rfl)) rfl)) (Ok.view (Ok.var (i := 2) rfl (.inl rfl) rfl))) Ok.nil))), rfl⟩))))) Ok.nil)))))) (OkB.nil (s := ()) (wk_mask (bs := [true, true, false]))) fun s_62 => (OkB.ite (C := CC__law_same P w K mg base k) (Γj := fun (s_63 : Unit) => [some (.frz a_59), some (.frz b_60), none]) (OkW.pt (OkW.or (OkT.val (Ok.view (Ok.isinst (T := "bool") (Ok.view (Ok.var (i := 0) rfl (.inr (.inl rfl)) rfl)) rfl z_isinstance rfl z_bool (by decide +kernel)))) (OkW.or1 (OkT.val (Ok.view (Ok.isinst (T := "bool") (Ok.view (Ok.var (i := 1) rfl (.inr (.inl rfl)) rfl)) rfl z_isinstance rfl z_bool (by decide +kernel))))))) (OkB.ret (Ok.and (Ok.view (Ok.isinst (T := "bool") (Ok.view (Ok.var (i := 0) rfl (.inr (.inl rfl)) rfl)) rfl z_isinstance rfl z_bool (by decide +kernel))) (Ok.and (Ok.view (Ok.isinst (T := "bool") (Ok.view (Ok.var (i := 1) rfl (.inr (.inl rfl)) rfl)) rfl z_isinstance rfl z_bool (by decide +kernel))) (Ok.one (Ok.frz (Ok.cmp o_eq (Ok.view (Ok.var (i := 0) rfl (.inr (.inl rfl)) rfl)) (Ok.view (Ok.var (i := 1) rfl (.inr (.inl rfl)) rfl)))))))) (OkB.nil (s := ()) (wk_mask (bs := [true, true, false]))) fun s_63 => (OkB.ite (C := CC__law_same P w K mg base k) (Γj := fun (s_64 : Unit) => [some (.frz a_59), some (.frz b_60), none]) (OkW.pt (OkW.or (OkW.pt (OkW.and (OkT.val (Ok.view (Ok.isinst (T := "int") (Ok.view (Ok.var (i := 0) rfl (.inr (.inl rfl)) rfl)) rfl z_isinstance rfl z_int (by decide +kernel)))) (OkW.and1 (OkT.val (Ok.view (Ok.isinst (T := "int") (Ok.view (Ok.var (i := 1) rfl (.inr (.inl rfl)) rfl)) rfl z_isinstance rfl z_int (by decide +kernel))))))) (OkW.or1 (OkW.pt (OkW.and (OkT.val (Ok.view (Ok.isinst (T := "str") (Ok.view (Ok.var (i := 0) rfl (.inr (.inl rfl)) rfl)) rfl z_isinstance rfl z_str (by decide +kernel)))) (OkW.and1 (OkT.val (Ok.view (Ok.isinst (T := "str") (Ok.view (Ok.var (i := 1) rfl (.inr (.inl rfl)) rfl)) rfl z_isinstance rfl z_str (by decide +kernel)))))))))) (OkB.ret (Ok.frz (Ok.cmp o_eq (Ok.view (Ok.var (i := 0) rfl (.inr (.inl rfl)) rfl)) (Ok.view (Ok.var (i := 1) rfl (.inr (.inl rfl)) rfl))))) (OkB.nil (s := ()) (wk_mask (bs := [true, true, false]))) fun s_64 => (OkB.ret (Ok.and (Ok.view (Ok.cmp o_is (Ok.view (Ok.var (i := 0) rfl (.inr (.inl rfl)) rfl)) (Ok.view Ok.non))) (Ok.one (Ok.frz (Ok.cmp o_is (Ok.view (Ok.var (i := 1) rfl (.inr (.inl rfl)) rfl)) (Ok.view Ok.non)))))))))
theorem h__law_same {f : Addr} {fd : FuncData} (F : Fun K "_law_same" "_law_same" s__law_same f fd) (g : mg "_law_same" = some (.ref f)) (z_all : mg "all" = none) (z_bool : mg "bool" = none) (z_int : mg "int" = none) (z_isinstance : mg "isinstance" = none) (z_len : mg "len" = none) (z_list : mg "list" = none) (z_range : mg "range" = none) (z_str : mg "str" = none) (z_tuple : mg "tuple" = none) : ∀ n, HasF (S := Tp) ⟨P, w, K, mg, base⟩ (1 + n) "_law_same" 2 (m__law_same n)
  | 0 => hasF_stuck g F (F.binds (ps := ["a", "b"]) fun _ _ _ _ _ _ us hl => match us, hl with | [_, _], _ => rfl) rfl
  | n + 1 => st__law_same (Nat.le_trans (by decide) (Nat.le_add_right _ n)) _ (h__law_same F g z_all z_bool z_int z_isinstance z_len z_list z_range z_str z_tuple n) F g z_all z_bool z_int z_isinstance z_len z_list z_range z_str z_tuple
abbrev s__law_spoilt : Stmt := topS 18
theorem sc__law_spoilt : FnScope ["tape", "value", "at", "rows"] ["tape", "value"] (defScope s__law_spoilt) := ⟨rfl, rfl, rfl, by decide +kernel, rfl, by decide +kernel, by decide +kernel⟩
abbrev CC__law_spoilt (P : Program) (w : World) (K : PySem.W.Frag) (mg : Str → Option Value) (base : Heap) (k : Nat) : Stat := ⟨⟨P, w, K, mg, base⟩, ["tape", "value", "at", "rows"], defScope s__law_spoilt, k, fun _ => true⟩
def b__law_spoilt (self : List D → M Tp D) (tape_65 : D) (value_66 : D)  : M Tp (Fl Unit Unit) :=
  (iteF (andT (valT (isiM "tuple" (ret value_66))) (andT (cmpT gtD (bcM lenD (consM (ret value_66) (ret []))) (ret (.int 0))) (cmpT gtD (bnd (consM (ret tape_65) (consM (ret (.int 4)) (ret []))) m_take) (ret (.int 0))))) (bnd (bnd (consM (ret tape_65) (consM (bcM lenD (consM (ret value_66) (ret []))) (ret []))) m_take) fun at_67 => (iteF (cmpT eqD (bnd (consM (ret tape_65) (consM (ret (.int 8)) (ret []))) m_take) (ret (.int 0))) (retF (op2M addD (slM (ret value_66) (ret none) (ptM (ret at_67))) (slM (ret value_66) (ptM (op2M addD (ret at_67) (ret (.int 1)))) (ret none)))) (ret (.nx ())) fun (s_68 : Unit) => (retF (op2M addD (op2M addD (slM (ret value_66) (ret none) (ptM (ret at_67))) (tupM (consM (bnd (consM (ret tape_65) (consM (ixM (ret value_66) (ret at_67)) (ret []))) self) (ret [])))) (slM (ret value_66) (ptM (op2M addD (ret at_67) (ret (.int 1)))) (ret none)))))) (ret (.nx ())) fun (s_69 : Unit) => (bnd (lstM (consM (ret .non) (consM (tupM (ret [])) (consM (ret (.int 0)) (consM (ret (.int 1)) (consM (ret (.bl true)) (consM (ret (.bl false)) (consM (ret (.str "a")) (consM (negM (ret (.int 1))) (consM (tupM (consM (ret (.int 0)) (ret []))) (consM (tupM (consM (tupM (consM (ret (.int 0)) (consM (ret (.int 0)) (ret [])))) (ret []))) (ret [])))))))))))) fun rows_70 => (iteF (valT (isiM "int" (ret value_66))) (bnd (op2M addD (ret rows_70) (lstM (consM (op2M addD (ret value_66) (ret (.int 1))) (consM (op2M subD (ret value_66) (ret (.int 1))) (consM (op2M eqD (ret value_66) (ret (.int 1))) (consM (op2M addD (ret value_66) (ret (.int 1))) (ret []))))))) fun rows_71 => (ret (.nx rows_71))) (ret (.nx rows_70)) fun (s_72 : D) => (iteF (valT (isiM "tuple" (ret value_66))) (bnd (op2M addD (ret s_72) (lstM (consM (slM (ret value_66) (ret none) (ptM (negM (ret (.int 1))))) (consM (op2M addD (ret value_66) (slM (ret value_66) (ptM (negM (ret (.int 1)))) (ret none))) (consM (revM (ret value_66)) (consM (op2M addD (ret value_66) (tupM (consM (tupM (consM (ret (.int 0)) (consM (ret (.int 0)) (ret [])))) (ret [])))) (consM (tupM (consM (ret value_66) (ret []))) (consM (slM (ret value_66) (ptM (ret (.int 1))) (ret none)) (ret []))))))))) fun rows_73 => (ret (.nx rows_73))) (ret (.nx s_72)) fun (s_74 : D) => (retF (ixM (ret s_74) (bnd (consM (ret tape_65) (consM (bcM lenD (consM (ret s_74) (ret []))) (ret []))) m_take)))))))
def mb__law_spoilt (self : List D → M Tp D) : List D → M Tp (Fl Unit Unit)
  | [tape_65, value_66] => b__law_spoilt self tape_65 value_66
  | _ => stuck
def m__law_spoilt : Nat → List D → M Tp D
  | 0 => fun _ => stuck
  | n + 1 => fun ds => bnd (mb__law_spoilt (m__law_spoilt n) ds) endF
set_option maxHeartbeats 0 in
theorem st__law_spoilt {k : Nat} (hk : 2 ≤ k) (self : List D → M Tp D) (hself : HasF (S := Tp) ⟨P, w, K, mg, base⟩ k "_law_spoilt" 2 self) {f : Addr} {fd : FuncData} (F : Fun K "_law_spoilt" "_law_spoilt" s__law_spoilt f fd) (g : mg "_law_spoilt" = some (.ref f)) (z_int : mg "int" = none) (z_isinstance : mg "isinstance" = none) (z_len : mg "len" = none) (z_tuple : mg "tuple" = none) (h__law_take : HasF (S := Tp) ⟨P, w, K, mg, base⟩ 2 "_law_take" 2 m_take) : HasF ⟨P, w, K, mg, base⟩ (k + 1) "_law_spoilt" 2 fun ds => bnd (mb__law_spoilt self ds) endF :=
  hasF_mk g F sc__law_spoilt (F.binds fun _ _ _ _ _ _ us hl => match us, hl with | [_, _], _ => rfl) rfl fun ds hl => match ds, hl with
    | [tape_65, value_66], _ =>
      (OkB.ite (C := CC__law_spoilt P w K mg base k) (Γj := fun (s_69 : Unit) => [some (.frz tape_65), some (.frz value_66), none, none]) (OkW.pt (OkW.and (OkT.val (Ok.view (Ok.isinst (T := "tuple") (Ok.view (Ok.var (i := 1) rfl (.inl rfl) rfl)) rfl z_isinstance rfl z_tuple (by decide +kernel)))) (OkW.and (OkT.cmp o_gt (Ok.view (Ok.bfun o_len (by decide +kernel) rfl z_len (Ok.cons (Ok.view (Ok.var (i := 1) rfl (.inl rfl) rfl)) Ok.nil))) (Ok.view Ok.int)) (OkW.and1 (OkT.cmp o_gt (Ok.view (Ok.call h__law_take (Nat.le_trans (by decide) hk) rfl (Ok.cons (Ok.var (i := 0) rfl (.inl rfl) rfl) (Ok.cons Ok.int Ok.nil)))) (Ok.view Ok.int)))))) (OkB.set (C := CC__law_spoilt P w K mg base k) (i := 2) rfl (.inl rfl) (.inl rfl) (Ok.call h__law_take (Nat.le_trans (by decide) hk) rfl (Ok.cons (Ok.var (i := 0) rfl (.inl rfl) rfl) (Ok.cons (Ok.frz (Ok.bfun o_len (by decide +kernel) rfl z_len (Ok.cons (Ok.view (Ok.var (i := 1) rfl (.inl rfl) rfl)) Ok.nil))) Ok.nil))) (fun at_67 => (OkB.ite (C := CC__law_spoilt P w K mg base k) (Γj := fun (s_68 : Unit) => [some (.frz tape_65), some (.frz value_66), some (.frz at_67), none]) (OkT.cmp o_eq (Ok.view (Ok.call h__law_take (Nat.le_trans (by decide) hk) rfl (Ok.cons (Ok.var (i := 0) rfl (.inl rfl) rfl) (Ok.cons Ok.int Ok.nil)))) (Ok.view Ok.int)) (OkB.ret (Ok.frz (Ok.op o_add (Ok.view (Ok.sl (Ok.view (Ok.var (i := 1) rfl (.inl rfl) rfl)) OkO.none (OkO.some (Ok.view (Ok.var (i := 2) rfl (.inl rfl) rfl))))) (Ok.view (Ok.sl (Ok.view (Ok.var (i := 1) rfl (.inl rfl) rfl)) (OkO.some (Ok.view (Ok.op o_add (Ok.view (Ok.var (i := 2) rfl (.inl rfl) rfl)) (Ok.view Ok.int)))) OkO.none))))) (OkB.nil (s := ()) (wk_mask (bs := [true, true, true, false]))) fun s_68 => (OkB.ret (Ok.frz (Ok.op o_add (Ok.view (Ok.op o_add (Ok.view (Ok.sl (Ok.view (Ok.var (i := 1) rfl (.inl rfl) rfl)) OkO.none (OkO.some (Ok.view (Ok.var (i := 2) rfl (.inl rfl) rfl))))) (Ok.view (Ok.tup (Ok.cons (Ok.call hself (Nat.le_refl _) rfl (Ok.cons (Ok.var (i := 0) rfl (.inl rfl) rfl) (Ok.cons (Ok.ix (Ok.view (Ok.var (i := 1) rfl (.inl rfl) rfl)) (Ok.view (Ok.var (i := 2) rfl (.inl rfl) rfl))) Ok.nil))) Ok.nil))))) (Ok.view (Ok.sl (Ok.view (Ok.var (i := 1) rfl (.inl rfl) rfl)) (OkO.some (Ok.view (Ok.op o_add (Ok.view (Ok.var (i := 2) rfl (.inl rfl) rfl)) (Ok.view Ok.int)))) OkO.none)))))))) (OkB.nil (s := ()) (wk_mask (bs := [true, true, false, false]))) fun s_69 => (OkB.set (C := CC__law_spoilt P w K mg base k) (i := 3) rfl (.inl rfl) (.inl rfl) (Ok.frz (Ok.lst (Ok.cons Ok.non (Ok.cons (Ok.tup Ok.nil) (Ok.cons Ok.int (Ok.cons Ok.int (Ok.cons Ok.bl (Ok.cons Ok.bl (Ok.cons Ok.str (Ok.cons (Ok.neg' (Ok.view Ok.int)) (Ok.cons (Ok.tup (Ok.cons Ok.int Ok.nil)) (Ok.cons (Ok.tup (Ok.cons (Ok.tup (Ok.cons Ok.int (Ok.cons Ok.int Ok.nil))) Ok.nil)) Ok.nil)))))))))))) (fun rows_70 => (OkB.ite (C := CC__law_spoilt P w K mg base k) (Γj := fun (s_72 : D) => [some (.frz tape_65), some (.frz value_66), none, some (.frz s_72)]) (OkT.val (Ok.view (Ok.isinst (T := "int") (Ok.view (Ok.var (i := 1) rfl (.inl rfl) rfl)) rfl z_isinstance rfl z_int (by decide +kernel)))) (OkB.set (C := CC__law_spoilt P w K mg base k) (i := 3) rfl (.inl rfl) (.inl rfl) (Ok.frz (Ok.op o_add (Ok.view (Ok.var (i := 3) rfl (.inl rfl) rfl)) (Ok.view (Ok.lst (Ok.cons (Ok.frz (Ok.op o_add (Ok.view (Ok.var (i := 1) rfl (.inl rfl) rfl)) (Ok.view Ok.int))) (Ok.cons (Ok.frz (Ok.op o_sub (Ok.view (Ok.var (i := 1) rfl (.inl rfl) rfl)) (Ok.view Ok.int))) (Ok.cons (Ok.frz (Ok.cmp o_eq (Ok.view (Ok.var (i := 1) rfl (.inl rfl) rfl)) (Ok.view Ok.int))) (Ok.cons (Ok.frz (Ok.op o_add (Ok.view (Ok.var (i := 1) rfl (.inl rfl) rfl)) (Ok.view Ok.int))) Ok.nil)))))))) (fun rows_71 => (OkB.nil (s := rows_71) (wk_mask (bs := [true, true, false, true]))))) (OkB.nil (s := rows_70) (wk_mask (bs := [true, true, false, true]))) fun s_72 => (OkB.ite (C := CC__law_spoilt P w K mg base k) (Γj := fun (s_74 : D) => [some (.frz tape_65), none, none, some (.frz s_74)]) (OkT.val (Ok.view (Ok.isinst (T := "tuple") (Ok.view (Ok.var (i := 1) rfl (.inl rfl) rfl)) rfl z_isinstance rfl z_tuple (by decide +kernel)))) (OkB.set (C := CC__law_spoilt P w K mg base k) (i := 3) rfl (.inl rfl) (.inl rfl) (Ok.frz (Ok.op o_add (Ok.view (Ok.var (i := 3) rfl (.inl rfl) rfl)) (Ok.view (Ok.lst (Ok.cons (Ok.frz (Ok.sl (Ok.view (Ok.var (i := 1) rfl (.inl rfl) rfl)) OkO.none (OkO.some (Ok.view (Ok.neg' (Ok.view Ok.int)))))) (Ok.cons (Ok.frz (Ok.op o_add (Ok.view (Ok.var (i := 1) rfl (.inl rfl) rfl)) (Ok.view (Ok.sl (Ok.view (Ok.var (i := 1) rfl (.inl rfl) rfl)) (OkO.some (Ok.view (Ok.neg' (Ok.view Ok.int)))) OkO.none)))) (Ok.cons (Ok.frz (Ok.rev (Ok.view (Ok.var (i := 1) rfl (.inl rfl) rfl)))) (Ok.cons (Ok.frz (Ok.op o_add (Ok.view (Ok.var (i := 1) rfl (.inl rfl) rfl)) (Ok.view (Ok.tup (Ok.cons (Ok.tup (Ok.cons Ok.int (Ok.cons Ok.int Ok.nil))) Ok.nil))))) (Ok.cons (Ok.tup (Ok.cons (Ok.var (i := 1) rfl (.inl rfl) rfl) Ok.nil)) (Ok.cons (Ok.frz (Ok.sl (Ok.view (Ok.var (i := 1) rfl (.inl rfl) rfl)) (OkO.some (Ok.view Ok.int)) OkO.none)) Ok.nil)))))))))) (fun rows_73 => (OkB.nil (s := rows_73) (wk_mask (bs := [true, false, false, true]))))) (OkB.nil (s := s_72) (wk_mask (bs := [true, false, false, true]))) fun s_74 => (OkB.ret (Ok.ix (Ok.view (Ok.var (i := 3) rfl (.inl rfl) rfl)) (Ok.view (Ok.call h__law_take (Nat.le_trans (by decide) hk) rfl (Ok.cons (Ok.var (i := 0) rfl (.inl rfl) rfl) (Ok.cons (Ok.frz (Ok.bfun o_len (by decide +kernel) rfl z_len (Ok.cons (Ok.view (Ok.var (i := 3) rfl (.inl rfl) rfl)) Ok.nil))) Ok.nil)))))))))))
theorem h__law_spoilt {f : Addr} {fd : FuncData} (F : Fun K "_law_spoilt" "_law_spoilt" s__law_spoilt f fd) (g : mg "_law_spoilt" = some (.ref f)) (z_int : mg "int" = none) (z_isinstance : mg "isinstance" = none) (z_len : mg "len" = none) (z_tuple : mg "tuple" = none) (h__law_take : HasF (S := Tp) ⟨P, w, K, mg, base⟩ 2 "_law_take" 2 m_take) : ∀ n, HasF (S := Tp) ⟨P, w, K, mg, base⟩ (3 + n) "_law_spoilt" 2 (m__law_spoilt n)
  | 0 => hasF_stuck g F (F.binds (ps := ["tape", "value"]) fun _ _ _ _ _ _ us hl => match us, hl with | [_, _], _ => rfl) rfl
  | n + 1 => st__law_spoilt (Nat.le_trans (by decide) (Nat.le_add_right _ n)) _ (h__law_spoilt F g z_int z_isinstance z_len z_tuple h__law_take n) F g z_int z_isinstance z_len z_tuple h__law_take
abbrev s__law_are_tiles : Stmt := topS 19
theorem sc__law_are_tiles : FnScope ["value", "tile", "x"] ["value"] (defScope s__law_are_tiles) := ⟨rfl, rfl, rfl, by decide +kernel, rfl, by decide +kernel, by decide +kernel⟩
abbrev CC__law_are_tiles (P : Program) (w : World) (K : PySem.W.Frag) (mg : Str → Option Value) (base : Heap) (k : Nat) : Stat := ⟨⟨P, w, K, mg, base⟩, ["value", "tile", "x"], defScope s__law_are_tiles, k, fun _ => true⟩
def b__law_are_tiles (value_75 : D) : M Tp (Fl Unit Unit) :=
  (iteF (orT (notT (valT (isiM "tuple" (ret value_75)))) (orT (notT (chainT leD leD (ret (.int 1)) (bcM lenD (consM (ret value_75) (ret []))) (ret (.int 9)))) (notT (valT (bcM allD (consM (compM (itM (ret value_75)) fun tile_76 => (eltM (ret true) (andM (isiM "tuple" (ret tile_76)) (op2M eqD (bcM lenD (consM (ret tile_76) (ret []))) (ret (.int 4)))))) (ret []))))))) (retF (ret (.bl false))) (ret (.nx ())) fun (s_77 : Unit) => (retF (bcM allD (consM (compM (itM (ret value_75)) fun tile_78 => (eltM (ret true) (bcM allD (consM (compM (itM (ret tile_78)) fun x_79 => (eltM (ret true) (andM (isiM "int" (ret x_79)) (andM (notM (isiM "bool" (ret x_79))) (chainM leD leD (ret (.int 0)) (ret x_79) (ret (.int 9))))))) (ret []))))) (ret [])))))
def mb__law_are_tiles : List D → M Tp (Fl Unit Unit)
  | [value_75] => b__law_are_tiles value_75
  | _ => stuck
def m__law_are_tiles (ds : List D) : M Tp D := bnd (mb__law_are_tiles ds) endF
set_option maxHeartbeats 0 in
theorem h__law_are_tiles {f : Addr} {fd : FuncData} (F : Fun K "_law_are_tiles" "_law_are_tiles" s__law_are_tiles f fd) (g : mg "_law_are_tiles" = some (.ref f)) (z_all : mg "all" = none) (z_bool : mg "bool" = none) (z_int : mg "int" = none) (z_isinstance : mg "isinstance" = none) (z_len : mg "len" = none) (z_tuple : mg "tuple" = none) : HasF (S := Tp) ⟨P, w, K, mg, base⟩ 1 "_law_are_tiles" 1 m__law_are_tiles :=
  hasF_mk g F sc__law_are_tiles (F.binds fun _ _ _ _ _ _ us hl => match us, hl with | [_], _ => rfl) rfl fun ds hl => match ds, hl with
    | [value_75], _ =>
      (OkB.ite (C := CC__law_are_tiles P w K mg base 0) (Γj := fun (s_77 : Unit) => [some (.frz value_75), none, none]) (OkW.pt (OkW.or (OkT.not (OkT.val (Ok.view (Ok.isinst (T := "tuple") (Ok.view (Ok.var (i := 0) rfl (.inl rfl) rfl)) rfl z_isinstance rfl z_tuple (by decide +kernel))))) (OkW.or (OkT.not (OkT.chain o_le o_le (Ok.view Ok.int) (Ok.view (Ok.bfun o_len (by decide +kernel) rfl z_len (Ok.cons (Ok.view (Ok.var (i := 0) rfl (.inl rfl) rfl)) Ok.nil))) (Ok.view Ok.int))) (OkW.or1 (OkT.not (OkT.val (Ok.view (Ok.bfun o_all (by decide +kernel) rfl z_all (Ok.cons (Ok.view (OkC.n (Ok.lc [("tile", 1)] (OkI.val (Ok.var (i := 0) rfl (.inl rfl) rfl) (fun h => by first | rfl | cases h)) fun tile_76 => (BindOk.name (i := 1) rfl (.inl rfl) (.inr rfl) (BindOk.nil ⟨_, _, OkTs.nil, (Ok.and (Ok.view (Ok.isinst (T := "tuple") (Ok.view (Ok.var (i := 1) rfl (.inl rfl) rfl)) rfl z_isinstance rfl z_tuple (by decide +kernel))) (Ok.one (Ok.frz (Ok.cmp o_eq (Ok.view (Ok.bfun o_len (by decide +kernel) rfl z_len (Ok.cons (Ok.view (Ok.var (i := 1) rfl (.inl rfl) rfl)) Ok.nil))) (Ok.view Ok.int))))), rfl⟩))))) Ok.nil))))))))) (OkB.ret Ok.bl) (OkB.nil (s := ()) (wk_mask (bs := [true, false, false]))) fun s_77 => (OkB.ret (Ok.frz (Ok.bfun o_all (by decide +kernel) rfl z_all (Ok.cons (Ok.view (OkC.n (Ok.lc [("tile", 1)] (OkI.val (Ok.var (i := 0) rfl (.inl rfl) rfl) (fun h => by first | rfl | cases h)) fun tile_78 => (BindOk.name (i := 1) rfl (.inl rfl) (.inr rfl) (BindOk.nil ⟨_, _, OkTs.nil, (Ok.frz (Ok.bfun o_all (by decide +kernel) rfl z_all (Ok.cons (Ok.view (OkC.n (Ok.lc [("x", 2)] (OkI.val (Ok.var (i := 1) rfl (.inl rfl) rfl) (fun h => by first | rfl | cases h)) fun x_79 => (BindOk.name (i := 2) rfl (.inl rfl) (.inr rfl) (BindOk.nil ⟨_, _, OkTs.nil, (Ok.and (Ok.view (Ok.isinst (T := "int") (Ok.view (Ok.var (i := 2) rfl (.inl rfl) rfl)) rfl z_isinstance rfl z_int (by decide +kernel))) (Ok.and (Ok.view (Ok.not (Ok.view (Ok.isinst (T := "bool") (Ok.view (Ok.var (i := 2) rfl (.inl rfl) rfl)) rfl z_isinstance rfl z_bool (by decide +kernel))))) (Ok.one (Ok.frz (Ok.chain o_le o_le (Ok.view Ok.int) (Ok.view (Ok.var (i := 2) rfl (.inl rfl) rfl)) (Ok.view Ok.int)))))), rfl⟩))))) Ok.nil))), rfl⟩))))) Ok.nil)))))
abbrev s__law_orders : Stmt := topS 20
theorem sc__law_orders : FnScope ["n", "rows", "step", "more_rows", "row", "k"] ["n"] (defScope s__law_orders) := ⟨rfl, rfl, rfl, by decide +kernel, rfl, by decide +kernel, by decide +kernel⟩
abbrev CC__law_orders (P : Program) (w : World) (K : PySem.W.Frag) (mg : Str → Option Value) (base : Heap) (k : Nat) : Stat := ⟨⟨P, w, K, mg, base⟩, ["n", "rows", "step", "more_rows", "row", "k"], defScope s__law_orders, k, fun _ => true⟩
def b__law_orders (n_80 : D) : M Tp (Fl Unit Unit) :=
  (bnd (lstM (consM (tupM (ret [])) (ret []))) fun rows_81 => (forM' (rng1M (ret n_80)) (fun (s_82 : D) step_83 => (ownM (lstM (ret [])) fun more_rows_84 => (forM' (itM (ret s_82)) (fun (s_85 : D) row_86 => (extM s_85 (compM (rng1M (ret n_80)) fun k_88 => (eltM (cmpT ninD (ret k_88) (ret row_86)) (op2M addD (ret row_86) (tupM (consM (ret k_88) (ret [])))))) fun more_rows_87 => (ret (.nx more_rows_87)))) more_rows_84 fun s_89 => (bnd (ret s_89) fun rows_91 => (ret (.nx rows_91)))))) rows_81 fun s_92 => (retF (ret s_92))))
def mb__law_orders : List D → M Tp (Fl Unit Unit)
  | [n_80] => b__law_orders n_80
  | _ => stuck
def m__law_orders (ds : List D) : M Tp D := bnd (mb__law_orders ds) endF
set_option maxHeartbeats 0 in
theorem h__law_orders {f : Addr} {fd : FuncData} (F : Fun K "_law_orders" "_law_orders" s__law_orders f fd) (g : mg "_law_orders" = some (.ref f)) (z_range : mg "range" = none) : HasF (S := Tp) ⟨P, w, K, mg, base⟩ 1 "_law_orders" 1 m__law_orders :=
  hasF_mk g F sc__law_orders (F.binds fun _ _ _ _ _ _ us hl => match us, hl with | [_], _ => rfl) rfl fun ds hl => match ds, hl with
    | [n_80], _ =>
      (OkB.set (C := CC__law_orders P w K mg base 0) (i := 1) rfl (.inl rfl) (.inl rfl) (Ok.frz (Ok.lst (Ok.cons (Ok.tup Ok.nil) Ok.nil))) (fun rows_81 => (OkB.forR (C := CC__law_orders P w K mg base 0) (Γl := fun (s_82 : D) => [some (.frz n_80), some (.frz s_82), none, none, none, none]) (s0 := rows_81) (OkI.range1 (Ok.view (Ok.var (i := 0) rfl (.inl rfl) rfl)) rfl z_range) (wk_mask (bs := [true, true, false, false, false, false])) (fun s_82 step_83 => (BindOk.name (i := 2) rfl (.inl rfl) (.inl rfl) (BindOk.nil (OkB.setO (C := CC__law_orders P w K mg base 0) (i := 3) rfl (.inl rfl) (.inl rfl) (Ok.lst Ok.nil) (fun more_rows_84 => (OkB.forR (C := CC__law_orders P w K mg base 0) (Γl := fun (s_85 : D) => [some (.frz n_80), some (.frz s_82), none, some (.own s_85), none, none]) (s0 := more_rows_84) (OkI.val (Ok.var (i := 1) rfl (.inl rfl) rfl) (fun h => by first | rfl | cases h)) (wk_mask (bs := [true, true, false, true, false, false])) (fun s_85 row_86 => (BindOk.name (i := 4) rfl (.inr rfl) (.inl rfl) (BindOk.nil (OkB.ext (C := CC__law_orders P w K mg base 0) (i := 3) rfl (.inl rfl) rfl (Ok.view (OkC.n (Ok.lc [("k", 5)] (OkI.range1 (Ok.view (Ok.var (i := 0) rfl (.inl rfl) rfl)) rfl z_range) fun k_88 => (BindOk.name (i := 5) rfl (.inl rfl) (.inr rfl) (BindOk.nil ⟨_, _, (OkTs.one (OkT.cmp o_nin (Ok.view (Ok.var (i := 5) rfl (.inl rfl) rfl)) (Ok.view (Ok.var (i := 4) rfl (.inr (.inl rfl)) rfl)))), (Ok.frz (Ok.op o_add (Ok.view (Ok.var (i := 4) rfl (.inr (.inl rfl)) rfl)) (Ok.view (Ok.tup (Ok.cons (Ok.var (i := 5) rfl (.inl rfl) rfl) Ok.nil))))), rfl⟩))))) fun more_rows_87 => (OkB.nil (s := more_rows_87) (wk_mask (bs := [true, true, false, true, false, false]))))))) fun s_89 => (OkB.freeze 3 rfl (OkB.set (C := CC__law_orders P w K mg base 0) (i := 1) rfl (.inl rfl) (.inl rfl) (Ok.var (i := 3) rfl (.inl rfl) rfl) (fun rows_91 => (OkB.nil (s := rows_91) (wk_mask (bs := [true, true, false, false, false, false])))))))))))) fun s_92 => (OkB.ret (Ok.var (i := 1) rfl (.inl rfl) rfl)))))
abbrev s__law_is : Stmt := topS 21
theorem sc__law_is : FnScope ["tiles", "size", "row", "rows", "columns", "i", "j", "here"] ["tiles", "size", "row"] (defScope s__law_is) := ⟨rfl, rfl, rfl, by decide +kernel, rfl, by decide +kernel, by decide +kernel⟩
abbrev CC__law_is (P : Program) (w : World) (K : PySem.W.Frag) (mg : Str → Option Value) (base : Heap) (k : Nat) : Stat := ⟨⟨P, w, K, mg, base⟩, ["tiles", "size", "row", "rows", "columns", "i", "j", "here"], defScope s__law_is, k, fun _ => true⟩
def b__law_is (tiles_93 : D) (size_94 : D) (row_95 : D) : M Tp (Fl Unit Unit) :=
  (pat2 (fun rows_97 columns_98 => (forM' (rng1M (ret rows_97)) (fun (s_99 : Unit) i_100 => (forM' (rng1M (ret columns_98)) (fun (s_101 : Unit) j_102 => (bnd (ixM (ret tiles_93) (ixM (ret row_95) (op2M addD (op2M mulWD (ret i_100) (ret columns_98)) (ret j_102)))) fun here_103 => (iteF (andT (cmpT ltD (op2M addD (ret j_102) (ret (.int 1))) (ret columns_98)) (cmpT neD (ixM (ret here_103) (ret (.int 1))) (ixM (ixM (ret tiles_93) (ixM (ret row_95) (op2M addD (op2M addD (op2M mulWD (ret i_100) (ret columns_98)) (ret j_102)) (ret (.int 1))))) (ret (.int 3))))) (retF (ret (.bl false))) (ret (.nx ())) fun (s_104 : Unit) => (iteF (andT (cmpT ltD (op2M addD (ret i_100) (ret (.int 1))) (ret rows_97)) (cmpT neD (ixM (ret here_103) (ret (.int 2))) (ixM (ixM (ret tiles_93) (ixM (ret row_95) (op2M addD (op2M addD (op2M mulWD (ret i_100) (ret columns_98)) (ret j_102)) (ret columns_98)))) (ret (.int 0))))) (retF (ret (.bl false))) (ret (.nx ())) fun (s_105 : Unit) => (ret (.nx ())))))) () fun s_106 => (ret (.nx ())))) () fun s_107 => (retF (ret (.bl true))))) size_94)
def mb__law_is : List D → M Tp (Fl Unit Unit)
  | [tiles_93, size_94, row_95] => b__law_is tiles_93 size_94 row_95
  | _ => stuck
def m__law_is (ds : List D) : M Tp D := bnd (mb__law_is ds) endF
set_option maxHeartbeats 0 in
theorem h__law_is {f : Addr} {fd : FuncData} (F : Fun K "_law_is" "_law_is" s__law_is f fd) (g : mg "_law_is" = some (.ref f)) (z_range : mg "range" = none) : HasF (S := Tp) ⟨P, w, K, mg, base⟩ 1 "_law_is" 3 m__law_is :=
  hasF_mk g F sc__law_is (F.binds fun _ _ _ _ _ _ us hl => match us, hl with | [_, _, _], _ => rfl) rfl fun ds hl => match ds, hl with
    | [tiles_93, size_94, row_95], _ =>
      (OkB.unpackV (C := CC__law_is P w K mg base 0) (Ok.var (i := 1) rfl (.inl rfl) rfl) (BindOk.tup2 rfl fun rows_97 columns_98 => (BindOk.name (i := 3) rfl (.inl rfl) (.inl rfl) (BindOk.name (i := 4) rfl (.inl rfl) (.inl rfl) (BindOk.nil (OkB.forR (C := CC__law_is P w K mg base 0) (Γl := fun (s_99 : Unit) => [some (.frz tiles_93), none, some (.frz row_95), some (.frz rows_97), some (.frz columns_98), none, none, none]) (s0 := ()) (OkI.range1 (Ok.view (Ok.var (i := 3) rfl (.inl rfl) rfl)) rfl z_range) (wk_mask (bs := [true, false, true, true, true, false, false, false])) (fun s_99 i_100 => (BindOk.name (i := 5) rfl (.inl rfl) (.inl rfl) (BindOk.nil (OkB.forR (C := CC__law_is P w K mg base 0) (Γl := fun (s_101 : Unit) => [some (.frz tiles_93), none, some (.frz row_95), some (.frz rows_97), some (.frz columns_98), some (.frz i_100), none, none]) (s0 := ()) (OkI.range1 (Ok.view (Ok.var (i := 4) rfl (.inl rfl) rfl)) rfl z_range) (wk_mask (bs := [true, false, true, true, true, true, false, false])) (fun s_101 j_102 => (BindOk.name (i := 6) rfl (.inl rfl) (.inl rfl) (BindOk.nil (OkB.set (C := CC__law_is P w K mg base 0) (i := 7) rfl (.inl rfl) (.inl rfl) (Ok.ix (Ok.view (Ok.var (i := 0) rfl (.inl rfl) rfl)) (Ok.view (Ok.ix (Ok.view (Ok.var (i := 2) rfl (.inl rfl) rfl)) (Ok.view (Ok.op o_add (Ok.view (Ok.op o_mulW (Ok.view (Ok.var (i := 5) rfl (.inl rfl) rfl)) (Ok.view (Ok.var (i := 4) rfl (.inl rfl) rfl)))) (Ok.view (Ok.var (i := 6) rfl (.inl rfl) rfl))))))) (fun here_103 => (OkB.ite (C := CC__law_is P w K mg base 0) (Γj := fun (s_104 : Unit) => [some (.frz tiles_93), none, some (.frz row_95), some (.frz rows_97), some (.frz columns_98), some (.frz i_100), some (.frz j_102), some (.frz here_103)]) (OkW.pt (OkW.and (OkT.cmp o_lt (Ok.view (Ok.op o_add (Ok.view (Ok.var (i := 6) rfl (.inl rfl) rfl)) (Ok.view Ok.int))) (Ok.view (Ok.var (i := 4) rfl (.inl rfl) rfl))) (OkW.and1 (OkT.cmp o_ne (Ok.view (Ok.ix (Ok.view (Ok.var (i := 7) rfl (.inl rfl) rfl)) (Ok.view Ok.int))) (Ok.view (Ok.ix (Ok.view (Ok.ix (Ok.view (Ok.var (i := 0) rfl (.inl rfl) rfl)) (Ok.view (Ok.ix (Ok.view (Ok.var (i := 2) rfl (.inl rfl) rfl)) (Ok.view (Ok.op o_add (Ok.view (Ok.op o_add (Ok.view (Ok.op o_mulW (Ok.view (Ok.var (i := 5) rfl (.inl rfl) rfl)) (Ok.view (Ok.var (i := 4) rfl (.inl rfl) rfl)))) (Ok.view (Ok.var (i := 6) rfl (.inl rfl) rfl)))) (Ok.view Ok.int))))))) (Ok.view Ok.int))))))) (OkB.ret Ok.bl) (OkB.nil (s := ()) (wk_mask (bs := [true, false, true, true, true, true, true, true]))) fun s_104 => (OkB.ite (C := CC__law_is P w K mg base 0) (Γj := fun (s_105 : Unit) => [some (.frz tiles_93), none, some (.frz row_95), some (.frz rows_97), some (.frz columns_98), some (.frz i_100), none, none]) (OkW.pt (OkW.and (OkT.cmp o_lt (Ok.view (Ok.op o_add (Ok.view (Ok.var (i := 5) rfl (.inl rfl) rfl)) (Ok.view Ok.int))) (Ok.view (Ok.var (i := 3) rfl (.inl rfl) rfl))) (OkW.and1 (OkT.cmp o_ne (Ok.view (Ok.ix (Ok.view (Ok.var (i := 7) rfl (.inl rfl) rfl)) (Ok.view Ok.int))) (Ok.view (Ok.ix (Ok.view (Ok.ix (Ok.view (Ok.var (i := 0) rfl (.inl rfl) rfl)) (Ok.view (Ok.ix (Ok.view (Ok.var (i := 2) rfl (.inl rfl) rfl)) (Ok.view (Ok.op o_add (Ok.view (Ok.op o_add (Ok.view (Ok.op o_mulW (Ok.view (Ok.var (i := 5) rfl (.inl rfl) rfl)) (Ok.view (Ok.var (i := 4) rfl (.inl rfl) rfl)))) (Ok.view (Ok.var (i := 6) rfl (.inl rfl) rfl)))) (Ok.view (Ok.var (i := 4) rfl (.inl rfl) rfl)))))))) (Ok.view Ok.int))))))) (OkB.ret Ok.bl) (OkB.nil (s := ()) (wk_mask (bs := [true, false, true, true, true, true, false, false]))) fun s_105 => (OkB.nil (s := ()) (wk_mask (bs := [true, false, true, true, true, true, false, false])))))))))) fun s_106 => (OkB.nil (s := ()) (wk_mask (bs := [true, false, true, true, true, false, false, false]))))))) fun s_107 => (OkB.ret Ok.bl)))))))
abbrev s_law : Stmt := topS 22
theorem sc_law : FnScope ["script", "tape", "turn", "size", "rows", "columns", "n", "signs", "tiles", "flat", "high", "left", "i", "value", "every", "some", "values", "plain", "due", "word", "one", "other", "most", "sign", "more", "j", "k", "row", "tile"] ["script"] (defScope s_law) := ⟨rfl, rfl, rfl, by decide +kernel, rfl, by decide +kernel, by decide +kernel⟩
abbrev CC_law (P : Program) (w : World) (K : PySem.W.Frag) (mg : Str → Option Value) (base : Heap) (k : Nat) : Stat := ⟨⟨P, w, K, mg, base⟩, ["script", "tape", "turn", "size", "rows", "columns", "n", "signs", "tiles", "flat", "high", "left", "i", "value", "every", "some", "values", "plain", "due", "word", "one", "other", "most", "sign", "more", "j", "k", "row", "tile"], defScope s_law, k, fun _ => true⟩
def b_law : M Tp (Fl Unit Unit) :=
  (iteF (orT (cmpT neD (bnd (consM (tupM (consM (tupM (consM (ret (.int 0)) (consM (ret (.int 1)) (consM (ret (.int 0)) (consM (ret (.int 2)) (ret [])))))) (consM (tupM (consM (ret (.int 0)) (consM (ret (.int 2)) (consM (ret (.int 0)) (consM (ret (.int 1)) (ret [])))))) (ret [])))) (consM (tupM (consM (ret (.int 1)) (consM (ret (.int 2)) (ret [])))) (ret []))) m_first_laying) (tupM (consM (ret (.int 0)) (consM (ret (.int 1)) (ret []))))) (cmpT neD (bnd (consM (tupM (consM (tupM (consM (ret (.int 0)) (consM (ret (.int 1)) (consM (ret (.int 0)) (consM (ret (.int 2)) (ret [])))))) (consM (tupM (consM (ret (.int 0)) (consM (ret (.int 2)) (consM (ret (.int 0)) (consM (ret (.int 1)) (ret [])))))) (ret [])))) (consM (tupM (consM (ret (.int 2)) (consM (ret (.int 1)) (ret [])))) (ret []))) m_count_layings) (ret (.int 2)))) (retF (ret (.bl false))) (ret (.nx ())) fun (s_109 : Unit) => (iteF (cmpT neD (bnd (consM (tupM (consM (tupM (consM (ret (.int 0)) (consM (ret (.int 1)) (consM (ret (.int 0)) (consM (ret (.int 2)) (ret [])))))) (consM (tupM (consM (ret (.int 0)) (consM (ret (.int 1)) (consM (ret (.int 0)) (consM (ret (.int 2)) (ret [])))))) (ret [])))) (consM (tupM (consM (ret (.int 1)) (consM (ret (.int 2)) (ret [])))) (ret []))) m_surplus_of) (tupM (consM (ret (.str "right")) (consM (ret (.int 1)) (ret []))))) (retF (ret (.bl false))) (ret (.nx ())) fun (s_110 : Unit) => (forM' (rng1M (ret (.int 2))) (fun (s_111 : Unit) turn_112 => (bnd (ixM (lstM (consM (tupM (consM (ret (.int 1)) (consM (ret (.int 1)) (ret [])))) (consM (tupM (consM (ret (.int 1)) (consM (ret (.int 3)) (ret [])))) (consM (tupM (consM (ret (.int 2)) (consM (ret (.int 2)) (ret [])))) (consM (tupM (consM (ret (.int 3)) (consM (ret (.int 1)) (ret [])))) (consM (tupM (consM (ret (.int 2)) (consM (ret (.int 3)) (ret [])))) (consM (tupM (consM (ret (.int 3)) (consM (ret (.int 2)) (ret [])))) (ret [])))))))) (bnd (consM (ret .box) (consM (ret (.int 6)) (ret []))) m_take)) fun size_113 => (pat2 (fun rows_115 columns_116 => (parM .E .E (op2M mulWD (ret rows_115) (ret columns_116)) (op2M addD (ret (.int 1)) (bnd (consM (ret .box) (consM (ret (.int 4)) (ret []))) m_take)) fun n_117 signs_118 => (bnd (compM (rng1M (ret n_117)) fun j_171 => (eltM (ret true) (bcM tupleD (consM (compM (rng1M (ret (.int 4))) fun k_172 => (eltM (ret true) (bnd (consM (ret .box) (consM (ret signs_118) (ret []))) m_take))) (ret []))))) fun tiles_119 => (iteF (cmpT gtD (bnd (consM (ret .box) (consM (ret (.int 3)) (ret []))) m_take) (ret (.int 0))) (bnd (compM (rng1M (op2M addD (ret rows_115) (ret (.int 1)))) fun i_134 => (eltM (ret true) (compM (rng1M (ret columns_116)) fun j_135 => (eltM (ret true) (bnd (consM (ret .box) (consM (ret signs_118) (ret []))) m_take))))) fun flat_120 => (bnd (compM (rng1M (ret rows_115)) fun i_132 => (eltM (ret true) (compM (rng1M (op2M addD (ret columns_116) (ret (.int 1)))) fun j_133 => (eltM (ret true) (bnd (consM (ret .box) (consM (ret signs_118) (ret []))) m_take))))) fun high_121 => (ownM (lstM (ret [])) fun left_122 => (forM' (rng1M (ret rows_115)) (fun (s_123 : D) i_124 => (extM s_123 (compM (rng1M (ret columns_116)) fun j_126 => (eltM (ret true) (tupM (consM (ixM (ixM (ret flat_120) (ret i_124)) (ret j_126)) (consM (ixM (ixM (ret high_121) (ret i_124)) (op2M addD (ret j_126) (ret (.int 1)))) (consM (ixM (ixM (ret flat_120) (op2M addD (ret i_124) (ret (.int 1)))) (ret j_126)) (consM (ixM (ixM (ret high_121) (ret i_124)) (ret j_126)) (ret [])))))))) fun left_125 => (ret (.nx left_125)))) left_122 fun s_127 => (popS (rng1M (ret n_117)) s_127 (fun xs_128 k_129 => (popE xs_128 (bnd (consM (ret .box) (consM (bcM lenD (consM (ret (.lst xs_128)) (ret []))) (ret []))) m_take))) fun tiles_130 left_131 => (ret (.nx tiles_130))))))) (ret (.nx tiles_119)) fun (s_136 : D) => (bnd (bcM tupleD (consM (ret s_136) (ret []))) fun tiles_137 => (forM' (itM (op2M addD (lstM (consM (ret tiles_137) (consM (revM (ret tiles_137)) (consM (op2M mulWD (ret tiles_137) (ret (.int 10))) (consM (tupM (consM (tupM (consM (ret (.int 0)) (consM (ret (.int 0)) (consM (ret (.int 0)) (ret []))))) (ret []))) (consM (tupM (consM (tupM (consM (ret (.int 0)) (consM (ret (.int 0)) (consM (ret (.int 0)) (consM (ret (.int 10)) (ret [])))))) (ret []))) (consM (tupM (consM (tupM (consM (ret (.int 9)) (consM (ret (.int 9)) (consM (ret (.int 9)) (consM (ret (.int 0)) (ret [])))))) (ret []))) (consM (tupM (consM (tupM (consM (negM (ret (.int 1))) (consM (ret (.int 0)) (consM (ret (.int 0)) (consM (ret (.int 0)) (ret [])))))) (ret []))) (consM (tupM (consM (tupM (consM (ret (.int 0)) (consM (ret (.int 0)) (consM (ret (.int 0)) (consM (ret (.bl true)) (ret [])))))) (ret []))) (consM (tupM (ret [])) (consM (ret .non) (ret [])))))))))))) (compM (rng1M (ret (.int 4))) fun k_138 => (eltM (ret true) (bnd (consM (ret .box) (consM (ret tiles_137) (ret []))) (m__law_spoilt 60)))))) (fun (s_139 : Unit) value_140 => (iteF (notT (valT (bnd (consM (bnd (consM (ret value_140) (ret [])) m_are_tiles) (consM (bnd (consM (ret value_140) (ret [])) m__law_are_tiles) (ret []))) (m__law_same 60)))) (retF (ret (.bl false))) (ret (.nx ())) fun (s_141 : Unit) => (ret (.nx ())))) () fun s_142 => (bnd (compM (itM (bnd (consM (ret n_117) (ret [])) m__law_orders)) fun row_170 => (eltM (valT (bnd (consM (ret tiles_137) (consM (ret size_113) (consM (ret row_170) (ret [])))) m__law_is)) (ret row_170))) fun every_143 => (iteF (notT (valT (bnd (consM (tupM (consM (bnd (consM (ret tiles_137) (consM (ret size_113) (ret []))) m_first_laying) (consM (bnd (consM (ret tiles_137) (consM (ret size_113) (ret []))) m_count_layings) (ret [])))) (consM (tupM (consM (ifM (cmpT neD (ret every_143) (lstM (ret []))) (ixM (ret every_143) (ret (.int 0))) (ret .non)) (consM (bcM lenD (consM (ret every_143) (ret []))) (ret [])))) (ret []))) (m__law_same 60)))) (retF (ret (.bl false))) (ret (.nx ())) fun (s_144 : Unit) => (bnd (ifM (cmpT neD (ret every_143) (lstM (ret []))) (ixM (ret every_143) (bnd (consM (ret .box) (consM (bcM lenD (consM (ret every_143) (ret []))) (ret []))) m_take)) (rg1M trgD (ret n_117))) fun some_145 => (bnd (lstM (consM (ret some_145) (consM (revM (ret some_145)) (consM (slM (ret some_145) (ptM (ret (.int 1))) (ret none)) (consM (op2M addD (slM (ret some_145) (ptM (ret (.int 1))) (ret none)) (slM (ret some_145) (ret none) (ptM (ret (.int 1))))) (consM (op2M addD (ret some_145) (slM (ret some_145) (ret none) (ptM (ret (.int 1))))) (consM (rg1M trgD (ret n_117)) (consM (op2M mulWD (tupM (consM (ret (.int 0)) (ret []))) (ret n_117)) (consM (op2M addD (tupM (consM (ret n_117) (ret []))) (slM (ret some_145) (ptM (ret (.int 1))) (ret none))) (consM (op2M addD (tupM (consM (ret (.bl true)) (ret []))) (slM (ret some_145) (ptM (ret (.int 1))) (ret none))) (consM (tupM (ret [])) (ret [])))))))))))) fun values_146 => (forM' (itM (op2M addD (op2M addD (ret values_146) (lstM (consM (ret .non) (ret [])))) (compM (rng1M (ret (.int 5))) fun k_147 => (eltM (ret true) (bnd (consM (ret .box) (consM (ret some_145) (ret []))) (m__law_spoilt 60)))))) (fun (s_148 : Unit) value_149 => (bnd (andM (isiM "tuple" (ret value_149)) (andM (bcM allD (consM (compM (itM (ret value_149)) fun k_152 => (eltM (ret true) (andM (isiM "int" (ret k_152)) (notM (isiM "bool" (ret k_152)))))) (ret []))) (op2M eqD (bcM sorted3D (consM (ret value_149) (ret []))) (rg1M lrgD (ret n_117))))) fun plain_150 => (iteF (notT (valT (bnd (consM (bnd (consM (ret tiles_137) (consM (ret size_113) (consM (ret value_149) (ret [])))) m_is_laying) (consM (andM (ret plain_150) (bnd (consM (ret tiles_137) (consM (ret size_113) (consM (ret value_149) (ret [])))) m__law_is)) (ret []))) (m__law_same 60)))) (retF (ret (.bl false))) (ret (.nx ())) fun (s_151 : Unit) => (ret (.nx ()))))) () fun s_153 => (bnd (lstM (ret [])) fun due_154 => (forM' (itM (tupM (consM (tupM (consM (ret (.str "right")) (consM (ret (.int 1)) (consM (ret (.int 3)) (consM (ret rows_115) (ret [])))))) (consM (tupM (consM (ret (.str "down")) (consM (ret (.int 2)) (consM (ret (.int 0)) (consM (ret columns_116) (ret [])))))) (ret []))))) (fun (s_155 : D) t_156 => (pat4 (fun word_157 one_158 other_159 most_160 => (forM' (rng1M (ret (.int 10))) (fun (s_161 : D) sign_162 => (bnd (op2M subD (bcM lenD (consM (compM (itM (ret tiles_137)) fun tile_165 => (eltM (cmpT eqD (ixM (ret tile_165) (ret one_158)) (ret sign_162)) (ret tile_165))) (ret []))) (bcM lenD (consM (compM (itM (ret tiles_137)) fun tile_166 => (eltM (cmpT eqD (ixM (ret tile_166) (ret other_159)) (ret sign_162)) (ret tile_166))) (ret [])))) fun more_163 => (bnd (op2M addD (ret s_161) (ifM (orT (cmpT gtD (ret more_163) (ret most_160)) (cmpT gtD (op2M subD (ret (.int 0)) (ret more_163)) (ret most_160))) (lstM (consM (tupM (consM (ret word_157) (consM (ret sign_162) (ret [])))) (ret []))) (lstM (ret [])))) fun due_164 => (ret (.nx due_164))))) s_155 fun s_167 => (ret (.nx s_167)))) t_156)) due_154 fun s_168 => (iteF (orT (notT (valT (bnd (consM (bnd (consM (ret tiles_137) (consM (ret size_113) (ret []))) m_surplus_of) (consM (ifM (cmpT neD (ret s_168) (lstM (ret []))) (ixM (ret s_168) (ret (.int 0))) (ret .non)) (ret []))) (m__law_same 60)))) (andT (cmpT neD (ret s_168) (lstM (ret []))) (cmpT neD (ret every_143) (lstM (ret []))))) (retF (ret (.bl false))) (ret (.nx ())) fun (s_169 : Unit) => (ret (.nx ())))))))))))))))) size_113))) () fun s_173 => (retF (ret (.bl true))))))
set_option maxHeartbeats 0 in
theorem h_law {f fB : Addr} {fd fdB : FuncData} (F : Fun K "law" "law" s_law f fd) (z_all : mg "all" = none) (z_bool : mg "bool" = none) (z_int : mg "int" = none) (z_isinstance : mg "isinstance" = none) (z_len : mg "len" = none) (z_list : mg "list" = none) (z_range : mg "range" = none) (z_sorted : mg "sorted" = none) (z_tuple : mg "tuple" = none) (h_count_layings : HasF (S := Tp) ⟨P, w, K, mg, base⟩ 3 "count_layings" 2 m_count_layings) (h_first_laying : HasF (S := Tp) ⟨P, w, K, mg, base⟩ 3 "first_laying" 2 m_first_laying) (h_surplus_of : HasF (S := Tp) ⟨P, w, K, mg, base⟩ 1 "surplus_of" 2 m_surplus_of) (h__law_take : HasF (S := Tp) ⟨P, w, K, mg, base⟩ 2 "_law_take" 2 m_take) (h__law_spoilt : HasF (S := Tp) ⟨P, w, K, mg, base⟩ 63 "_law_spoilt" 2 (m__law_spoilt 60)) (h__law_are_tiles : HasF (S := Tp) ⟨P, w, K, mg, base⟩ 1 "_law_are_tiles" 1 m__law_are_tiles) (h_are_tiles : HasF (S := Tp) ⟨P, w, K, mg, base⟩ 3 "are_tiles" 1 m_are_tiles) (h__law_same : HasF (S := Tp) ⟨P, w, K, mg, base⟩ 61 "_law_same" 2 (m__law_same 60)) (h__law_is : HasF (S := Tp) ⟨P, w, K, mg, base⟩ 1 "_law_is" 3 m__law_is) (h_is_laying : HasF (S := Tp) ⟨P, w, K, mg, base⟩ 2 "is_laying" 3 m_is_laying) (h__law_orders : HasF (S := Tp) ⟨P, w, K, mg, base⟩ 1 "_law_orders" 1 m__law_orders) (GB : FnOk P w K mg base CX0 1 fB fdB ["script"] (spTape K)) (kpB : PySem.W.keepIn K (.ref fB) = true) (bB : Binds K fdB ["script"] []) (gB : mg "_law_tape" = some (.ref fB)) (hm : ∀ b : Tp, ∃ b', bnd b_law endF b = some (.bl true, b')) :
    FnOk P w K mg base CX0 64 f fd ["script"] (spLaw K) :=
  ok_law_ofT (i := 1) F sc_law GB kpB bB gB (Nat.le_of_ble_eq_true rfl) rfl rfl rfl (.inl rfl) rfl rfl (.inr rfl) rfl
    (OkB.ite (C := CC_law P w K mg base 63) (Γj := fun (s_109 : Unit) => [none, some (.frz .box), none, none, none, none, none, none, none, none, none, none, none, none, none, none, none, none, none, none, none, none, none, none, none, none, none, none, none]) (OkW.pt (OkW.or (OkT.cmp o_ne (Ok.view (Ok.call h_first_laying (Nat.le_of_ble_eq_true rfl) rfl (Ok.cons (Ok.tup (Ok.cons (Ok.tup (Ok.cons Ok.int (Ok.cons Ok.int (Ok.cons Ok.int (Ok.cons Ok.int Ok.nil))))) (Ok.cons (Ok.tup (Ok.cons Ok.int (Ok.cons Ok.int (Ok.cons Ok.int (Ok.cons Ok.int Ok.nil))))) Ok.nil))) (Ok.cons (Ok.tup (Ok.cons Ok.int (Ok.cons Ok.int Ok.nil))) Ok.nil)))) (Ok.view (Ok.tup (Ok.cons Ok.int (Ok.cons Ok.int Ok.nil))))) (OkW.or1 (OkT.cmp o_ne (Ok.view (Ok.call h_count_layings (Nat.le_of_ble_eq_true rfl) rfl (Ok.cons (Ok.tup (Ok.cons (Ok.tup (Ok.cons Ok.int (Ok.cons Ok.int (Ok.cons Ok.int (Ok.cons Ok.int Ok.nil))))) (Ok.cons (Ok.tup (Ok.cons Ok.int (Ok.cons Ok.int (Ok.cons Ok.int (Ok.cons Ok.int Ok.nil))))) Ok.nil))) (Ok.cons (Ok.tup (Ok.cons Ok.int (Ok.cons Ok.int Ok.nil))) Ok.nil)))) (Ok.view Ok.int))))) (OkB.ret Ok.bl) (OkB.nil (s := ()) (wk_mask (bs := [false, true, false, false, false, false, false, false, false, false, false, false, false, false, false, false, false, false, false, false, false, false, false, false, false, false, false, false, false]))) fun s_109 => (OkB.ite (C := CC_law P w K mg base 63) (Γj := fun (s_110 : Unit) => [none, some (.frz .box), none, none, none, none, none, none, none, none, none, none, none, none, none, none, none, none, none, none, none, none, none, none, none, none, none, none, none]) (OkT.cmp o_ne (Ok.view (Ok.call h_surplus_of (Nat.le_of_ble_eq_true rfl) rfl (Ok.cons (Ok.tup (Ok.cons (Ok.tup (Ok.cons Ok.int (Ok.cons Ok.int (Ok.cons Ok.int (Ok.cons Ok.int Ok.nil))))) (Ok.cons (Ok.tup (Ok.cons Ok.int (Ok.cons Ok.int (Ok.cons Ok.int (Ok.cons Ok.int Ok.nil))))) Ok.nil))) (Ok.cons (Ok.tup (Ok.cons Ok.int (Ok.cons Ok.int Ok.nil))) Ok.nil)))) (Ok.view (Ok.tup (Ok.cons Ok.str (Ok.cons Ok.int Ok.nil))))) (OkB.ret Ok.bl) (OkB.nil (s := ()) (wk_mask (bs := [false, true, false, false, false, false, false, false, false, false, false, false, false, false, false, false, false, false, false, false, false, false, false, false, false, false, false, false, false]))) fun s_110 => (OkB.forR (C := CC_law P w K mg base 63) (Γl := fun (s_111 : Unit) => [none, some (.frz .box), none, none, none, none, none, none, none, none, none, none, none, none, none, none, none, none, none, none, none, none, none, none, none, none, none, none, none]) (s0 := ()) (OkI.range1 (Ok.view Ok.int) rfl z_range) (wk_mask (bs := [false, true, false, false, false, false, false, false, false, false, false, false, false, false, false, false, false, false, false, false, false, false, false, false, false, false, false, false, false])) (fun s_111 turn_112 => (BindOk.name (i := 2) rfl (.inl rfl) (.inl rfl) (BindOk.nil (OkB.set (C := CC_law P w K mg base 63) (i := 3) rfl (.inr rfl) (.inl rfl) (Ok.ix (Ok.view (Ok.lst (Ok.cons (Ok.tup (Ok.cons Ok.int (Ok.cons Ok.int Ok.nil))) (Ok.cons (Ok.tup (Ok.cons Ok.int (Ok.cons Ok.int Ok.nil))) (Ok.cons (Ok.tup (Ok.cons Ok.int (Ok.cons Ok.int Ok.nil))) (Ok.cons (Ok.tup (Ok.cons Ok.int (Ok.cons Ok.int Ok.nil))) (Ok.cons (Ok.tup (Ok.cons Ok.int (Ok.cons Ok.int Ok.nil))) (Ok.cons (Ok.tup (Ok.cons Ok.int (Ok.cons Ok.int Ok.nil))) Ok.nil)))))))) (Ok.view (Ok.call h__law_take (Nat.le_of_ble_eq_true rfl) rfl (Ok.cons (Ok.var (i := 1) rfl (.inr (.inl rfl)) rfl) (Ok.cons Ok.int Ok.nil))))) (fun size_113 => (OkB.unpackV (C := CC_law P w K mg base 63) (Ok.var (i := 3) rfl (.inr (.inl rfl)) rfl) (BindOk.tup2 rfl fun rows_115 columns_116 => (BindOk.name (i := 4) rfl (.inl rfl) (.inl rfl) (BindOk.name (i := 5) rfl (.inr rfl) (.inl rfl) (BindOk.nil (OkB.parT2 (C := CC_law P w K mg base 63) (i := 6) (j := 7) rfl rfl (.inl rfl) (.inr rfl) (.inl rfl) (.inl rfl) (Ok.frz (Ok.op o_mulW (Ok.view (Ok.var (i := 4) rfl (.inl rfl) rfl)) (Ok.view (Ok.var (i := 5) rfl (.inr (.inl rfl)) rfl)))) (Ok.frz (Ok.op o_add (Ok.view Ok.int) (Ok.view (Ok.call h__law_take (Nat.le_of_ble_eq_true rfl) rfl (Ok.cons (Ok.var (i := 1) rfl (.inr (.inl rfl)) rfl) (Ok.cons Ok.int Ok.nil)))))) (.inl rfl) (.inl rfl) (fun n_117 signs_118 => (OkB.set (C := CC_law P w K mg base 63) (i := 8) rfl (.inr rfl) (.inl rfl) (Ok.frz (OkC.n (Ok.lc [("j", 25)] (OkI.range1 (Ok.view (Ok.var (i := 6) rfl (.inl rfl) rfl)) rfl z_range) fun j_171 => (BindOk.name (i := 25) rfl (.inl rfl) (.inr rfl) (BindOk.nil ⟨_, _, OkTs.nil, (Ok.frz (Ok.tfun o_tuple (by decide +kernel) rfl z_tuple (Ok.cons (Ok.view (OkC.n (Ok.lc [("k", 26)] (OkI.range1 (Ok.view Ok.int) rfl z_range) fun k_172 => (BindOk.name (i := 26) rfl (.inl rfl) (.inr rfl) (BindOk.nil ⟨_, _, OkTs.nil, (Ok.call h__law_take (Nat.le_of_ble_eq_true rfl) rfl (Ok.cons (Ok.var (i := 1) rfl (.inr (.inl rfl)) rfl) (Ok.cons (Ok.var (i := 7) rfl (.inr (.inl rfl)) rfl) Ok.nil))), rfl⟩))))) Ok.nil))), rfl⟩))))) (fun tiles_119 => (OkB.ite (C := CC_law P w K mg base 63) (Γj := fun (s_136 : D) => [none, some (.frz .box), none, some (.frz size_113), some (.frz rows_115), some (.frz columns_116), some (.frz n_117), none, some (.frz s_136), none, none, none, none, none, none, none, none, none, none, none, none, none, none, none, none, none, none, none, none]) (OkT.cmp o_gt (Ok.view (Ok.call h__law_take (Nat.le_of_ble_eq_true rfl) rfl (Ok.cons (Ok.var (i := 1) rfl (.inr (.inl rfl)) rfl) (Ok.cons Ok.int Ok.nil)))) (Ok.view Ok.int)) (OkB.set (C := CC_law P w K mg base 63) (i := 9) rfl (.inr rfl) (.inl rfl) (Ok.frz (OkC.n (Ok.lc [("i", 12)] (OkI.range1 (Ok.view (Ok.op o_add (Ok.view (Ok.var (i := 4) rfl (.inl rfl) rfl)) (Ok.view Ok.int))) rfl z_range) fun i_134 => (BindOk.name (i := 12) rfl (.inl rfl) (.inr rfl) (BindOk.nil ⟨_, _, OkTs.nil, (Ok.frz (OkC.n (Ok.lc [("j", 25)] (OkI.range1 (Ok.view (Ok.var (i := 5) rfl (.inr (.inl rfl)) rfl)) rfl z_range) fun j_135 => (BindOk.name (i := 25) rfl (.inl rfl) (.inr rfl) (BindOk.nil ⟨_, _, OkTs.nil, (Ok.call h__law_take (Nat.le_of_ble_eq_true rfl) rfl (Ok.cons (Ok.var (i := 1) rfl (.inr (.inl rfl)) rfl) (Ok.cons (Ok.var (i := 7) rfl (.inr (.inl rfl)) rfl) Ok.nil))), rfl⟩))))), rfl⟩))))) (fun flat_120 => (OkB.set (C := CC_law P w K mg base 63) (i := 10) rfl (.inr rfl) (.inl rfl) (Ok.frz (OkC.n (Ok.lc [("i", 12)] (OkI.range1 (Ok.view (Ok.var (i := 4) rfl (.inl rfl) rfl)) rfl z_range) fun i_132 => (BindOk.name (i := 12) rfl (.inl rfl) (.inr rfl) (BindOk.nil ⟨_, _, OkTs.nil, (Ok.frz (OkC.n (Ok.lc [("j", 25)] (OkI.range1 (Ok.view (Ok.op o_add (Ok.view (Ok.var (i := 5) rfl (.inr (.inl rfl)) rfl)) (Ok.view Ok.int))) rfl z_range) fun j_133 => (BindOk.name (i := 25) rfl (.inl rfl) (.inr rfl) (BindOk.nil ⟨_, _, OkTs.nil, (Ok.call h__law_take (Nat.le_of_ble_eq_true rfl) rfl (Ok.cons (Ok.var (i := 1) rfl (.inr (.inl rfl)) rfl) (Ok.cons (Ok.var (i := 7) rfl (.inr (.inl rfl)) rfl) Ok.nil))), rfl⟩))))), rfl⟩))))) (fun high_121 => (OkB.setO (C := CC_law P w K mg base 63) (i := 11) rfl (.inr rfl) (.inl rfl) (Ok.lst Ok.nil) (fun left_122 => (OkB.forR (C := CC_law P w K mg base 63) (Γl := fun (s_123 : D) => [none, some (.frz .box), none, some (.frz size_113), some (.frz rows_115), some (.frz columns_116), some (.frz n_117), none, none, some (.frz flat_120), some (.frz high_121), some (.own s_123), none, none, none, none, none, none, none, none, none, none, none, none, none, none, none, none, none]) (s0 := left_122) (OkI.range1 (Ok.view (Ok.var (i := 4) rfl (.inl rfl) rfl)) rfl z_range) (wk_mask (bs := [false, true, false, true, true, true, true, false, false, true, true, true, false, false, false, false, false, false, false, false, false, false, false, false, false, false, false, false, false])) (fun s_123 i_124 => (BindOk.name (i := 12) rfl (.inr rfl) (.inl rfl) (BindOk.nil (OkB.ext (C := CC_law P w K mg base 63) (i := 11) rfl (.inr (.inl rfl)) rfl (Ok.view (OkC.n (Ok.lc [("j", 25)] (OkI.range1 (Ok.view (Ok.var (i := 5) rfl (.inr (.inl rfl)) rfl)) rfl z_range) fun j_126 => (BindOk.name (i := 25) rfl (.inl rfl) (.inr rfl) (BindOk.nil ⟨_, _, OkTs.nil, (Ok.tup (Ok.cons (Ok.ix (Ok.view (Ok.ix (Ok.view (Ok.var (i := 9) rfl (.inr (.inl rfl)) rfl)) (Ok.view (Ok.var (i := 12) rfl (.inr (.inl rfl)) rfl)))) (Ok.view (Ok.var (i := 25) rfl (.inl rfl) rfl))) (Ok.cons (Ok.ix (Ok.view (Ok.ix (Ok.view (Ok.var (i := 10) rfl (.inr (.inl rfl)) rfl)) (Ok.view (Ok.var (i := 12) rfl (.inr (.inl rfl)) rfl)))) (Ok.view (Ok.op o_add (Ok.view (Ok.var (i := 25) rfl (.inl rfl) rfl)) (Ok.view Ok.int)))) (Ok.cons (Ok.ix (Ok.view (Ok.ix (Ok.view (Ok.var (i := 9) rfl (.inr (.inl rfl)) rfl)) (Ok.view (Ok.op o_add (Ok.view (Ok.var (i := 12) rfl (.inr (.inl rfl)) rfl)) (Ok.view Ok.int))))) (Ok.view (Ok.var (i := 25) rfl (.inl rfl) rfl))) (Ok.cons (Ok.ix (Ok.view (Ok.ix (Ok.view (Ok.var (i := 10) rfl (.inr (.inl rfl)) rfl)) (Ok.view (Ok.var (i := 12) rfl (.inr (.inl rfl)) rfl)))) (Ok.view (Ok.var (i := 25) rfl (.inl rfl) rfl))) Ok.nil))))), rfl⟩))))) fun left_125 => (OkB.nil (s := left_125) (wk_mask (bs := [false, true, false, true, true, true, true, false, false, true, true, true, false, false, false, false, false, false, false, false, false, false, false, false, false, false, false, false, false]))))))) fun s_127 => (OkB.popC (C := CC_law P w K mg base 63) (i := 8) (j := 11) rfl (.inr rfl) (.inl rfl) rfl (fun xs0 h0 => OkP.lc [("k", 26)] h0 (OkI.range1 (Ok.view (Ok.var (i := 6) rfl (.inl rfl) rfl)) rfl z_range) rfl (.inr (.inl rfl)) fun xs_128 k_129 => (BindOk.name (i := 26) rfl (.inl rfl) (.inr rfl) (BindOk.nil ⟨_, rfl, (Ok.view (Ok.call h__law_take (Nat.le_of_ble_eq_true rfl) rfl (Ok.cons (Ok.var (i := 1) rfl (.inr (.inl rfl)) rfl) (Ok.cons (Ok.frz (Ok.bfun o_len (by decide +kernel) rfl z_len (Ok.cons (Ok.own (i := 11) rfl (.inr (.inl rfl)) rfl) Ok.nil))) Ok.nil)))), rfl⟩))) (fun tiles_130 left_131 => (OkB.nil (s := tiles_130) (wk_mask (bs := [false, true, false, true, true, true, true, false, true, false, false, false, false, false, false, false, false, false, false, false, false, false, false, false, false, false, false, false, false])))) (hs := fun env h => sw_cell h rfl)))))) (hs := fun env h => sw_cell h rfl))) (hs := fun env h => sw_cell h rfl)) (OkB.nil (s := tiles_119) (wk_mask (bs := [false, true, false, true, true, true, true, false, true, false, false, false, false, false, false, false, false, false, false, false, false, false, false, false, false, false, false, false, false]))) fun s_136 => (OkB.set (C := CC_law P w K mg base 63) (i := 8) rfl (.inr rfl) (.inl rfl) (Ok.frz (Ok.tfun o_tuple (by decide +kernel) rfl z_tuple (Ok.cons (Ok.view (Ok.var (i := 8) rfl (.inr (.inl rfl)) rfl)) Ok.nil))) (fun tiles_137 => (OkB.forR (C := CC_law P w K mg base 63) (Γl := fun (s_139 : Unit) => [none, some (.frz .box), none, some (.frz size_113), some (.frz rows_115), some (.frz columns_116), some (.frz n_117), none, some (.frz tiles_137), none, none, none, none, none, none, none, none, none, none, none, none, none, none, none, none, none, none, none, none]) (s0 := ()) (OkI.val (Ok.op o_add (Ok.view (Ok.lst (Ok.cons (Ok.var (i := 8) rfl (.inr (.inl rfl)) rfl) (Ok.cons (Ok.frz (Ok.rev (Ok.view (Ok.var (i := 8) rfl (.inr (.inl rfl)) rfl)))) (Ok.cons (Ok.frz (Ok.op o_mulW (Ok.view (Ok.var (i := 8) rfl (.inr (.inl rfl)) rfl)) (Ok.view Ok.int))) (Ok.cons (Ok.tup (Ok.cons (Ok.tup (Ok.cons Ok.int (Ok.cons Ok.int (Ok.cons Ok.int Ok.nil)))) Ok.nil)) (Ok.cons (Ok.tup (Ok.cons (Ok.tup (Ok.cons Ok.int (Ok.cons Ok.int (Ok.cons Ok.int (Ok.cons Ok.int Ok.nil))))) Ok.nil)) (Ok.cons (Ok.tup (Ok.cons (Ok.tup (Ok.cons Ok.int (Ok.cons Ok.int (Ok.cons Ok.int (Ok.cons Ok.int Ok.nil))))) Ok.nil)) (Ok.cons (Ok.tup (Ok.cons (Ok.tup (Ok.cons (Ok.neg' (Ok.view Ok.int)) (Ok.cons Ok.int (Ok.cons Ok.int (Ok.cons Ok.int Ok.nil))))) Ok.nil)) (Ok.cons (Ok.tup (Ok.cons (Ok.tup (Ok.cons Ok.int (Ok.cons Ok.int (Ok.cons Ok.int (Ok.cons Ok.bl Ok.nil))))) Ok.nil)) (Ok.cons (Ok.tup Ok.nil) (Ok.cons Ok.non Ok.nil)))))))))))) (Ok.view (OkC.n (Ok.lc [("k", 26)] (OkI.range1 (Ok.view Ok.int) rfl z_range) fun k_138 => (BindOk.name (i := 26) rfl (.inl rfl) (.inr rfl) (BindOk.nil ⟨_, _, OkTs.nil, (Ok.call h__law_spoilt (Nat.le_of_ble_eq_true rfl) rfl (Ok.cons (Ok.var (i := 1) rfl (.inr (.inl rfl)) rfl) (Ok.cons (Ok.var (i := 8) rfl (.inr (.inl rfl)) rfl) Ok.nil))), rfl⟩)))))) (fun h => by first | rfl | cases h)) (wk_mask (bs := [false, true, false, true, true, true, true, false, true, false, false, false, false, false, false, false, false, false, false, false, false, false, false, false, false, false, false, false, false])) (fun s_139 value_140 => (BindOk.name (i := 13) rfl (.inl rfl) (.inl rfl) (BindOk.nil (OkB.ite (C := CC_law P w K mg base 63) (Γj := fun (s_141 : Unit) => [none, some (.frz .box), none, some (.frz size_113), some (.frz rows_115), some (.frz columns_116), some (.frz n_117), none, some (.frz tiles_137), none, none, none, none, none, none, none, none, none, none, none, none, none, none, none, none, none, none, none, none]) (OkT.not (OkT.val (Ok.view (Ok.call h__law_same (Nat.le_of_ble_eq_true rfl) rfl (Ok.cons (Ok.call h_are_tiles (Nat.le_of_ble_eq_true rfl) rfl (Ok.cons (Ok.var (i := 13) rfl (.inl rfl) rfl) Ok.nil)) (Ok.cons (Ok.call h__law_are_tiles (Nat.le_of_ble_eq_true rfl) rfl (Ok.cons (Ok.var (i := 13) rfl (.inl rfl) rfl) Ok.nil)) Ok.nil)))))) (OkB.ret Ok.bl) (OkB.nil (s := ()) (wk_mask (bs := [false, true, false, true, true, true, true, false, true, false, false, false, false, false, false, false, false, false, false, false, false, false, false, false, false, false, false, false, false]))) fun s_141 => (OkB.nil (s := ()) (wk_mask (bs := [false, true, false, true, true, true, true, false, true, false, false, false, false, false, false, false, false, false, false, false, false, false, false, false, false, false, false, false, false]))))))) fun s_142 => (OkB.setC (C := CC_law P w K mg base 63) (i := 14) rfl rfl rfl (Ok.lc [("row", 27)] (OkI.val (Ok.call h__law_orders (Nat.le_of_ble_eq_true rfl) rfl (Ok.cons (Ok.var (i := 6) rfl (.inl rfl) rfl) Ok.nil)) (fun h => by first | rfl | cases h)) fun row_170 => (BindOk.name (i := 27) rfl (.inl rfl) (.inr rfl) (BindOk.nil ⟨_, _, (OkTs.one (OkT.val (Ok.view (Ok.call h__law_is (Nat.le_of_ble_eq_true rfl) rfl (Ok.cons (Ok.var (i := 8) rfl (.inr (.inl rfl)) rfl) (Ok.cons (Ok.var (i := 3) rfl (.inr (.inl rfl)) rfl) (Ok.cons (Ok.var (i := 27) rfl (.inl rfl) rfl) Ok.nil))))))), (Ok.var (i := 27) rfl (.inl rfl) rfl), rfl⟩))) fun every_143 => (OkB.ite (C := CC_law P w K mg base 63) (Γj := fun (s_144 : Unit) => [none, some (.frz .box), none, some (.frz size_113), some (.frz rows_115), some (.frz columns_116), some (.frz n_117), none, some (.frz tiles_137), none, none, none, none, none, some (.frz every_143), none, none, none, none, none, none, none, none, none, none, none, none, none, none]) (OkT.not (OkT.val (Ok.view (Ok.call h__law_same (Nat.le_of_ble_eq_true rfl) rfl (Ok.cons (Ok.tup (Ok.cons (Ok.call h_first_laying (Nat.le_of_ble_eq_true rfl) rfl (Ok.cons (Ok.var (i := 8) rfl (.inr (.inl rfl)) rfl) (Ok.cons (Ok.var (i := 3) rfl (.inr (.inl rfl)) rfl) Ok.nil))) (Ok.cons (Ok.call h_count_layings (Nat.le_of_ble_eq_true rfl) rfl (Ok.cons (Ok.var (i := 8) rfl (.inr (.inl rfl)) rfl) (Ok.cons (Ok.var (i := 3) rfl (.inr (.inl rfl)) rfl) Ok.nil))) Ok.nil))) (Ok.cons (Ok.tup (Ok.cons (Ok.ife (OkT.cmp o_ne (Ok.view (Ok.var (i := 14) rfl (.inl rfl) rfl)) (Ok.view (Ok.lst Ok.nil))) (Ok.ix (Ok.view (Ok.var (i := 14) rfl (.inl rfl) rfl)) (Ok.view Ok.int)) Ok.non) (Ok.cons (Ok.frz (Ok.bfun o_len (by decide +kernel) rfl z_len (Ok.cons (Ok.view (Ok.var (i := 14) rfl (.inl rfl) rfl)) Ok.nil))) Ok.nil))) Ok.nil)))))) (OkB.ret Ok.bl) (OkB.nil (s := ()) (wk_mask (bs := [false, true, false, true, true, true, true, false, true, false, false, false, false, false, true, false, false, false, false, false, false, false, false, false, false, false, false, false, false]))) fun s_144 => (OkB.set (C := CC_law P w K mg base 63) (i := 15) rfl (.inr rfl) (.inl rfl) (Ok.ife (OkT.cmp o_ne (Ok.view (Ok.var (i := 14) rfl (.inl rfl) rfl)) (Ok.view (Ok.lst Ok.nil))) (Ok.ix (Ok.view (Ok.var (i := 14) rfl (.inl rfl) rfl)) (Ok.view (Ok.call h__law_take (Nat.le_of_ble_eq_true rfl) rfl (Ok.cons (Ok.var (i := 1) rfl (.inr (.inl rfl)) rfl) (Ok.cons (Ok.frz (Ok.bfun o_len (by decide +kernel) rfl z_len (Ok.cons (Ok.view (Ok.var (i := 14) rfl (.inl rfl) rfl)) Ok.nil))) Ok.nil))))) (Ok.trg1 (Ok.view (Ok.var (i := 6) rfl (.inl rfl) rfl)) rfl z_tuple rfl z_range)) (fun some_145 => (OkB.set (C := CC_law P w K mg base 63) (i := 16) rfl (.inl rfl) (.inl rfl) (Ok.frz (Ok.lst (Ok.cons (Ok.var (i := 15) rfl (.inr (.inl rfl)) rfl) (Ok.cons (Ok.frz (Ok.rev (Ok.view (Ok.var (i := 15) rfl (.inr (.inl rfl)) rfl)))) (Ok.cons (Ok.frz (Ok.sl (Ok.view (Ok.var (i := 15) rfl (.inr (.inl rfl)) rfl)) (OkO.some (Ok.view Ok.int)) OkO.none)) (Ok.cons (Ok.frz (Ok.op o_add (Ok.view (Ok.sl (Ok.view (Ok.var (i := 15) rfl (.inr (.inl rfl)) rfl)) (OkO.some (Ok.view Ok.int)) OkO.none)) (Ok.view (Ok.sl (Ok.view (Ok.var (i := 15) rfl (.inr (.inl rfl)) rfl)) OkO.none (OkO.some (Ok.view Ok.int)))))) (Ok.cons (Ok.frz (Ok.op o_add (Ok.view (Ok.var (i := 15) rfl (.inr (.inl rfl)) rfl)) (Ok.view (Ok.sl (Ok.view (Ok.var (i := 15) rfl (.inr (.inl rfl)) rfl)) OkO.none (OkO.some (Ok.view Ok.int)))))) (Ok.cons (Ok.trg1 (Ok.view (Ok.var (i := 6) rfl (.inl rfl) rfl)) rfl z_tuple rfl z_range) (Ok.cons (Ok.frz (Ok.op o_mulW (Ok.view (Ok.tup (Ok.cons Ok.int Ok.nil))) (Ok.view (Ok.var (i := 6) rfl (.inl rfl) rfl)))) (Ok.cons (Ok.frz (Ok.op o_add (Ok.view (Ok.tup (Ok.cons (Ok.var (i := 6) rfl (.inl rfl) rfl) Ok.nil))) (Ok.view (Ok.sl (Ok.view (Ok.var (i := 15) rfl (.inr (.inl rfl)) rfl)) (OkO.some (Ok.view Ok.int)) OkO.none)))) (Ok.cons (Ok.frz (Ok.op o_add (Ok.view (Ok.tup (Ok.cons Ok.bl Ok.nil))) (Ok.view (Ok.sl (Ok.view (Ok.var (i := 15) rfl (.inr (.inl rfl)) rfl)) (OkO.some (Ok.view Ok.int)) OkO.none)))) (Ok.cons (Ok.tup Ok.nil) Ok.nil)))))))))))) (fun values_146 => (OkB.forR (C := CC_law P w K mg base 63) (Γl := fun (s_148 : Unit) => [none, some (.frz .box), none, some (.frz size_113), some (.frz rows_115), some (.frz columns_116), some (.frz n_117), none, some (.frz tiles_137), none, none, none, none, none, some (.frz every_143), some (.frz some_145), some (.frz values_146), none, none, none, none, none, none, none, none, none, none, none, none]) (s0 := ()) (OkI.val (Ok.op o_add (Ok.view (Ok.op o_add (Ok.view (Ok.var (i := 16) rfl (.inl rfl) rfl)) (Ok.view (Ok.lst (Ok.cons Ok.non Ok.nil))))) (Ok.view (OkC.n (Ok.lc [("k", 26)] (OkI.range1 (Ok.view Ok.int) rfl z_range) fun k_147 => (BindOk.name (i := 26) rfl (.inl rfl) (.inr rfl) (BindOk.nil ⟨_, _, OkTs.nil, (Ok.call h__law_spoilt (Nat.le_of_ble_eq_true rfl) rfl (Ok.cons (Ok.var (i := 1) rfl (.inr (.inl rfl)) rfl) (Ok.cons (Ok.var (i := 15) rfl (.inr (.inl rfl)) rfl) Ok.nil))), rfl⟩)))))) (fun h => by first | rfl | cases h)) (wk_mask (bs := [false, true, false, true, true, true, true, false, true, false, false, false, false, false, true, true, true, false, false, false, false, false, false, false, false, false, false, false, false])) (fun s_148 value_149 => (BindOk.name (i := 13) rfl (.inl rfl) (.inl rfl) (BindOk.nil (OkB.set (C := CC_law P w K mg base 63) (i := 17) rfl (.inl rfl) (.inl rfl) (Ok.and (Ok.view (Ok.isinst (T := "tuple") (Ok.view (Ok.var (i := 13) rfl (.inl rfl) rfl)) rfl z_isinstance rfl z_tuple (by decide +kernel))) (Ok.and (Ok.view (Ok.bfun o_all (by decide +kernel) rfl z_all (Ok.cons (Ok.view (OkC.n (Ok.lc [("k", 26)] (OkI.val (Ok.var (i := 13) rfl (.inl rfl) rfl) (fun h => by first | rfl | cases h)) fun k_152 => (BindOk.name (i := 26) rfl (.inl rfl) (.inr rfl) (BindOk.nil ⟨_, _, OkTs.nil, (Ok.and (Ok.view (Ok.isinst (T := "int") (Ok.view (Ok.var (i := 26) rfl (.inl rfl) rfl)) rfl z_isinstance rfl z_int (by decide +kernel))) (Ok.one (Ok.not (Ok.view (Ok.isinst (T := "bool") (Ok.view (Ok.var (i := 26) rfl (.inl rfl) rfl)) rfl z_isinstance rfl z_bool (by decide +kernel)))))), rfl⟩))))) Ok.nil))) (Ok.one (Ok.frz (Ok.cmp o_eq (Ok.view (Ok.bfun o_sorted3 (by decide +kernel) rfl z_sorted (Ok.cons (Ok.view (Ok.var (i := 13) rfl (.inl rfl) rfl)) Ok.nil))) (Ok.view (Ok.lrg1 (Ok.view (Ok.var (i := 6) rfl (.inl rfl) rfl)) rfl z_list rfl z_range))))))) (fun plain_150 => (OkB.ite (C := CC_law P w K mg base 63) (Γj := fun (s_151 : Unit) => [none, some (.frz .box), none, some (.frz size_113), some (.frz rows_115), some (.frz columns_116), some (.frz n_117), none, some (.frz tiles_137), none, none, none, none, none, some (.frz every_143), some (.frz some_145), some (.frz values_146), none, none, none, none, none, none, none, none, none, none, none, none]) (OkT.not (OkT.val (Ok.view (Ok.call h__law_same (Nat.le_of_ble_eq_true rfl) rfl (Ok.cons (Ok.call h_is_laying (Nat.le_of_ble_eq_true rfl) rfl (Ok.cons (Ok.var (i := 8) rfl (.inr (.inl rfl)) rfl) (Ok.cons (Ok.var (i := 3) rfl (.inr (.inl rfl)) rfl) (Ok.cons (Ok.var (i := 13) rfl (.inl rfl) rfl) Ok.nil)))) (Ok.cons (Ok.and (Ok.view (Ok.var (i := 17) rfl (.inl rfl) rfl)) (Ok.one (Ok.call h__law_is (Nat.le_of_ble_eq_true rfl) rfl (Ok.cons (Ok.var (i := 8) rfl (.inr (.inl rfl)) rfl) (Ok.cons (Ok.var (i := 3) rfl (.inr (.inl rfl)) rfl) (Ok.cons (Ok.var (i := 13) rfl (.inl rfl) rfl) Ok.nil)))))) Ok.nil)))))) (OkB.ret Ok.bl) (OkB.nil (s := ()) (wk_mask (bs := [false, true, false, true, true, true, true, false, true, false, false, false, false, false, true, true, true, false, false, false, false, false, false, false, false, false, false, false, false]))) fun s_151 => (OkB.nil (s := ()) (wk_mask (bs := [false, true, false, true, true, true, true, false, true, false, false, false, false, false, true, true, true, false, false, false, false, false, false, false, false, false, false, false, false]))))))))) fun s_153 => (OkB.set (C := CC_law P w K mg base 63) (i := 18) rfl (.inl rfl) (.inl rfl) (Ok.frz (Ok.lst Ok.nil)) (fun due_154 => (OkB.forR (C := CC_law P w K mg base 63) (Γl := fun (s_155 : D) => [none, some (.frz .box), none, some (.frz size_113), some (.frz rows_115), some (.frz columns_116), none, none, some (.frz tiles_137), none, none, none, none, none, some (.frz every_143), none, none, none, some (.frz s_155), none, none, none, none, none, none, none, none, none, none]) (s0 := due_154) (OkI.val (Ok.tup (Ok.cons (Ok.tup (Ok.cons Ok.str (Ok.cons Ok.int (Ok.cons Ok.int (Ok.cons (Ok.var (i := 4) rfl (.inl rfl) rfl) Ok.nil))))) (Ok.cons (Ok.tup (Ok.cons Ok.str (Ok.cons Ok.int (Ok.cons Ok.int (Ok.cons (Ok.var (i := 5) rfl (.inr (.inl rfl)) rfl) Ok.nil))))) Ok.nil))) (fun h => by first | rfl | cases h)) (wk_mask (bs := [false, true, false, true, true, true, false, false, true, false, false, false, false, false, true, false, false, false, true, false, false, false, false, false, false, false, false, false, false])) (fun s_155 t_156 => (BindOk.tup4 rfl fun word_157 one_158 other_159 most_160 => (BindOk.name (i := 19) rfl (.inl rfl) (.inl rfl) (BindOk.name (i := 20) rfl (.inr rfl) (.inl rfl) (BindOk.name (i := 21) rfl (.inr rfl) (.inl rfl) (BindOk.name (i := 22) rfl (.inl rfl) (.inl rfl) (BindOk.nil (OkB.forR (C := CC_law P w K mg base 63) (Γl := fun (s_161 : D) => [none, some (.frz .box), none, some (.frz size_113), some (.frz rows_115), some (.frz columns_116), none, none, some (.frz tiles_137), none, none, none, none, none, some (.frz every_143), none, none, none, some (.frz s_161), some (.frz word_157), some (.frz one_158), some (.frz other_159), some (.frz most_160), none, none, none, none, none, none]) (s0 := s_155) (OkI.range1 (Ok.view Ok.int) rfl z_range) (wk_mask (bs := [false, true, false, true, true, true, false, false, true, false, false, false, false, false, true, false, false, false, true, true, true, true, true, false, false, false, false, false, false])) (fun s_161 sign_162 => (BindOk.name (i := 23) rfl (.inr rfl) (.inl rfl) (BindOk.nil (OkB.set (C := CC_law P w K mg base 63) (i := 24) rfl (.inl rfl) (.inl rfl) (Ok.frz (Ok.op o_sub (Ok.view (Ok.bfun o_len (by decide +kernel) rfl z_len (Ok.cons (Ok.view (OkC.n (Ok.lc [("tile", 28)] (OkI.val (Ok.var (i := 8) rfl (.inr (.inl rfl)) rfl) (fun h => by first | rfl | cases h)) fun tile_165 => (BindOk.name (i := 28) rfl (.inl rfl) (.inr rfl) (BindOk.nil ⟨_, _, (OkTs.one (OkT.cmp o_eq (Ok.view (Ok.ix (Ok.view (Ok.var (i := 28) rfl (.inl rfl) rfl)) (Ok.view (Ok.var (i := 20) rfl (.inr (.inl rfl)) rfl)))) (Ok.view (Ok.var (i := 23) rfl (.inr (.inl rfl)) rfl)))), (Ok.var (i := 28) rfl (.inl rfl) rfl), rfl⟩))))) Ok.nil))) (Ok.view (Ok.bfun o_len (by decide +kernel) rfl z_len (Ok.cons (Ok.view (OkC.n (Ok.lc [("tile", 28)] (OkI.val (Ok.var (i := 8) rfl (.inr (.inl rfl)) rfl) (fun h => by first | rfl | cases h)) fun tile_166 => (BindOk.name (i := 28) rfl (.inl rfl) (.inr rfl) (BindOk.nil ⟨_, _, (OkTs.one (OkT.cmp o_eq (Ok.view (Ok.ix (Ok.view (Ok.var (i := 28) rfl (.inl rfl) rfl)) (Ok.view (Ok.var (i := 21) rfl (.inr (.inl rfl)) rfl)))) (Ok.view (Ok.var (i := 23) rfl (.inr (.inl rfl)) rfl)))), (Ok.var (i := 28) rfl (.inl rfl) rfl), rfl⟩))))) Ok.nil))))) (fun more_163 => (OkB.set (C := CC_law P w K mg base 63) (i := 18) rfl (.inl rfl) (.inl rfl) (Ok.frz (Ok.op o_add (Ok.view (Ok.var (i := 18) rfl (.inl rfl) rfl)) (Ok.view (Ok.ife (OkW.pt (OkW.or (OkT.cmp o_gt (Ok.view (Ok.var (i := 24) rfl (.inl rfl) rfl)) (Ok.view (Ok.var (i := 22) rfl (.inl rfl) rfl))) (OkW.or1 (OkT.cmp o_gt (Ok.view (Ok.op o_sub (Ok.view Ok.int) (Ok.view (Ok.var (i := 24) rfl (.inl rfl) rfl)))) (Ok.view (Ok.var (i := 22) rfl (.inl rfl) rfl)))))) (Ok.lst (Ok.cons (Ok.tup (Ok.cons (Ok.var (i := 19) rfl (.inl rfl) rfl) (Ok.cons (Ok.var (i := 23) rfl (.inr (.inl rfl)) rfl) Ok.nil))) Ok.nil)) (Ok.lst Ok.nil))))) (fun due_164 => (OkB.nil (s := due_164) (wk_mask (bs := [false, true, false, true, true, true, false, false, true, false, false, false, false, false, true, false, false, false, true, true, true, true, true, false, false, false, false, false, false])))))))))) fun s_167 => (OkB.nil (s := s_167) (wk_mask (bs := [false, true, false, true, true, true, false, false, true, false, false, false, false, false, true, false, false, false, true, false, false, false, false, false, false, false, false, false, false]))))))))))) fun s_168 => (OkB.ite (C := CC_law P w K mg base 63) (Γj := fun (s_169 : Unit) => [none, some (.frz .box), none, none, none, none, none, none, none, none, none, none, none, none, none, none, none, none, none, none, none, none, none, none, none, none, none, none, none]) (OkW.pt (OkW.or (OkT.not (OkT.val (Ok.view (Ok.call h__law_same (Nat.le_of_ble_eq_true rfl) rfl (Ok.cons (Ok.call h_surplus_of (Nat.le_of_ble_eq_true rfl) rfl (Ok.cons (Ok.var (i := 8) rfl (.inr (.inl rfl)) rfl) (Ok.cons (Ok.var (i := 3) rfl (.inr (.inl rfl)) rfl) Ok.nil))) (Ok.cons (Ok.ife (OkT.cmp o_ne (Ok.view (Ok.var (i := 18) rfl (.inl rfl) rfl)) (Ok.view (Ok.lst Ok.nil))) (Ok.ix (Ok.view (Ok.var (i := 18) rfl (.inl rfl) rfl)) (Ok.view Ok.int)) Ok.non) Ok.nil)))))) (OkW.or1 (OkW.pt (OkW.and (OkT.cmp o_ne (Ok.view (Ok.var (i := 18) rfl (.inl rfl) rfl)) (Ok.view (Ok.lst Ok.nil))) (OkW.and1 (OkT.cmp o_ne (Ok.view (Ok.var (i := 14) rfl (.inl rfl) rfl)) (Ok.view (Ok.lst Ok.nil))))))))) (OkB.ret Ok.bl) (OkB.nil (s := ()) (wk_mask (bs := [false, true, false, false, false, false, false, false, false, false, false, false, false, false, false, false, false, false, false, false, false, false, false, false, false, false, false, false, false]))) fun s_169 => (OkB.nil (s := ()) (wk_mask (bs := [false, true, false, false, false, false, false, false, false, false, false, false, false, false, false, false, false, false, false, false, false, false, false, false, false, false, false, false, false]))))))))))))))))))) (hs := fun env h => sw_cell h rfl)))))))))))))) fun s_173 => (OkB.ret Ok.bl))))
    hm
end
end Lw

namespace Sn
open PySem PySem.Spec PyProof.Rows L2
/-! ### computations that may be undefined, told by plain ones of exactly the same domain -/
section
variable {S : Type} {α β γ σ : Type} {τ l τ' l' : Type}
def obind (o : Option α) (k : α → M S β) : M S β := match o with
  | some a => k a
  | none => stuck
theorem ob_some (a : α) (k : α → M S β) : obind (some a) k = k a := (rfl)
theorem ob_none (k : α → M S β) : obind none k = stuck := (rfl)
theorem ob_bnd (o : Option α) (f : α → M S β) (k : β → M S γ) : bnd (obind o f) k = obind o fun a => bnd (f a) k := by cases o <;> rfl
theorem ob_bind (o : Option α) (g : α → Option β) (k : β → M S γ) : obind (o.bind g) k = obind o fun a => obind (g a) k := by cases o <;> rfl
theorem ob_map (o : Option α) (g : α → β) (k : β → M S γ) : obind (o.map g) k = obind o fun a => k (g a) := by cases o <;> rfl
theorem ob_ite (c : Prop) [Decidable c] (o p : Option α) (k : α → M S β) : obind (if c then o else p) k = if c then obind o k else obind p k := by split <;> rfl
theorem ob_congr {o : Option α} {k k' : α → M S β} (h : ∀ a, o = some a → k a = k' a) : obind o k = obind o k' := by
  cases o with
  | none => rfl
  | some a => exact h a rfl
theorem ob_stuck (o : Option α) : obind o (fun _ => (stuck : M S β)) = stuck := by cases o <;> rfl
theorem ob_op2l (g : D → D → Option D) (o : Option α) (f : α → M S D) (mb : M S D) : op2M g (obind o f) mb = obind o fun a => op2M g (f a) mb := by cases o <;> rfl
theorem ob_op2r (g : D → D → Option D) (x : D) (o : Option α) (f : α → M S D) : op2M g (ret x) (obind o f) = obind o fun a => op2M g (ret x) (f a) := by cases o <;> rfl
theorem ob_cmpl (g : D → D → Option D) (o : Option α) (f : α → M S D) (mb : M S D) : cmpT g (obind o f) mb = obind o fun a => cmpT g (f a) mb := by cases o <;> rfl
theorem ob_cmpr (g : D → D → Option D) (x : D) (o : Option α) (f : α → M S D) : cmpT g (ret x) (obind o f) = obind o fun a => cmpT g (ret x) (f a) := by cases o <;> rfl
theorem ob_consl (o : Option α) (f : α → M S D) (mr : M S (List D)) : consM (obind o f) mr = obind o fun a => consM (f a) mr := by cases o <;> rfl
theorem ob_consr (x : D) (o : Option α) (f : α → M S (List D)) : consM (ret x) (obind o f) = obind o fun a => consM (ret x) (f a) := by cases o <;> rfl
theorem ob_tup (o : Option α) (f : α → M S (List D)) : tupM (obind o f) = obind o fun a => tupM (f a) := by cases o <;> rfl
theorem ob_lst (o : Option α) (f : α → M S (List D)) : lstM (obind o f) = obind o fun a => lstM (f a) := by cases o <;> rfl
theorem ob_bc (g : List D → Option D) (o : Option α) (f : α → M S (List D)) : bcM g (obind o f) = obind o fun a => bcM g (f a) := by cases o <;> rfl
theorem ob_ixl (o : Option α) (f : α → M S D) (mb : M S D) : ixM (obind o f) mb = obind o fun a => ixM (f a) mb := by cases o <;> rfl
theorem ob_ixr (x : D) (o : Option α) (f : α → M S D) : ixM (ret x) (obind o f) = obind o fun a => ixM (ret x) (f a) := by cases o <;> rfl
theorem ob_retF (o : Option α) (f : α → M S D) : (retF (obind o f) : M S (Fl τ l)) = obind o fun a => retF (f a) := by cases o <;> rfl
theorem ob_neg (o : Option α) (f : α → M S D) : negM (obind o f) = obind o fun a => negM (f a) := by cases o <;> rfl
theorem ob_notM (o : Option α) (f : α → M S D) : notM (obind o f) = obind o fun a => notM (f a) := by cases o <;> rfl
theorem ob_val (o : Option α) (f : α → M S D) : valT (obind o f) = obind o fun a => valT (f a) := by cases o <;> rfl
theorem ob_not (o : Option α) (f : α → M S Bool) : notT (obind o f) = obind o fun a => notT (f a) := by cases o <;> rfl
theorem ob_and (o : Option α) (f : α → M S Bool) (k : M S Bool) : andT (obind o f) k = obind o fun a => andT (f a) k := by cases o <;> rfl
theorem ob_or (o : Option α) (f : α → M S Bool) (k : M S Bool) : orT (obind o f) k = obind o fun a => orT (f a) k := by cases o <;> rfl
theorem ob_ifM (o : Option α) (f : α → M S Bool) (x y : M S β) : ifM (obind o f) x y = obind o fun a => ifM (f a) x y := by cases o <;> rfl
theorem ob_elt (o : Option α) (f : α → M S D) : eltM (ret true) (obind o f) = obind o fun a => eltM (ret true) (f a) := by cases o <;> rfl
theorem ob_iteF (o : Option α) (f : α → M S Bool) (mA mB : M S (Fl τ' l)) (k : τ' → M S (Fl τ l)) : iteF (obind o f) mA mB k = obind o fun a => iteF (f a) mA mB k := by cases o <;> rfl
theorem ob_it (o : Option α) (f : α → M S D) : itM (obind o f) = obind o fun a => itM (f a) := by cases o <;> rfl
theorem ob_for (o : Option α) (f : α → M S (List D)) (g : τ → D → M S (Fl τ τ)) (s0 : τ) (k : τ → M S (Fl τ' l')) : forM' (obind o f) g s0 k = obind o fun a => forM' (f a) g s0 k := by cases o <;> rfl
theorem ob_comp (o : Option α) (f : α → M S (List D)) (g : D → M S (Option D)) : compM (obind o f) g = obind o fun a => compM (f a) g := by cases o <;> rfl
theorem ob_app (d : D) (o : Option α) (f : α → M S D) (k : D → M S (Fl τ l)) : appM d (obind o f) k = obind o fun a => appM d (f a) k := by cases o <;> rfl
theorem ob_own (o : Option α) (f : α → M S D) (k : D → M S (Fl τ l)) : ownM (obind o f) k = obind o fun a => ownM (f a) k := by cases o <;> rfl
theorem ob_parl (x y : Md) (o : Option α) (f : α → M S D) (mb : M S D) (k : D → D → M S (Fl τ l)) : parM x y (obind o f) mb k = obind o fun a => parM x y (f a) mb k := by cases o <;> rfl
theorem ob_parr (x y : Md) (d : D) (o : Option α) (f : α → M S D) (k : D → D → M S (Fl τ l)) : parM x y (ret d) (obind o f) k = obind o fun a => parM x y (ret d) (f a) k := by cases o <;> rfl
theorem ob_enum (o : Option α) (f : α → M S D) : enumM (obind o f) = obind o fun a => enumM (f a) := by cases o <;> rfl
theorem ob_aug2l (g : Int → Int → Int) (d : D) (o : Option α) (f : α → M S D) (me : M S D) (k : D → M S (Fl τ l)) : aug2M g d (obind o f) me k = obind o fun a => aug2M g d (f a) me k := by cases o <;> rfl
theorem ob_aug2r (g : Int → Int → Int) (d x : D) (o : Option α) (f : α → M S D) (k : D → M S (Fl τ l)) : aug2M g d (ret x) (obind o f) k = obind o fun a => aug2M g d (ret x) (f a) k := by cases o <;> rfl
theorem ob_dsetl (d : D) (o : Option α) (f : α → M S D) (mk : M S D) (k : D → M S (Fl τ l)) : dsetM d (obind o f) mk k = obind o fun a => dsetM d (f a) mk k := by cases o <;> rfl
theorem ob_dsetr (d x : D) (o : Option α) (f : α → M S D) (k : D → M S (Fl τ l)) : dsetM d (ret x) (obind o f) k = obind o fun a => dsetM d (ret x) (f a) k := by cases o <;> rfl
/-- ints -/
def wmul (i j : Int) : Option Int := if CMulX i j then some (i * j) else none
def wdiv (i j : Int) : Option Int := if CDivW i j then some (i / j) else none
def wmod (i j : Int) : Option Int := if 0 < j then some (i % j) else none
theorem ob_mul (i j : Int) : (lift (mulWD (.int i) (.int j)) : M S D) = obind (wmul i j) fun k => ret (.int k) := by
  show lift (if CMulX i j then some (D.int (i * j)) else none) = obind (if CMulX i j then some (i * j) else none) _
  split <;> rfl
theorem ob_div (i j : Int) : (lift (divWD (.int i) (.int j)) : M S D) = obind (wdiv i j) fun k => ret (.int k) := by
  show lift (if CDivW i j then some (D.int (i / j)) else none) = obind (if CDivW i j then some (i / j) else none) _
  split <;> rfl
theorem ob_mod (i j : Int) : (lift (modD (.int i) (.int j)) : M S D) = obind (wmod i j) fun k => ret (.int k) := by
  show lift (if 0 < j then some (D.int (i % j)) else none) = obind (if 0 < j then some (i % j) else none) _
  split <;> rfl
theorem ob_at (f : α → D) (xs : List α) (i : Int) : (lift (atI (xs.map f) i) : M S D) = obind (atI xs i) fun x => ret (f x) := by
  rw [atI_map]
  cases atI xs i <;> rfl
/-- the items of a list, each by a computation that may be undefined -/
def mapO (g : α → Option β) : List α → Option (List β)
  | [] => some []
  | x :: xs => (g x).bind fun y => (mapO g xs).map fun ys => y :: ys
def foldO (g : σ → α → Option σ) : σ → List α → Option σ
  | s, [] => some s
  | s, x :: xs => (g s x).bind fun s' => foldO g s' xs
theorem compL_O {f : α → M S (Option D)} (g : α → Option β) (e : β → D) : ∀ {xs : List α}, (∀ x ∈ xs, f x = obind (g x) fun y => ret (some (e y))) → compL f xs = obind (mapO g xs) fun ys => ret (ys.map e)
  | [], _ => rfl
  | x :: xs, h => by
    rw [compL_cons, h x List.mem_cons_self, compL_O g e fun y hy => h y (List.mem_cons_of_mem _ hy)]
    show _ = obind ((g x).bind fun y => (mapO g xs).map fun ys => y :: ys) _
    cases g x with
    | none => rfl
    | some y =>
      cases mapO g xs <;> rfl
theorem forE_O (e : σ → τ) (g : σ → α → Option σ) {f : τ → α → M S (Fl τ τ)} {k : τ → M S (Fl τ' l')} : ∀ {xs : List α} {s : σ}, (∀ s, ∀ x ∈ xs, f (e s) x = obind (g s x) fun s' => ret (.nx (e s'))) → forE f k xs (e s) = obind (foldO g s xs) fun s' => k (e s')
  | [], _, _ => rfl
  | x :: xs, s, h => by
    show bnd (f (e s) x) _ = obind ((g s x).bind fun s' => foldO g s' xs) _
    rw [h s x List.mem_cons_self]
    cases g s x with
    | none => rfl
    | some s' => exact forE_O e g fun s y hy => h s y (List.mem_cons_of_mem _ hy)
/-- ranges, lists: what bounds their length -/
def rg1 (j : Int) : Option (List Int) := if -(2 ^ 62) ≤ j ∧ j < 2 ^ 62 then some (rI 0 j) else none
def rg2 (i j : Int) : Option (List Int) := if -(2 ^ 62) ≤ i ∧ i < 2 ^ 62 ∧ -(2 ^ 62) ≤ j ∧ j < 2 ^ 62 then some (rI i j) else none
theorem ob_rng1 (j : Int) : rng1M (ret (.int j) : M S D) = obind (rg1 j) fun xs => ret (xs.map .int) := by
  show (if -(2 ^ 62) ≤ j ∧ j < 2 ^ 62 then ret (rng 0 j) else stuck : M S (List D)) = obind (if -(2 ^ 62) ≤ j ∧ j < 2 ^ 62 then some (rI 0 j) else none) _
  rw [rng_rI]
  split <;> rfl
theorem ob_rng2 (i j : Int) : rng2M (ret (.int i) : M S D) (ret (.int j)) = obind (rg2 i j) fun xs => ret (xs.map .int) := by
  show (if -(2 ^ 62) ≤ i ∧ i < 2 ^ 62 ∧ -(2 ^ 62) ≤ j ∧ j < 2 ^ 62 then ret (rng i j) else stuck : M S (List D)) = obind (if -(2 ^ 62) ≤ i ∧ i < 2 ^ 62 ∧ -(2 ^ 62) ≤ j ∧ j < 2 ^ 62 then some (rI i j) else none) _
  rw [rng_rI]
  split <;> rfl
def chkL (xs : List α) : Option (List α) := if xs.length ≤ 16777216 then some xs else none
theorem ob_compM (e : α → D) (xs : List α) (f : D → M S (Option D)) : compM (ret (xs.map e)) f = obind (chkL xs) fun xs => bnd (compL (fun x => f (e x)) xs) fun ys => ret (.lst ys) := by
  unfold chkL
  split
  · rename_i h
    rw [ob_some, comp_ok (by rw [List.length_map]; exact h), compL_map]
  · rename_i h
    show (if (xs.map e).length ≤ sizeLine then _ else _) = _
    rw [if_neg (by rw [List.length_map, sizeLine_eq]; exact h)]
    rfl
def addO (xs ys : List α) : Option (List α) := if xs.length + ys.length ≤ 16777216 then some (xs ++ ys) else none
theorem ob_addL (e : α → D) (xs ys : List α) : (lift (addD (.lst (xs.map e)) (.lst (ys.map e))) : M S D) = obind (addO xs ys) fun zs => ret (.lst (zs.map e)) := by
  show lift (if (xs.map e).length + (ys.map e).length ≤ sizeLine then some (D.lst (xs.map e ++ ys.map e)) else none) = _
  unfold addO
  rw [List.length_map, List.length_map, sizeLine_eq]
  split
  · rw [ob_some, List.map_append]; rfl
  · rfl
def appO (xs : List α) (y : α) : Option (List α) := if xs.length < 16777216 then some (xs ++ [y]) else none
theorem ob_appM (e : α → D) (xs : List α) (y : α) (k : D → M S (Fl τ l)) : appM (.lst (xs.map e)) (ret (e y)) k = obind (appO xs y) fun zs => k (.lst (zs.map e)) := by
  show bnd (lift (if (xs.map e).length < sizeLine then some (D.lst (xs.map e ++ [e y])) else none)) k = _
  unfold appO
  rw [List.length_map, sizeLine_eq]
  split
  · rw [ob_some, List.map_append]; rfl
  · rfl
def repO (xs : List α) (k : Int) : Option (List α) := if -(2 ^ 63) ≤ k ∧ k < 2 ^ 63 ∧ xs.length * k.toNat ≤ 16777216 then some (List.replicate k.toNat xs).flatten else none
theorem ob_rep (e : α → D) (xs : List α) (k : Int) : (lift (mulWD (.lst (xs.map e)) (.int k)) : M S D) = obind (repO xs k) fun zs => ret (.lst (zs.map e)) := by
  show lift (if -(2 ^ 63) ≤ k ∧ k < 2 ^ 63 ∧ (xs.map e).length * k.toNat ≤ sizeLine then some (D.lst (List.replicate k.toNat (xs.map e)).flatten) else none) = _
  unfold repO
  rw [List.length_map, sizeLine_eq]
  split
  · rw [ob_some, List.map_flatten, List.map_replicate]; rfl
  · rfl
def aug2O (g : Int → Int → Int) (xs : List Int) (i b : Int) : Option (List Int) := if 0 ≤ i then (xs[i.toNat]?).map fun a => xs.set i.toNat (g a b) else none
theorem ob_aug2 (g : Int → Int → Int) (xs : List Int) (i b : Int) (k : D → M S (Fl τ l)) : aug2M g (.lst (xs.map .int)) (ret (.int i)) (ret (.int b)) k = obind (aug2O g xs i b) fun ys => k (.lst (ys.map .int)) := by
  show bnd (lift (if 0 ≤ i then match (xs.map D.int)[i.toNat]? with | some (.int a) => some (D.lst ((xs.map D.int).set i.toNat (.int (g a b)))) | _ => none else none)) k = _
  unfold aug2O
  split
  · rw [List.getElem?_map]
    cases xs[i.toNat]? with
    | none => rfl
    | some a =>
      show k (.lst ((xs.map D.int).set i.toNat (.int (g a b)))) = k (.lst ((xs.set i.toNat (g a b)).map .int))
      rw [List.map_set]
  · rfl
theorem enumT_map (e : α → D) (xs : List α) : enumT (xs.map e) = (xs.zipIdx).map fun p => .tup [.int ((p.2 : Nat) : Int), e p.1] := by
  unfold enumT
  rw [List.zipIdx_map, List.map_map]
  rfl
theorem s_enumL (xs : List D) : enumM (ret (.lst xs) : M S D) = ret (enumT xs) := (rfl)
theorem s_enumT (xs : List D) : enumM (ret (.tup xs) : M S D) = ret (enumT xs) := (rfl)
end
/-! ### ratios -/
/-- a, b = b, a % b until b is nought -/
def gcO : Nat → Int → Int → Option Int
  | 0, _, _ => none
  | n + 1, a, b => if b = 0 then some a else (wmod a b).bind fun r => gcO n b r
def lrO : Nat → Int → Int → Option Int
  | 0, _, _ => none
  | n + 1, a, b => if b = 0 then some a else (wdiv a b).bind fun d => (wmul d b).bind fun e => lrO n b (a - e)
theorem gcO_ok : ∀ (k n : Nat) (a b : Nat), b < 2 ^ k → 2 * k + 1 ≤ n → gcO n a b = some ((Nat.gcd a b : Nat) : Int)
  | k, n, a, b, hb, hn => by
    obtain ⟨n, rfl⟩ : ∃ m, n = m + 1 := ⟨n - 1, by omega⟩
    unfold gcO
    by_cases h0 : b = 0
    · subst h0
      rw [if_pos (show ((0 : Nat) : Int) = 0 from rfl), Nat.gcd_zero_right]
    · rw [if_neg (by omega)]
      have hm : wmod (a : Int) (b : Int) = some ((a % b : Nat) : Int) := by
        unfold wmod
        rw [if_pos (by omega)]
        rfl
      rw [hm, Option.bind_some]
      cases k with
      | zero => omega
      | succ k =>
        obtain ⟨n, rfl⟩ : ∃ m, n = m + 1 := ⟨n - 1, by omega⟩
        unfold gcO
        have hr : a % b < b := Nat.mod_lt _ (by omega)
        by_cases h1 : a % b = 0
        · rw [if_pos (by omega)]
          rw [Nat.gcd_comm, Nat.gcd_rec, h1, Nat.gcd_zero_left]
        · rw [if_neg (by omega)]
          have hm2 : wmod (b : Int) ((a % b : Nat) : Int) = some ((b % (a % b) : Nat) : Int) := by
            unfold wmod
            rw [if_pos (by omega)]
            rfl
          rw [hm2, Option.bind_some]
          have h2 : b % (a % b) < a % b := Nat.mod_lt _ (by omega)
          have h3 : b % (a % b) + (a % b) ≤ b := by
            have := Nat.mod_add_div b (a % b)
            have hq : 1 ≤ b / (a % b) := Nat.div_pos (by omega) (by omega)
            have := Nat.mul_le_mul_left (a % b) hq
            omega
          rw [gcO_ok k n (a % b) (b % (a % b)) (by rw [Nat.pow_succ] at hb; omega) (by omega)]
          congr 2
          rw [Nat.gcd_comm a b, Nat.gcd_rec b a, Nat.gcd_rec (a % b) b, Nat.gcd_comm]
theorem lrO_ok : ∀ (k n : Nat) (a b : Nat), b < 2 ^ k → 2 * k + 1 ≤ n → a < 2 ^ 4000 → k ≤ 4000 → lrO n a b = some ((Nat.gcd a b : Nat) : Int) := by
  have step : ∀ (a b : Nat), 0 < b → b < 2 ^ 4000 → a < 2 ^ 4000 → ∀ n, lrO (n + 1) a b = lrO n b ((a % b : Nat) : Int) := by
    intro a b h0 hb ha n
    rw [lrO, if_neg (by omega)]
    have lg : ∀ x : Nat, x < 2 ^ 4000 → x.log2 < 4000 := fun x hx => by
      by_cases hx0 : x = 0
      · subst hx0; decide
      · exact (Nat.log2_lt hx0).mpr hx
    have hd : wdiv (a : Int) (b : Int) = some ((a / b : Nat) : Int) := by
      unfold wdiv
      rw [if_pos ⟨by omega, by have := lg b hb; simp; omega⟩]
      rfl
    rw [hd, Option.bind_some]
    have hq : a / b < 2 ^ 4000 := Nat.lt_of_le_of_lt (Nat.div_le_self _ _) ha
    have hm : wmul ((a / b : Nat) : Int) (b : Int) = some ((a / b * b : Nat) : Int) := by
      unfold wmul
      rw [if_pos (mulx_ok (a := 4000) (b := 4000) (by rw [Int.natAbs_natCast]; exact hq) (by rw [Int.natAbs_natCast]; exact hb) (by decide)), Int.natCast_mul]
    rw [hm, Option.bind_some]
    congr 1
    have := Nat.mod_add_div a b
    rw [Nat.mul_comm] at this
    omega
  intro k
  induction k with
  | zero =>
    intro n a b hb hn ha _
    obtain ⟨n, rfl⟩ : ∃ m, n = m + 1 := ⟨n - 1, by omega⟩
    have : b = 0 := by simpa using hb
    subst this
    rw [lrO, if_pos (show ((0 : Nat) : Int) = 0 from rfl), Nat.gcd_zero_right]
  | succ k ih =>
    intro n a b hb hn ha hk
    obtain ⟨n, rfl⟩ : ∃ m, n = m + 1 := ⟨n - 1, by omega⟩
    by_cases h0 : b = 0
    · subst h0
      rw [lrO, if_pos (show ((0 : Nat) : Int) = 0 from rfl), Nat.gcd_zero_right]
    · have hb4 : b < 2 ^ 4000 := Nat.lt_of_lt_of_le hb (Nat.pow_le_pow_right (by decide) hk)
      have hr : a % b < b := Nat.mod_lt _ (by omega)
      rw [step a b (by omega) hb4 ha]
      obtain ⟨n, rfl⟩ : ∃ m, n = m + 1 := ⟨n - 1, by omega⟩
      by_cases h1 : a % b = 0
      · rw [h1, lrO, if_pos (show ((0 : Nat) : Int) = 0 from rfl), Nat.gcd_comm, Nat.gcd_rec, h1, Nat.gcd_zero_left]
      · have h2 : b % (a % b) < a % b := Nat.mod_lt _ (by omega)
        have h3 : b % (a % b) + (a % b) ≤ b := by
          have := Nat.mod_add_div b (a % b)
          have hq : 1 ≤ b / (a % b) := Nat.div_pos (by omega) (by omega)
          have := Nat.mul_le_mul_left (a % b) hq
          omega
        rw [step b (a % b) (by omega) (by omega) hb4, ih n (a % b) (b % (a % b)) (by rw [Nat.pow_succ] at hb; omega) (by omega) (by omega) (by omega)]
        congr 2
        rw [Nat.gcd_comm a b, Nat.gcd_rec b a, Nat.gcd_rec (a % b) b, Nat.gcd_comm]
/-- in lowest terms, as the code has it -/
def lowO (p q : Int) : Option (Int × Int) := (gcO fuel (if p < 0 then -p else p) q).bind fun g => (wdiv p g).bind fun a => (wdiv q g).map fun b => (a, b)
def ratO (p q : Int) : Option (Int × Int) := (lrO fuel (if p < 0 then -p else p) (if q < 0 then -q else q)).bind fun g => if 0 < q then (wdiv p g).bind fun a => (wdiv q g).map fun b => (a, b) else (wdiv (-p) g).bind fun a => (wdiv (-q) g).map fun b => (a, b)
def fine (p q : Int) : Bool := decide (0 < q) && decide (p.natAbs < 2 ^ 4000) && decide (q.natAbs < 2 ^ 4000)
def lowF (p q : Int) : Option (Int × Int) := if fine p q = true then some (p / ((Nat.gcd p.natAbs q.natAbs : Nat) : Int), q / ((Nat.gcd p.natAbs q.natAbs : Nat) : Int)) else lowO p q
def ratF (p q : Int) : Option (Int × Int) := if fine p q = true then some (p / ((Nat.gcd p.natAbs q.natAbs : Nat) : Int), q / ((Nat.gcd p.natAbs q.natAbs : Nat) : Int)) else ratO p q
theorem fine_ok {p q : Int} (h : fine p q = true) : 0 < q ∧ p.natAbs < 2 ^ 4000 ∧ q.natAbs < 2 ^ 4000 := by
  unfold fine at h
  simp only [Bool.and_eq_true, decide_eq_true_eq] at h
  exact ⟨h.1.1, h.1.2, h.2⟩
theorem abs_nat (p : Int) : (if p < 0 then -p else p) = (p.natAbs : Int) := by split <;> omega
theorem div_fine {p q : Int} (h : fine p q = true) : wdiv p ((Nat.gcd p.natAbs q.natAbs : Nat) : Int) = some (p / ((Nat.gcd p.natAbs q.natAbs : Nat) : Int)) ∧ wdiv q ((Nat.gcd p.natAbs q.natAbs : Nat) : Int) = some (q / ((Nat.gcd p.natAbs q.natAbs : Nat) : Int)) := by
  obtain ⟨h1, h2, h3⟩ := fine_ok h
  have hg : 0 < Nat.gcd p.natAbs q.natAbs := Nat.gcd_pos_of_pos_right _ (by omega)
  have hle : Nat.gcd p.natAbs q.natAbs ≤ q.natAbs := Nat.gcd_le_right _ (by omega)
  have hc : CDivW p ((Nat.gcd p.natAbs q.natAbs : Nat) : Int) := ⟨by omega, by
    have := (Nat.log2_lt (Nat.pos_iff_ne_zero.mp hg)).mpr (Nat.lt_of_le_of_lt hle h3)
    simp only [Int.natAbs_natCast]
    omega⟩
  exact ⟨if_pos hc, if_pos hc⟩
theorem low_eq (p q : Int) : lowO p q = lowF p q := by
  unfold lowF
  split
  · rename_i h
    obtain ⟨h1, h2, h3⟩ := fine_ok h
    obtain ⟨d1, d2⟩ := div_fine h
    unfold lowO
    rw [abs_nat, show (q : Int) = (q.natAbs : Int) by omega, gcO_ok 4000 fuel _ _ h3 (by decide), Option.bind_some, Int.natAbs_natCast, d1, Option.bind_some]
    rw [show ((q.natAbs : Nat) : Int) = q by omega, d2]
    rfl
  · rfl
theorem rat_eq (p q : Int) : ratO p q = ratF p q := by
  unfold ratF
  split
  · rename_i h
    obtain ⟨h1, h2, h3⟩ := fine_ok h
    obtain ⟨d1, d2⟩ := div_fine h
    unfold ratO
    rw [abs_nat, abs_nat, lrO_ok 4000 fuel _ _ h3 (by decide) h2 (by decide), Option.bind_some, if_pos h1, d1, Option.bind_some, d2]
    rfl
  · rfl
def rD (p : Int × Int) : D := .tup [.int p.1, .int p.2]
theorem rD_0 (p : Int × Int) : ixD (rD p) (.int 0) = some (.int p.1) := by unfold rD; rw [r_ixT, s_atC0]
theorem rD_1 (p : Int × Int) : ixD (rD p) (.int 1) = some (.int p.2) := by unfold rD; rw [r_ixT, s_atC1]
end Sn

namespace Sn
open PySem PySem.Spec PyProof.Rows L2
/-! ### plain values, _law_same for any of them -/
inductive Pb : Nat → D → Prop
  | non {n : Nat} : Pb n .non
  | bl {n : Nat} (b : Bool) : Pb n (.bl b)
  | int {n : Nat} (i : Int) : Pb n (.int i)
  | str {n : Nat} {x : Str} (h : PyData.strOk x = true) : Pb n (.str x)
  | tup {n : Nat} {xs : List D} (h : ∀ x ∈ xs, Pb n x) (hl : xs.length < 16777216) : Pb (n + 1) (.tup xs)
  | lst {n : Nat} {xs : List D} (h : ∀ x ∈ xs, Pb n x) (hl : xs.length < 16777216) : Pb (n + 1) (.lst xs)
theorem all_true (n : Nat) : allD [.lst (List.replicate n (.bl true))] = some (.bl true) := by
  have : List.replicate n (D.bl true) = (List.replicate n true).map D.bl := by simp
  rw [this, all_bls]
  congr 2
  simp
def sameB {S : Type} (self : List D → M S D) (a_59 : D) (b_60 : D) : M S (Fl Unit Unit) :=
  (iteF (orT (andT (valT (isiM "tuple" (ret a_59))) (valT (isiM "tuple" (ret b_60)))) (andT (valT (isiM "list" (ret a_59))) (valT (isiM "list" (ret b_60))))) (retF (andM (op2M eqD (bcM lenD (consM (ret a_59) (ret []))) (bcM lenD (consM (ret b_60) (ret [])))) (bcM allD (consM (compM (rng1M (bcM lenD (consM (ret a_59) (ret [])))) fun k_61 => (eltM (ret true) (bnd (consM (ixM (ret a_59) (ret k_61)) (consM (ixM (ret b_60) (ret k_61)) (ret []))) self))) (ret []))))) (ret (.nx ())) fun (s_62 : Unit) => (iteF (orT (valT (isiM "bool" (ret a_59))) (valT (isiM "bool" (ret b_60)))) (retF (andM (isiM "bool" (ret a_59)) (andM (isiM "bool" (ret b_60)) (op2M eqD (ret a_59) (ret b_60))))) (ret (.nx ())) fun (s_63 : Unit) => (iteF (orT (andT (valT (isiM "int" (ret a_59))) (valT (isiM "int" (ret b_60)))) (andT (valT (isiM "str" (ret a_59))) (valT (isiM "str" (ret b_60))))) (retF (op2M eqD (ret a_59) (ret b_60))) (ret (.nx ())) fun (s_64 : Unit) => (retF (andM (op2M isD (ret a_59) (ret .non)) (op2M isD (ret b_60) (ret .non)))))))
theorem same_non {S : Type} (self : List D → M S D) : bnd (sameB self .non .non) endF = (ret (.bl true) : M S D) := by simp [sameB]
theorem same_bl {S : Type} (self : List D → M S D) (b : Bool) : bnd (sameB self (.bl b) (.bl b)) endF = (ret (.bl true) : M S D) := by simp [sameB]
theorem same_int {S : Type} (self : List D → M S D) (b : Int) : bnd (sameB self (.int b) (.int b)) endF = (ret (.bl true) : M S D) := by simp [sameB]
theorem same_str {S : Type} (self : List D → M S D) {x : Str} (h : PyData.strOk x = true) : bnd (sameB self (.str x) (.str x)) endF = ret (.bl true) := by
  have e := eq_pl (Pl.str (n := 0) h) (Pl.str (n := 0) h) (by decide) (by decide)
  simp [sameB, e]
theorem same_items {S : Type} {self : List D → M S D} {n : Nat} {xs : List D} {g : D} (hg : ∀ i : Int, ixD g (.int i) = atI xs i) (ih : ∀ d, Pb n d → self [d, d] = ret (.bl true)) (h : ∀ x ∈ xs, Pb n x) (hl : xs.length < 16777216) :
    compM (rng1M (ret (.int xs.length))) (fun k => eltM (ret true) (bnd (consM (ixM (ret g) (ret k)) (consM (ixM (ret g) (ret k)) (ret []))) self)) = (ret (.lst (List.replicate xs.length (.bl true))) : M S D) := by
  rw [rng1_ok (by omega) (by omega), comp_ok (by rw [rng_len]; omega), compL_all (fun _ => D.bl true) fun x hx => ?_]
  · have e : (rng 0 (xs.length : Int)).map (fun _ => D.bl true) = List.replicate xs.length (.bl true) := by
      rw [List.map_const', rng_len]
      congr 1
    rw [e]; rfl
  · obtain ⟨i, rfl, h1, h2⟩ := mem_rng.mp hx
    have e := atI_ok h1 h2
    simp only [r_ixM, hg, e, r_lift, r_consM, r_bnd, r_eltT, ih _ (h _ (List.getElem_mem _))]
theorem same_tup {S : Type} {self : List D → M S D} {n : Nat} {xs : List D} (ih : ∀ d, Pb n d → self [d, d] = ret (.bl true)) (h : ∀ x ∈ xs, Pb n x) (hl : xs.length < 16777216) : bnd (sameB self (.tup xs) (.tup xs)) endF = ret (.bl true) := by
  have e := same_items (g := .tup xs) (fun _ => rfl) ih h hl
  unfold sameB
  simp only [r_isi, i_tuple_tuple, r_lift, r_valT, r_tru_bl, r_andT, Bool.and_self, r_orTt, r_iteF, if_true, r_consM, r_bcM, r_lenT, e, all_true, r_op2, r_eq, decide_true, r_andMt, r_retF, r_bnd, r_seqR, r_endR]
theorem same_lst {S : Type} {self : List D → M S D} {n : Nat} {xs : List D} (ih : ∀ d, Pb n d → self [d, d] = ret (.bl true)) (h : ∀ x ∈ xs, Pb n x) (hl : xs.length < 16777216) : bnd (sameB self (.lst xs) (.lst xs)) endF = ret (.bl true) := by
  have e := same_items (g := .lst xs) (fun _ => rfl) ih h hl
  unfold sameB
  simp only [r_isi, i_tuple_list, i_list_list, r_lift, r_valT, r_tru_bl, r_andT, Bool.and_self, r_orTf, r_orTt, r_iteF, if_true, r_consM, r_bcM, r_lenL, e, all_true, r_op2, r_eq, decide_true, r_andMt, r_retF, r_bnd, r_seqR, r_endR]
theorem Pb.mono {n m : Nat} {d : D} (h : Pb n d) (hm : n ≤ m) : Pb m d := by
  induction h generalizing m with
  | non => exact .non
  | bl b => exact .bl b
  | int i => exact .int i
  | str h => exact .str h
  | tup h hl ih => cases m with | zero => omega | succ m => exact .tup (fun x hx => ih x hx (by omega)) hl
  | lst h hl ih => cases m with | zero => omega | succ m => exact .lst (fun x hx => ih x hx (by omega)) hl
/-- any def whose turns are those of sameB answers True of a plain value and itself -/
theorem same_gen {S : Type} {m : Nat → List D → M S D} (hm : ∀ n a b, m (n + 1) [a, b] = bnd (sameB (m n) a b) endF) : ∀ (n : Nat) (d : D), Pb n d → m (n + 1) [d, d] = ret (.bl true)
  | n, _, .non => (hm n _ _).trans (same_non (m n))
  | n, _, .bl b => (hm n _ _).trans (same_bl (m n) b)
  | n, _, .int i => (hm n _ _).trans (same_int (m n) i)
  | n, _, .str h => (hm n _ _).trans (same_str (m n) h)
  | n + 1, _, .tup h hl => (hm _ _ _).trans (same_tup (same_gen hm n) h hl)
  | n + 1, _, .lst h hl => (hm _ _ _).trans (same_lst (same_gen hm n) h hl)
end Sn

namespace Sn
open PySem PySem.Spec PyProof.Rows L2
/-! ### judges, loops that extend, rows of naturals -/
abbrev iN (k : Nat) : D := .int (k : Int)
def nT (ws : List Nat) : D := .tup (ws.map fun k : Nat => .int (k : Int))
def isTup : D → Bool
  | .tup _ => true
  | _ => false
def isIntB : D → Bool
  | .int _ => true
  | .bl _ => true
  | _ => false
def isBl : D → Bool
  | .bl _ => true
  | _ => false
def isStr : D → Bool
  | .str _ => true
  | _ => false
def intB : D → Bool
  | .int _ => true
  | _ => false
theorem isi_tup {k : Nat} {d : D} (h : Pb k d) : isiD "tuple" d = some (.bl (isTup d)) := by
  cases h <;> simp [i_tuple_NoneType, i_tuple_bool, i_tuple_int, i_tuple_str, i_tuple_tuple, i_tuple_list, isTup]
theorem isi_int {k : Nat} {d : D} (h : Pb k d) : isiD "int" d = some (.bl (isIntB d)) := by
  cases h <;> simp [isIntB]
theorem isi_bool {k : Nat} {d : D} (h : Pb k d) : isiD "bool" d = some (.bl (isBl d)) := by
  cases h <;> simp [isBl]
theorem isi_str {k : Nat} {d : D} (h : Pb k d) : isiD "str" d = some (.bl (isStr d)) := by
  cases h <;> simp [isStr]
section
variable {S : Type} {α β γ : Type} {τ l τ' l' : Type}
def numB (lo hi : Int) : D → Bool
  | .int i => decide (lo ≤ i) && decide (i ≤ hi)
  | _ => false
theorem num_ok {k : Nat} {d : D} (h : Pb k d) (lo hi : Int) : (andM (isiM "int" (ret d)) (andM (notM (isiM "bool" (ret d))) (chainM leD leD (ret (.int lo)) (ret d) (ret (.int hi)))) : M S D) = ret (.bl (numB lo hi d)) := by
  rw [r_isi, r_isi, isi_int h, isi_bool h]
  cases h <;> first | rfl | (simp (disch := (first | assumption | (refine InP.mem ?_; assumption) | omega | solve_by_elim | (simp only [InP, decide_eq_true_eq, List.map_id', List.length_map, List.length_cons, List.length_nil, List.length_append, List.length_range, List.length_zip, List.length_tail, List.length_take, List.length_drop, rI_len, rng_len, mem_rI, List.mem_range] at *; omega) | (simp only [List.map_id']; assumption) | simp)) only [r_bnd, r_lift, r_op2, r_cmpT, r_asB, r_asI, r_valT, r_tru_bl, r_tru_int, r_tru_lst, r_tru_tup, r_tru_non, r_notT, r_andTt, r_andTf, r_andT, r_orTt, r_orTf, r_orT, r_andMt, r_andMf, r_andM, r_orMt, r_orMf, r_orM, r_notM, r_negM, r_negD, r_ifM, r_consM, r_tupM, r_lstM, r_tup0, r_tup1, r_tup2, r_tup3, r_tup4, r_tup5, r_tup6, r_lst0, r_lst1, r_lst2, r_lst3, r_lst4, r_lst5, r_bcM, r_lenT, r_lenL, List.length_map, r_tupT, r_tupL, r_lstT, r_lstL, r_int, r_ixM, r_ixT, r_ixL, r_ptM, r_slM, r_slT, r_slL, r_itT, r_itL, r_isi, r_add, r_sub, r_lt, r_le, r_gt, r_ge, r_isN, r_isntN, r_isB, r_isntB, nonNon, nonI, nonT, nonL, nonB, nonS, r_retF, r_endR, r_endN, r_iteF, r_seqN, r_seqR, r_seqB, r_seqC, r_forM, r_own, r_ownd, r_par, r_parN, r_parNN, r_eltT, r_eltF, r_elt, r_eq, r_ne, r_eqb, r_neb, compG_ret, compG_none, compG_retIf, compG_filt, eltM_ret, forL_G, forG_unit, forG_find, chainM_ret, chainT_ret, s_iteB, s_iteT, s_comp, s_all, s_any, s_sum, max2_ok, min2_ok, s_zipL, s_zipT, zipT_map, s_pat2, s_pat3, s_app, s_extL, s_extT, s_count, s_atR, s_atC0, s_atC1, s_atC2, s_in_nats, s_nin_nats, List.map_map, Function.comp_apply, Bool.false_eq_true, if_true, if_false, ↓reduceIte, Bool.not_true, Bool.not_false, Bool.and_true, Bool.true_and, Bool.or_false, Bool.false_or, Bool.and_false, Bool.false_and, Bool.or_true, Bool.true_or, decide_true, decide_false]; rfl)
theorem intb_ok {k : Nat} {d : D} (h : Pb k d) : (andM (isiM "int" (ret d)) (notM (isiM "bool" (ret d))) : M S D) = ret (.bl (intB d)) := by
  rw [r_isi, r_isi, isi_int h, isi_bool h]
  cases h <;> rfl
theorem all_items {xs : List D} {p : D → Bool} {f : D → M S D} (hl : xs.length ≤ 16777216) (hf : ∀ x ∈ xs, f x = ret (.bl (p x))) : (bcM allD (consM (compM (itM (ret (.tup xs))) fun x => eltM (ret true) (f x)) (ret [])) : M S D) = ret (.bl (xs.all p)) := by
  rw [r_itT, comp_ok hl, compL_all (fun x => D.bl (p x)) fun x hx => by rw [hf x hx, r_eltT, r_bnd], r_bnd, r_consM, r_bcM, s_all, r_lift]
theorem all_rng {n : Nat} {p : Nat → Bool} {f : D → M S D} (hl : n ≤ 16777216) (hf : ∀ k, k < n → f (iN k) = ret (.bl (p k))) : (bcM allD (consM (compM (rng1M (ret (iN n))) fun x => eltM (ret true) (f x)) (ret [])) : M S D) = ret (.bl ((List.range n).all p)) := by
  rw [rng1_ok (by omega) (by omega), rng_nat, comp_ok (by rw [List.length_map, List.length_range]; exact hl), compL_map, compL_all (fun k => D.bl (p k)) fun k hk => by rw [hf k (List.mem_range.mp hk), r_eltT, r_bnd], r_bnd, r_consM, r_bcM, s_all, r_lift]
/-- a loop whose turns extend the list by what g tells -/
theorem forL_ext {enc : γ → D} {e : α → D} (g : α → List γ) {f : D → D → M S (Fl D D)} {k : D → M S (Fl τ' l')} : ∀ {xs : List α} (acc : List γ), acc.length + (xs.flatMap g).length ≤ 16777216 →
    (∀ x ∈ xs, ∀ ls : List γ, ls.length + (g x).length ≤ 16777216 → f (.lst (ls.map enc)) (e x) = ret (.nx (.lst ((ls ++ g x).map enc)))) → forL f k (xs.map e) (.lst (acc.map enc)) = k (.lst ((acc ++ xs.flatMap g).map enc))
  | [], acc, _, _ => by rw [List.flatMap_nil, List.append_nil]; rfl
  | x :: xs, acc, hl, h => by
    rw [List.flatMap_cons, List.length_append] at hl
    rw [List.map_cons, forL_on (h x List.mem_cons_self acc (by omega)), forL_ext g (acc ++ g x) (by rw [List.length_append]; omega) fun y hy => h y (List.mem_cons_of_mem _ hy), List.flatMap_cons, List.append_assoc]
/-- a loop that returns the same as soon as p holds -/
theorem forL_any {e : α → D} {r : D} (p : α → Bool) {f : Unit → D → M S (Fl Unit Unit)} {k : Unit → M S (Fl τ' l')} : ∀ {xs : List α}, (∀ x ∈ xs, f () (e x) = if p x = true then ret (.rt r) else ret (.nx ())) → forL f k (xs.map e) () = if xs.any p = true then ret (.rt r) else k ()
  | [], _ => rfl
  | x :: xs, h => by
    rw [List.map_cons, List.any_cons, forL_cons, h x List.mem_cons_self]
    cases p x
    · rw [if_neg Bool.false_ne_true, r_bnd, Bool.false_or]
      exact forL_any p fun y hy => h y (List.mem_cons_of_mem _ hy)
    · rw [if_pos rfl, r_bnd, Bool.true_or, if_pos rfl]
def itN (g : α → α) : Nat → α → α
  | 0, a => a
  | n + 1, a => itN g n (g a)
/-- some turns of a step, whatever the items -/
theorem forL_iter {enc : γ → D} (g : List γ → List γ) {f : D → D → M S (Fl D D)} {k : D → M S (Fl τ' l')} (I : Nat → List γ → Prop) : ∀ {xs : List D} {n : Nat} (acc : List γ), I n acc → (∀ m ls x, n ≤ m → m < n + xs.length → I m ls → f (.lst (ls.map enc)) x = ret (.nx (.lst ((g ls).map enc))) ∧ I (m + 1) (g ls)) → forL f k xs (.lst (acc.map enc)) = k (.lst ((itN g xs.length acc).map enc))
  | [], _, acc, _, _ => rfl
  | x :: xs, n, acc, hi, h => by
    obtain ⟨h1, h2⟩ := h n acc x (Nat.le_refl _) (by rw [List.length_cons]; omega) hi
    rw [forL_on h1, forL_iter g I (n := n + 1) (g acc) h2 fun m ls y h3 h4 h5 => h m ls y (by omega) (by rw [List.length_cons]; omega) h5]
    rfl
end
/-- an index from the end -/
theorem atI_last {α : Type} (xs : List α) (h : xs ≠ []) : atI xs (-1) = some (xs.getLast h) := by
  unfold atI ixN
  have hl : 0 < xs.length := List.length_pos_iff.mpr h
  rw [if_neg (by omega), if_pos (by omega), Option.bind_some]
  have : (-1 + (xs.length : Int)).toNat = xs.length - 1 := by omega
  rw [this, List.getLast_eq_getElem]
  exact List.getElem?_eq_getElem (by omega)
theorem ix_nT {ws : List Nat} {k : Nat} (h : k < ws.length) : ixD (nT ws) (iN k) = some (iN (ws.getD k 0)) := by
  unfold nT
  rw [r_ixT, atI_map, atI_ok (by omega) (by omega), Option.map_some, getD_in h]
  rfl
theorem ix_tups {α : Type} {e : α → D} {ts : List α} {d : α} {k : Nat} (h : k < ts.length) : ixD (.tup (ts.map e)) (iN k) = some (e (ts.getD k d)) := by
  rw [r_ixT, atI_map, atI_ok (by omega) (by omega), Option.map_some, getD_in h]
  rfl
theorem ix_lsts {α : Type} {e : α → D} {ts : List α} {d : α} {k : Nat} (h : k < ts.length) : ixD (.lst (ts.map e)) (iN k) = some (e (ts.getD k d)) := by
  rw [r_ixL, atI_map, atI_ok (by omega) (by omega), Option.map_some, getD_in h]
  rfl
theorem pl_nT (ws : List Nat) : Pl 1 (nT ws) := .tup fun x hx => by obtain ⟨k, _, rfl⟩ := List.mem_map.mp hx; exact .int _
theorem nT_inj {a b : List Nat} (h : nT a = nT b) : a = b := by
  unfold nT at h
  have h2 : a.map (fun k : Nat => D.int (k : Int)) = b.map fun k : Nat => D.int (k : Int) := by injection h
  exact List.map_inj_right (f := fun k : Nat => D.int (k : Int)) (fun x y e => by injection e with e; omega) |>.mp h2
theorem inT_pl {n : Nat} {x : D} {ys : List D} (h : Pl n x) (g : ∀ y ∈ ys, Pl n y) (hn : n < 64) : inD x (.tup ys) = some (.bl (decide (x ∈ ys))) := by
  have := inL_pl h g hn
  unfold inD at this ⊢
  simp only at this ⊢
  rw [if_pos ⟨h.sh (by omega), (Pl.lst g).sh (by omega)⟩] at this
  rw [if_pos ⟨h.sh (by omega), (Pl.tup g).sh (by omega)⟩]
  exact this
theorem ninT_pl {n : Nat} {x : D} {ys : List D} (h : Pl n x) (g : ∀ y ∈ ys, Pl n y) (hn : n < 64) : ninD x (.tup ys) = some (.bl (!decide (x ∈ ys))) := by
  have := ninL_pl h g hn
  unfold ninD at this ⊢
  simp only at this ⊢
  rw [if_pos ⟨h.sh (by omega), (Pl.lst g).sh (by omega)⟩] at this
  rw [if_pos ⟨h.sh (by omega), (Pl.tup g).sh (by omega)⟩]
  exact this
theorem mem_iNs {x : Nat} {xs : List Nat} : (iN x ∈ xs.map fun k : Nat => D.int (k : Int)) ↔ x ∈ xs := by
  rw [List.mem_map]
  constructor
  · rintro ⟨y, hy, e⟩
    have : (y : Int) = (x : Int) := by injection e
    rwa [show x = y by omega]
  · intro h; exact ⟨x, h, rfl⟩
theorem in_nT (x : Nat) (xs : List Nat) : inD (iN x) (nT xs) = some (.bl (decide (x ∈ xs))) := by
  unfold nT
  rw [inT_pl (n := 1) (.int _) (fun y hy => by obtain ⟨k, _, rfl⟩ := List.mem_map.mp hy; exact .int _) (by decide)]
  congr 2
  rw [decide_eq_decide]
  exact mem_iNs
theorem nin_nT (x : Nat) (xs : List Nat) : ninD (iN x) (nT xs) = some (.bl (!decide (x ∈ xs))) := by
  unfold nT
  rw [ninT_pl (n := 1) (.int _) (fun y hy => by obtain ⟨k, _, rfl⟩ := List.mem_map.mp hy; exact .int _) (by decide)]
  congr 3
  rw [decide_eq_decide]
  exact mem_iNs
/-! #### rows that are orders of 0 .. n-1 -/
theorem nodup_lt_len : ∀ {n : Nat} {row : List Nat}, row.Nodup → (∀ x ∈ row, x < n) → row.length ≤ n := fun {n} {row} h hl => by
  have := nodup_len (b := List.range n) h fun x hx => List.mem_range.mpr (hl x hx)
  rwa [List.length_range] at this
theorem perm_range : ∀ {n : Nat} {row : List Nat}, row.Nodup → (∀ x ∈ row, x < n) → row.length = n → row.Perm (List.range n)
  | 0, row, _, _, hl => by rw [List.length_eq_zero_iff.mp hl]; exact .refl _
  | n + 1, row, h, hx, hl => by
    have hm : n ∈ row := by
      refine Decidable.byContradiction fun hn => ?_
      have := nodup_lt_len h (n := n) fun x q => by
        have := hx x q
        have : x ≠ n := fun e => hn (e ▸ q)
        omega
      omega
    have p1 := List.perm_cons_erase hm
    have p2 := perm_range (n := n) (row := row.erase n) (h.erase _) (fun x q => by
      have h1 := hx x (List.mem_of_mem_erase q)
      have : x ≠ n := fun e => (List.Nodup.not_mem_erase h) (e ▸ q)
      omega) (by rw [List.length_erase_of_mem hm]; omega)
    rw [List.range_succ]
    exact p1.trans ((p2.cons n).trans (List.perm_append_comm (l₁ := [n])))
end Sn

namespace Lw
open PySem PySem.Spec PyProof.Rows L2 Sn
/-! ### tiles: plain -/
abbrev T4 := Nat × Nat × Nat × Nat
def sel : Nat → T4 → Nat
  | 0, t => t.1
  | 1, t => t.2.1
  | 2, t => t.2.2.1
  | _, t => t.2.2.2
def tD (t : T4) : D := .tup [iN t.1, iN t.2.1, iN t.2.2.1, iN t.2.2.2]
def tsD (ts : List T4) : D := .tup (ts.map tD)
def sD (R C : Nat) : D := .tup [iN R, iN C]
def tl (ts : List T4) (k : Nat) : T4 := ts.getD k (0, 0, 0, 0)
/-- the tile k may come behind the row -/
def fitB (C : Nat) (ts : List T4) (row : List Nat) (k : Nat) : Bool :=
  (decide (row.length % C = 0) || decide (sel 1 (tl ts (row.getD (row.length - 1) 0)) = sel 3 (tl ts k))) && (decide (row.length < C) || decide (sel 2 (tl ts (row.getD (row.length - C) 0)) = sel 0 (tl ts k)))
def isLay (C : Nat) (ts : List T4) (row : List Nat) : Bool := (List.range row.length).all fun a => fitB C ts (row.take a) (row.getD a 0)
def frees (n : Nat) (row : List Nat) : List Nat := (List.range n).filter fun k => !decide (k ∈ row)
def oneO (n : Nat) (row : List Nat) : List (List Nat) := (frees n row).map fun k => row ++ [k]
def oneL (C n : Nat) (ts : List T4) (row : List Nat) : List (List Nat) := ((frees n row).filter fun k => fitB C ts row k).map fun k => row ++ [k]
def OO (n : Nat) : List (List Nat) := itN (fun rows => rows.flatMap (oneO n)) n [[]]
def LL (C n : Nat) (ts : List T4) : List (List Nat) := itN (fun rows => rows.flatMap (oneL C n ts)) n [[]]
theorem isLay_snoc (C : Nat) (ts : List T4) (row : List Nat) (k : Nat) : isLay C ts (row ++ [k]) = (isLay C ts row && fitB C ts row k) := by
  unfold isLay
  rw [List.length_append, List.length_singleton, List.range_succ, List.all_append, List.all_cons, List.all_nil, Bool.and_true]
  congr 1
  · rw [Bool.eq_iff_iff, List.all_eq_true, List.all_eq_true]
    have e : ∀ a, a < row.length → (row ++ [k]).take a = row.take a ∧ (row ++ [k]).getD a 0 = row.getD a 0 := fun a hl => ⟨List.take_append_of_le_length (by omega), by simp [List.getD, List.getElem?_append_left hl]⟩
    refine ⟨fun h a ha => ?_, fun h a ha => ?_⟩
    · have := h a ha
      obtain ⟨e1, e2⟩ := e a (List.mem_range.mp ha)
      rwa [e1, e2] at this
    · have := h a ha
      obtain ⟨e1, e2⟩ := e a (List.mem_range.mp ha)
      rwa [e1, e2]
  · rw [List.take_append_of_le_length (Nat.le_refl _), List.take_length]
    congr 1
    simp [List.getD]
theorem flat_filter {α β : Type} (p : β → Bool) (q : α → Bool) (f g : α → List β) : ∀ {xs : List α}, (∀ x ∈ xs, (f x).filter p = if q x = true then g x else []) → (xs.flatMap f).filter p = (xs.filter q).flatMap g
  | [], _ => rfl
  | x :: xs, h => by
    rw [List.flatMap_cons, List.filter_append, h x List.mem_cons_self, flat_filter p q f g fun y hy => h y (List.mem_cons_of_mem _ hy), List.filter_cons]
    cases q x
    · rfl
    · rfl
theorem step_filter (C n : Nat) (ts : List T4) (rows : List (List Nat)) : (rows.flatMap (oneO n)).filter (isLay C ts) = (rows.filter (isLay C ts)).flatMap (oneL C n ts) := by
  refine flat_filter _ _ _ _ fun row _ => ?_
  unfold oneO oneL
  rw [List.filter_map]
  have : (isLay C ts ∘ fun k => row ++ [k]) = fun k => isLay C ts row && fitB C ts row k := by
    funext k
    exact isLay_snoc C ts row k
  rw [this]
  cases isLay C ts row
  · simp
  · simp
theorem LL_eq (C n : Nat) (ts : List T4) : LL C n ts = (OO n).filter (isLay C ts) := by
  unfold LL OO
  have h0 : ([[]] : List (List Nat)) = [[]].filter (isLay C ts) := rfl
  have : ∀ (m : Nat) (a : List (List Nat)), itN (fun rows => rows.flatMap (oneL C n ts)) m (a.filter (isLay C ts)) = (itN (fun rows => rows.flatMap (oneO n)) m a).filter (isLay C ts) := by
    intro m
    induction m with
    | zero => intro a; rfl
    | succ m ih => intro a; exact ((congrArg (itN (fun rows => rows.flatMap (oneL C n ts)) m) (step_filter C n ts a).symm).trans (ih _))
  exact this n [[]]
/-- what an order of all is -/
theorem OO_mem {n : Nat} {row : List Nat} (h : row ∈ OO n) : row.Nodup ∧ (∀ x ∈ row, x < n) ∧ row.length = n := by
  have : ∀ (m t : Nat) (a : List (List Nat)), (∀ r ∈ a, r.Nodup ∧ (∀ x ∈ r, x < n) ∧ r.length = t) → ∀ r ∈ itN (fun rows => rows.flatMap (oneO n)) m a, r.Nodup ∧ (∀ x ∈ r, x < n) ∧ r.length = t + m := by
    intro m
    induction m with
    | zero => intro t a h; exact h
    | succ m ih =>
      intro t a h r hr
      have := ih (t + 1) (a.flatMap (oneO n)) (fun r hr => by
        obtain ⟨q, hq, hr⟩ := List.mem_flatMap.mp hr
        unfold oneO frees at hr
        obtain ⟨k, hk, rfl⟩ := List.mem_map.mp hr
        obtain ⟨h1, h2⟩ := List.mem_filter.mp hk
        obtain ⟨q1, q2, q3⟩ := h q hq
        have h2' : k ∉ q := by simpa using h2
        refine ⟨?_, fun x hx => ?_, by rw [List.length_append, q3]; rfl⟩
        · rw [List.nodup_append]
          exact ⟨q1, by simp, fun a ha b hb e => by rw [List.mem_singleton] at hb; subst hb; subst e; exact h2' ha⟩
        · rcases List.mem_append.mp hx with hx | hx
          · exact q2 x hx
          · rw [List.mem_singleton.mp hx]; exact List.mem_range.mp h1) r hr
      rw [show t + (m + 1) = t + 1 + m by omega]
      exact this
  have := this n 0 [[]] (fun r hr => by rw [List.mem_singleton.mp hr]; exact ⟨.nil, fun _ h => (by cases h), rfl⟩) row h
  rwa [Nat.zero_add] at this
/-! #### the law's look at a laying -/
def lawIs (R C : Nat) (ts : List T4) (row : List Nat) : Bool := !(List.range R).any fun i => (List.range C).any fun j =>
  (decide (j + 1 < C) && !decide (sel 1 (tl ts (row.getD (i * C + j) 0)) = sel 3 (tl ts (row.getD (i * C + j + 1) 0)))) || (decide (i + 1 < R) && !decide (sel 2 (tl ts (row.getD (i * C + j) 0)) = sel 0 (tl ts (row.getD (i * C + j + C) 0))))
def good (R C : Nat) (ts : List T4) (row : List Nat) : Prop := ∀ i j, i < R → j < C → (j + 1 < C → sel 1 (tl ts (row.getD (i * C + j) 0)) = sel 3 (tl ts (row.getD (i * C + j + 1) 0))) ∧ (i + 1 < R → sel 2 (tl ts (row.getD (i * C + j) 0)) = sel 0 (tl ts (row.getD (i * C + j + C) 0)))
theorem lawIs_iff (R C : Nat) (ts : List T4) (row : List Nat) : lawIs R C ts row = true ↔ good R C ts row := by
  unfold lawIs good
  rw [Bool.not_eq_true', ← Bool.not_eq_true, List.any_eq_true]
  constructor
  · intro h i j hi hj
    have h1 : ¬ ((decide (j + 1 < C) && !decide (sel 1 (tl ts (row.getD (i * C + j) 0)) = sel 3 (tl ts (row.getD (i * C + j + 1) 0)))) || (decide (i + 1 < R) && !decide (sel 2 (tl ts (row.getD (i * C + j) 0)) = sel 0 (tl ts (row.getD (i * C + j + C) 0))))) = true := fun q =>
      h ⟨i, List.mem_range.mpr hi, List.any_eq_true.mpr ⟨j, List.mem_range.mpr hj, q⟩⟩
    simp only [Bool.or_eq_true, Bool.and_eq_true, decide_eq_true_eq, Bool.not_eq_true', decide_eq_false_iff_not, not_or, not_and, Decidable.not_not] at h1
    exact h1
  · rintro h ⟨i, hi, q⟩
    obtain ⟨j, hj, q⟩ := List.any_eq_true.mp q
    obtain ⟨h1, h2⟩ := h i j (List.mem_range.mp hi) (List.mem_range.mp hj)
    simp only [Bool.or_eq_true, Bool.and_eq_true, decide_eq_true_eq, Bool.not_eq_true', decide_eq_false_iff_not] at q
    rcases q with ⟨a, b⟩ | ⟨a, b⟩
    · exact b (h1 a)
    · exact b (h2 a)
theorem getD_take {α : Type} (xs : List α) {a k : Nat} (d : α) (h : k < a) : (xs.take a).getD k d = xs.getD k d := by
  simp [List.getD, List.getElem?_take, h]
theorem isLay_iff {R C : Nat} (hC : 0 < C) (ts : List T4) {row : List Nat} (hl : row.length = R * C) : isLay C ts row = true ↔ good R C ts row := by
  have fit : ∀ a, a < R * C → (fitB C ts (row.take a) (row.getD a 0) = true ↔ (a % C ≠ 0 → sel 1 (tl ts (row.getD (a - 1) 0)) = sel 3 (tl ts (row.getD a 0))) ∧ (C ≤ a → sel 2 (tl ts (row.getD (a - C) 0)) = sel 0 (tl ts (row.getD a 0)))) := by
    intro a ha
    have hla : (row.take a).length = a := by rw [List.length_take]; omega
    unfold fitB
    rw [hla]
    simp only [Bool.and_eq_true, Bool.or_eq_true, decide_eq_true_eq]
    by_cases h1 : a % C = 0
    · by_cases h2 : C ≤ a
      · rw [getD_take row _ (by omega : a - C < a)]
        simp [h1, h2, Nat.not_lt.mpr h2]
      · simp [h1, h2, Nat.lt_of_not_le h2]
    · have ha0 : 0 < a := Nat.pos_of_ne_zero fun e => h1 (by rw [e]; exact Nat.zero_mod _)
      rw [getD_take row _ (by omega : a - 1 < a)]
      by_cases h2 : C ≤ a
      · rw [getD_take row _ (by omega : a - C < a)]
        simp [h1, h2, Nat.not_lt.mpr h2]
      · simp [h1, h2, Nat.lt_of_not_le h2]
  unfold isLay
  rw [List.all_eq_true, hl]
  constructor
  · intro h i j hi hj
    have hb : i * C + C ≤ R * C := by
      have := Nat.mul_le_mul_right C (show i + 1 ≤ R by omega)
      rwa [Nat.add_mul, Nat.one_mul] at this
    refine ⟨fun hj1 => ?_, fun hi1 => ?_⟩
    · have h1 := (fit (i * C + j + 1) (by omega)).mp (h _ (List.mem_range.mpr (by omega)))
      have e : (i * C + j + 1) % C = j + 1 := by rw [Nat.add_assoc, Nat.mul_comm, Nat.mul_add_mod, Nat.mod_eq_of_lt hj1]
      have := h1.1 (by omega)
      rwa [show i * C + j + 1 - 1 = i * C + j by omega] at this
    · have hb2 : i * C + C + C ≤ R * C := by
        have := Nat.mul_le_mul_right C (show i + 2 ≤ R by omega)
        rw [Nat.add_mul] at this
        omega
      have h1 := (fit (i * C + j + C) (by omega)).mp (h _ (List.mem_range.mpr (by omega)))
      have := h1.2 (by omega)
      rwa [show i * C + j + C - C = i * C + j by omega] at this
  · intro h a ha
    have ha := List.mem_range.mp ha
    rw [fit a ha]
    have hd := Nat.div_add_mod a C
    have hm := Nat.mod_lt a hC
    have hi : a / C < R := Nat.div_lt_of_lt_mul (by rw [Nat.mul_comm]; exact ha)
    rw [Nat.mul_comm] at hd
    refine ⟨fun h1 => ?_, fun h2 => ?_⟩
    · obtain ⟨g, _⟩ := h (a / C) (a % C - 1) hi (by omega)
      have := g (by omega)
      rwa [show a / C * C + (a % C - 1) = a - 1 by omega, show a - 1 + 1 = a by omega] at this
    · have h3 : 1 ≤ a / C := (Nat.le_div_iff_mul_le hC).mpr (by omega)
      obtain ⟨_, g⟩ := h (a / C - 1) (a % C) (by omega) hm
      have e : (a / C - 1) * C + a % C = a - C := by rw [Nat.sub_mul, Nat.one_mul]; have := Nat.mul_le_mul_right C h3; rw [Nat.one_mul] at this; omega
      have := g (by omega)
      rwa [e, show a - C + C = a by omega] at this
theorem lay_law {R C : Nat} (hC : 0 < C) (ts : List T4) {row : List Nat} (hl : row.length = R * C) : isLay C ts row = lawIs R C ts row := by
  rw [Bool.eq_iff_iff, isLay_iff hC ts hl, lawIs_iff]
/-! #### how many at a side -/
def cnt (ts : List T4) (j s : Nat) : Nat := (ts.filter fun t => decide (sel j t = s)).length
def over (ts : List T4) (a b m s : Nat) : Bool := decide ((m : Int) < (cnt ts a s : Int) - (cnt ts b s : Int)) || decide ((m : Int) < 0 - ((cnt ts a s : Int) - (cnt ts b s : Int)))
def ind (ts : List T4) (row : List Nat) (j s k : Nat) : Nat := if sel j (tl ts (row.getD k 0)) = s then 1 else 0
theorem cnt_perm {ts : List T4} {row : List Nat} (h : row.Perm (List.range ts.length)) (j s : Nat) : cnt ts j s = ((List.range ts.length).map fun k => ind ts row j s k).sum := by
  have hl : row.length = ts.length := by rw [h.length_eq, List.length_range]
  have h1 : (row.map (tl ts)).Perm ts := by
    have := h.map (tl ts)
    have e : (List.range ts.length).map (tl ts) = ts := by
      refine List.ext_getElem (by simp) fun i h1 h2 => ?_
      simp only [List.getElem_map, List.getElem_range, tl]
      exact getD_in h2
    rwa [e] at this
  have e1 : cnt ts j s = ((row.map (tl ts)).filter fun t => decide (sel j t = s)).length := (h1.filter _).length_eq.symm
  have e2 : row = (List.range ts.length).map fun k => row.getD k 0 := by
    refine List.ext_getElem (by simp [hl]) fun i h1 h2 => ?_
    simp only [List.getElem_map, List.getElem_range]
    exact (getD_in h1).symm
  have e3 : ∀ xs : List Nat, ((xs.map (tl ts)).filter fun t => decide (sel j t = s)).length = (xs.map fun k => if sel j (tl ts k) = s then 1 else 0).sum := by
    intro xs
    induction xs with
    | nil => rfl
    | cons x xs ih =>
      rw [List.map_cons, List.filter_cons, List.map_cons, List.sum_cons, ← ih]
      by_cases c : sel j (tl ts x) = s
      · simp [c]; omega
      · simp [c]
  rw [e1, e3]
  conv => lhs; rw [e2]
  rw [List.map_map]
  rfl
theorem ind_le (ts : List T4) (row : List Nat) (j s k : Nat) : ind ts row j s k ≤ 1 := by unfold ind; split <;> omega
theorem ind_eq {ts : List T4} {row : List Nat} {a b k m : Nat} (h : sel a (tl ts (row.getD k 0)) = sel b (tl ts (row.getD m 0))) (s : Nat) : ind ts row a s k = ind ts row b s m := by unfold ind; rw [h]
def okSz (R C : Nat) : Prop := (R = 1 ∧ C = 1) ∨ (R = 1 ∧ C = 3) ∨ (R = 2 ∧ C = 2) ∨ (R = 3 ∧ C = 1) ∨ (R = 2 ∧ C = 3) ∨ (R = 3 ∧ C = 2)
theorem not_over {R C : Nat} (hz : okSz R C) {ts : List T4} (hl : ts.length = R * C) {row : List Nat} (h : row.Perm (List.range ts.length)) (g : good R C ts row) (s : Nat) : over ts 1 3 R s = false ∧ over ts 2 0 C s = false := by
  unfold over
  rw [cnt_perm h 1 s, cnt_perm h 3 s, cnt_perm h 2 s, cnt_perm h 0 s, hl]
  have l := ind_le ts row
  have r : ∀ i j, i < R → j + 1 < C → ind ts row 1 s (i * C + j) = ind ts row 3 s (i * C + j + 1) := fun i j hi hj => ind_eq ((g i j hi (by omega)).1 hj) s
  have d : ∀ i j, i + 1 < R → j < C → ind ts row 2 s (i * C + j) = ind ts row 0 s (i * C + j + C) := fun i j hi hj => ind_eq ((g i j (by omega) hj).2 hi) s
  simp only [Bool.or_eq_false_iff, decide_eq_false_iff_not]
  have L : ∀ j, ind ts row j s 0 ≤ 1 ∧ ind ts row j s 1 ≤ 1 ∧ ind ts row j s 2 ≤ 1 ∧ ind ts row j s 3 ≤ 1 ∧ ind ts row j s 4 ≤ 1 ∧ ind ts row j s 5 ≤ 1 := fun j => ⟨l j s 0, l j s 1, l j s 2, l j s 3, l j s 4, l j s 5⟩
  have l0 := L 0
  have l1 := L 1
  have l2 := L 2
  have l3 := L 3
  rcases hz with ⟨rfl, rfl⟩ | ⟨rfl, rfl⟩ | ⟨rfl, rfl⟩ | ⟨rfl, rfl⟩ | ⟨rfl, rfl⟩ | ⟨rfl, rfl⟩
  · simp [List.range, List.range.loop]; omega
  · have r0 := r 0 0 (by omega) (by omega); have r1 := r 0 1 (by omega) (by omega)
    simp [List.range, List.range.loop] at *; omega
  · have r0 := r 0 0 (by omega) (by omega); have r1 := r 1 0 (by omega) (by omega)
    have d0 := d 0 0 (by omega) (by omega); have d1 := d 0 1 (by omega) (by omega)
    simp [List.range, List.range.loop] at *; omega
  · have d0 := d 0 0 (by omega) (by omega); have d1 := d 1 0 (by omega) (by omega)
    simp [List.range, List.range.loop] at *; omega
  · have r0 := r 0 0 (by omega) (by omega); have r1 := r 0 1 (by omega) (by omega)
    have r2 := r 1 0 (by omega) (by omega); have r3 := r 1 1 (by omega) (by omega)
    have d0 := d 0 0 (by omega) (by omega); have d1 := d 0 1 (by omega) (by omega); have d2 := d 0 2 (by omega) (by omega)
    simp [List.range, List.range.loop] at *; omega
  · have r0 := r 0 0 (by omega) (by omega); have r1 := r 1 0 (by omega) (by omega); have r2 := r 2 0 (by omega) (by omega)
    have d0 := d 0 0 (by omega) (by omega); have d1 := d 0 1 (by omega) (by omega); have d2 := d 1 0 (by omega) (by omega); have d3 := d 1 1 (by omega) (by omega)
    simp [List.range, List.range.loop] at *; omega
end Lw

namespace Sn
open PySem PySem.Spec PyProof.Rows L2
@[simp] theorem r_take (k : Int) : m_take [.box, .int k] = takeM k := (rfl)
theorem Wp.take {k : Int} {P : D → Prop} (h : 0 < k) (h2 : k < 1073741824) (q : ∀ d : Nat, (d : Int) < k → P (.int (d : Int))) : Wp (takeM k) P := fun b => by
  obtain ⟨g1, g2⟩ := takeT_in b k h
  refine ⟨.int (takeT b k h).1, (takeT b k h).2, dif_pos ⟨h, h2⟩, ?_⟩
  have := q (takeT b k h).1.toNat (by omega)
  rwa [Int.toNat_of_nonneg g1] at this
theorem Wp.taken {k : Int} {P : D → Prop} (h : 0 < k) (h2 : k < 1073741824) (q : ∀ d : Nat, (d : Int) < k → P (.int (d : Int))) : Wp (Sn.bnd (consM (Sn.ret .box) (consM (Sn.ret (.int k)) (Sn.ret []))) m_take) P := Wp.eq (by rw [r_consM, r_consM, r_bnd]; rfl) (Wp.take h h2 q)
end Sn

namespace Sn
open PySem PySem.Spec PyProof.Rows L2
/-! ### _law_spoilt of the tape laws -/
def spoiltR (tape_65 value_66 : D) : M Tp (Fl Unit Unit) :=
  (bnd (lstM (consM (ret .non) (consM (tupM (ret [])) (consM (ret (.int 0)) (consM (ret (.int 1)) (consM (ret (.bl true)) (consM (ret (.bl false)) (consM (ret (.str "a")) (consM (negM (ret (.int 1))) (consM (tupM (consM (ret (.int 0)) (ret []))) (consM (tupM (consM (tupM (consM (ret (.int 0)) (consM (ret (.int 0)) (ret [])))) (ret []))) (ret [])))))))))))) fun rows_70 => (iteF (valT (isiM "int" (ret value_66))) (bnd (op2M addD (ret rows_70) (lstM (consM (op2M addD (ret value_66) (ret (.int 1))) (consM (op2M subD (ret value_66) (ret (.int 1))) (consM (op2M eqD (ret value_66) (ret (.int 1))) (consM (op2M addD (ret value_66) (ret (.int 1))) (ret []))))))) fun rows_71 => (ret (.nx rows_71))) (ret (.nx rows_70)) fun (s_72 : D) => (iteF (valT (isiM "tuple" (ret value_66))) (bnd (op2M addD (ret s_72) (lstM (consM (slM (ret value_66) (ret none) (ptM (negM (ret (.int 1))))) (consM (op2M addD (ret value_66) (slM (ret value_66) (ptM (negM (ret (.int 1)))) (ret none))) (consM (revM (ret value_66)) (consM (op2M addD (ret value_66) (tupM (consM (tupM (consM (ret (.int 0)) (consM (ret (.int 0)) (ret [])))) (ret [])))) (consM (tupM (consM (ret value_66) (ret []))) (consM (slM (ret value_66) (ptM (ret (.int 1))) (ret none)) (ret []))))))))) fun rows_73 => (ret (.nx rows_73))) (ret (.nx s_72)) fun (s_74 : D) => (retF (ixM (ret s_74) (bnd (consM (ret tape_65) (consM (bcM lenD (consM (ret s_74) (ret []))) (ret []))) m_take))))))
def spoiltB (self : List D → M Tp D) (tape_65 : D) (value_66 : D) : M Tp (Fl Unit Unit) :=
  (iteF (andT (valT (isiM "tuple" (ret value_66))) (andT (cmpT gtD (bcM lenD (consM (ret value_66) (ret []))) (ret (.int 0))) (cmpT gtD (bnd (consM (ret tape_65) (consM (ret (.int 4)) (ret []))) m_take) (ret (.int 0))))) (bnd (bnd (consM (ret tape_65) (consM (bcM lenD (consM (ret value_66) (ret []))) (ret []))) m_take) fun at_67 => (iteF (cmpT eqD (bnd (consM (ret tape_65) (consM (ret (.int 8)) (ret []))) m_take) (ret (.int 0))) (retF (op2M addD (slM (ret value_66) (ret none) (ptM (ret at_67))) (slM (ret value_66) (ptM (op2M addD (ret at_67) (ret (.int 1)))) (ret none)))) (ret (.nx ())) fun (s_68 : Unit) => (retF (op2M addD (op2M addD (slM (ret value_66) (ret none) (ptM (ret at_67))) (tupM (consM (bnd (consM (ret tape_65) (consM (ixM (ret value_66) (ret at_67)) (ret []))) self) (ret [])))) (slM (ret value_66) (ptM (op2M addD (ret at_67) (ret (.int 1)))) (ret none)))))) (ret (.nx ())) fun (s_69 : Unit) => spoiltR tape_65 value_66)
/-- plain data whose tuples are no longer than L -/
inductive Ps (L : Nat) : Nat → D → Prop
  | non {n : Nat} : Ps L n .non
  | bl {n : Nat} (b : Bool) : Ps L n (.bl b)
  | int {n : Nat} (i : Int) : Ps L n (.int i)
  | str {n : Nat} {x : Str} (h : PyData.strOk x = true) : Ps L n (.str x)
  | tup {n : Nat} {xs : List D} (h : ∀ x ∈ xs, Ps L n x) (hl : xs.length ≤ L) : Ps L (n + 1) (.tup xs)
theorem Ps.pb {L n : Nat} (hL : L < 16777216) {d : D} (h : Ps L n d) : Pb n d := by
  induction h with
  | non => exact .non
  | bl b => exact .bl b
  | int i => exact .int i
  | str h => exact .str h
  | tup h hl ih => exact .tup ih (by omega)
theorem Ps.mono {L n m : Nat} {d : D} (h : Ps L n d) (hm : n ≤ m) : Ps L m d := by
  induction h generalizing m with
  | non => exact .non
  | bl b => exact .bl b
  | int i => exact .int i
  | str h => exact .str h
  | tup h hl ih => cases m with | zero => omega | succ m => exact .tup (fun x hx => ih x hx (by omega)) hl
theorem Ps.wide {L M n : Nat} {d : D} (h : Ps L n d) (hm : L ≤ M) : Ps M n d := by
  induction h with
  | non => exact .non
  | bl b => exact .bl b
  | int i => exact .int i
  | str h => exact .str h
  | tup h hl ih => exact .tup ih (by omega)
/-- .. that is spoilt: ints, texts, None, tuples -/
inductive Pt (L : Nat) : Nat → D → Prop
  | int {n : Nat} (i : Int) : Pt L n (.int i)
  | str {n : Nat} {x : Str} (h : PyData.strOk x = true) : Pt L n (.str x)
  | non {n : Nat} : Pt L n .non
  | tup {n : Nat} {xs : List D} (h : ∀ x ∈ xs, Pt L n x) (hl : xs.length ≤ L) : Pt L (n + 1) (.tup xs)
theorem Pt.ps {L n : Nat} {d : D} (h : Pt L n d) : Ps L n d := by
  induction h with
  | int i => exact .int i
  | str h => exact .str h
  | non => exact .non
  | tup h hl ih => exact .tup ih hl
theorem Pt.mono {L n m : Nat} {d : D} (h : Pt L n d) (hm : n ≤ m) : Pt L m d := by
  induction h generalizing m with
  | non => exact .non
  | int i => exact .int i
  | str h => exact .str h
  | tup h hl ih => cases m with | zero => omega | succ m => exact .tup (fun x hx => ih x hx (by omega)) hl
theorem cut_mem {α : Type} {xs : List α} {i j : Option Int} {x : α} (h : x ∈ cutL xs i j) : x ∈ xs := List.mem_of_mem_drop (List.mem_of_mem_take h)
theorem cut_len {α : Type} (xs : List α) (i j : Option Int) : (cutL xs i j).length ≤ xs.length := by
  unfold cutL
  rw [List.length_take, List.length_drop]; omega
section
variable {S : Type}
theorem Wp.andT {n k : M S Bool} {P : Bool → Prop} (h : Wp n fun t => Wp (if t = true then k else Sn.ret false) P) : Wp (Sn.andT n k) P := Wp.bnd h
theorem Wp.orT {n k : M S Bool} {P : Bool → Prop} (h : Wp n fun t => Wp (if t = true then Sn.ret true else k) P) : Wp (Sn.orT n k) P := Wp.bnd h
/-- an item of a list, wherever -/
theorem pickL {xs : List D} {p : Int} {P : D → Prop} (h : 0 ≤ p) (h2 : p < xs.length) (q : ∀ x ∈ xs, P x) : ∃ d, ixD (.lst xs) (.int p) = some d ∧ P d := ⟨_, atI_ok h h2, q _ (List.getElem_mem _)⟩
theorem pickT {xs : List D} {p : Int} {P : D → Prop} (h : 0 ≤ p) (h2 : p < xs.length) (q : ∀ x ∈ xs, P x) : ∃ d, ixD (.tup xs) (.int p) = some d ∧ P d := ⟨_, atI_ok h h2, q _ (List.getElem_mem _)⟩
end
theorem cut_m1 {α : Type} (xs : List α) : (cutL xs (some (-1)) none).length ≤ 1 := by
  unfold cutL HT.sIx
  rw [List.length_take, List.length_drop]
  simp
  omega
theorem cut_at {α : Type} (xs : List α) (k : Nat) : (cutL xs none (some (k : Int))).length + (cutL xs (some ((k : Int) + 1)) none).length ≤ xs.length := by
  rw [cutL_to (by omega), cutL_from (by omega), List.length_take, List.length_drop]; omega
theorem cut_at1 {α : Type} (xs : List α) {k : Nat} (h : k < xs.length) : (cutL xs none (some (k : Int))).length + 1 + (cutL xs (some ((k : Int) + 1)) none).length ≤ xs.length := by
  rw [cutL_to (by omega), cutL_from (by omega), List.length_take, List.length_drop]; omega
theorem eq_int1 (i j : Int) : eqD (.int i) (.int j) = some (.bl (decide (i = j))) := r_eq i j
def rows0 : List D := [.non, .tup [], .int 0, .int 1, .bl true, .bl false, .str "a", .int (-1), .tup [.int 0], .tup [.tup [.int 0, .int 0]]]
theorem rows0_pb {L n : Nat} (hL : 1 ≤ L) : ∀ x ∈ rows0, Ps (L + 1) (n + 2) x := by
  intro x hx
  unfold rows0 at hx
  simp only [List.mem_cons, List.not_mem_nil, or_false] at hx
  have hi : Ps (L + 1) (n + 1) (.int 0) := .int 0
  have h2 : Ps (L + 1) (n + 1) (.tup [.int 0, .int 0]) := .tup (fun y hy => by simp at hy; subst hy; exact .int 0) (by simp; omega)
  rcases hx with rfl | rfl | rfl | rfl | rfl | rfl | rfl | rfl | rfl | rfl
  · exact .non
  · exact .tup (fun y hy => by cases hy) (by simp)
  · exact .int _
  · exact .int _
  · exact .bl _
  · exact .bl _
  · exact .str (by decide +kernel)
  · exact .int _
  · exact .tup (fun y hy => by rw [List.mem_singleton.mp hy]; exact hi) (by simp)
  · exact .tup (fun y hy => by rw [List.mem_singleton.mp hy]; exact h2) (by simp)
/-- the end: an item of the rows -/
theorem rows_end {rows : List D} {P : D → Prop} (h0 : 0 < rows.length) (hl : rows.length ≤ 1000) (h : ∀ x ∈ rows, P x) : Wp (retF (ixM (ret (.lst rows)) (bnd (consM (ret .box) (consM (bcM lenD (consM (ret (.lst rows)) (ret []))) (ret []))) m_take)) : M Tp (Fl Unit Unit)) fun a => Wp (endF a : M Tp D) P := by
  rw [r_consM, r_bcM, r_lenL, r_lift]
  refine Wp.retF (Wp.bnd (Wp.ret (Wp.bnd (Wp.taken (k := (rows.length : Int)) (by omega) (by omega) fun p hp => ?_))))
  obtain ⟨d, e, q⟩ := pickL (p := (p : Int)) (by omega) hp h
  rw [e]
  exact Wp.ret (Wp.ret q)
theorem spoiltR_wp {L n : Nat} (hL : 1 ≤ L) (hL2 : L ≤ 1000) {d : D} (h : Pt L n d) : Wp (spoiltR .box d) fun a => Wp (endF a : M Tp D) (Ps (L + 1) (n + 2)) := by
  unfold spoiltR
  refine Wp.val (v := .lst rows0) (by simp (disch := (first | assumption | (refine InP.mem ?_; assumption) | omega | solve_by_elim | (simp only [InP, decide_eq_true_eq, List.map_id', List.length_map, List.length_cons, List.length_nil, List.length_append, List.length_range, List.length_zip, List.length_tail, List.length_take, List.length_drop, rI_len, rng_len, mem_rI, List.mem_range] at *; omega) | (simp only [List.map_id']; assumption) | simp)) only [r_bnd, r_lift, r_op2, r_cmpT, r_asB, r_asI, r_valT, r_tru_bl, r_tru_int, r_tru_lst, r_tru_tup, r_tru_non, r_notT, r_andTt, r_andTf, r_andT, r_orTt, r_orTf, r_orT, r_andMt, r_andMf, r_andM, r_orMt, r_orMf, r_orM, r_notM, r_negM, r_negD, r_ifM, r_consM, r_tupM, r_lstM, r_tup0, r_tup1, r_tup2, r_tup3, r_tup4, r_tup5, r_tup6, r_lst0, r_lst1, r_lst2, r_lst3, r_lst4, r_lst5, r_bcM, r_lenT, r_lenL, List.length_map, r_tupT, r_tupL, r_lstT, r_lstL, r_int, r_ixM, r_ixT, r_ixL, r_ptM, r_slM, r_slT, r_slL, r_itT, r_itL, r_isi, r_add, r_sub, r_lt, r_le, r_gt, r_ge, r_isN, r_isntN, r_isB, r_isntB, nonNon, nonI, nonT, nonL, nonB, nonS, r_retF, r_endR, r_endN, r_iteF, r_seqN, r_seqR, r_seqB, r_seqC, r_forM, r_own, r_ownd, r_par, r_parN, r_parNN, r_eltT, r_eltF, r_elt, r_eq, r_ne, r_eqb, r_neb, compG_ret, compG_none, compG_retIf, compG_filt, eltM_ret, forL_G, forG_unit, forG_find, chainM_ret, chainT_ret, s_iteB, s_iteT, s_comp, s_all, s_any, s_sum, max2_ok, min2_ok, s_zipL, s_zipT, zipT_map, s_pat2, s_pat3, s_app, s_extL, s_extT, s_count, s_atR, s_atC0, s_atC1, s_atC2, s_in_nats, s_nin_nats, List.map_map, Function.comp_apply, Bool.false_eq_true, if_true, if_false, ↓reduceIte, Bool.not_true, Bool.not_false, Bool.and_true, Bool.true_and, Bool.or_false, Bool.false_or, Bool.and_false, Bool.false_and, Bool.or_true, Bool.true_or, decide_true, decide_false]; rfl) ?_
  cases h with
  | int i =>
    refine Wp.ite (Wp.eq (n := ret true) (by simp (disch := (first | assumption | (refine InP.mem ?_; assumption) | omega | solve_by_elim | (simp only [InP, decide_eq_true_eq, List.map_id', List.length_map, List.length_cons, List.length_nil, List.length_append, List.length_range, List.length_zip, List.length_tail, List.length_take, List.length_drop, rI_len, rng_len, mem_rI, List.mem_range] at *; omega) | (simp only [List.map_id']; assumption) | simp)) only [r_bnd, r_lift, r_op2, r_cmpT, r_asB, r_asI, r_valT, r_tru_bl, r_tru_int, r_tru_lst, r_tru_tup, r_tru_non, r_notT, r_andTt, r_andTf, r_andT, r_orTt, r_orTf, r_orT, r_andMt, r_andMf, r_andM, r_orMt, r_orMf, r_orM, r_notM, r_negM, r_negD, r_ifM, r_consM, r_tupM, r_lstM, r_tup0, r_tup1, r_tup2, r_tup3, r_tup4, r_tup5, r_tup6, r_lst0, r_lst1, r_lst2, r_lst3, r_lst4, r_lst5, r_bcM, r_lenT, r_lenL, List.length_map, r_tupT, r_tupL, r_lstT, r_lstL, r_int, r_ixM, r_ixT, r_ixL, r_ptM, r_slM, r_slT, r_slL, r_itT, r_itL, r_isi, r_add, r_sub, r_lt, r_le, r_gt, r_ge, r_isN, r_isntN, r_isB, r_isntB, nonNon, nonI, nonT, nonL, nonB, nonS, r_retF, r_endR, r_endN, r_iteF, r_seqN, r_seqR, r_seqB, r_seqC, r_forM, r_own, r_ownd, r_par, r_parN, r_parNN, r_eltT, r_eltF, r_elt, r_eq, r_ne, r_eqb, r_neb, compG_ret, compG_none, compG_retIf, compG_filt, eltM_ret, forL_G, forG_unit, forG_find, chainM_ret, chainT_ret, s_iteB, s_iteT, s_comp, s_all, s_any, s_sum, max2_ok, min2_ok, s_zipL, s_zipT, zipT_map, s_pat2, s_pat3, s_app, s_extL, s_extT, s_count, s_atR, s_atC0, s_atC1, s_atC2, s_in_nats, s_nin_nats, List.map_map, Function.comp_apply, Bool.false_eq_true, if_true, if_false, ↓reduceIte, Bool.not_true, Bool.not_false, Bool.and_true, Bool.true_and, Bool.or_false, Bool.false_or, Bool.and_false, Bool.false_and, Bool.or_true, Bool.true_or, decide_true, decide_false, i_int_int]) (Wp.ret ?_))
    rw [if_pos rfl]
    refine Wp.val (v := .lst (rows0 ++ [.int (i + 1), .int (i - 1), .bl (decide (i = 1)), .int (i + 1)])) (by simp (disch := (first | assumption | (refine InP.mem ?_; assumption) | omega | solve_by_elim | (simp only [InP, decide_eq_true_eq, List.map_id', List.length_map, List.length_cons, List.length_nil, List.length_append, List.length_range, List.length_zip, List.length_tail, List.length_take, List.length_drop, rI_len, rng_len, mem_rI, List.mem_range] at *; omega) | (simp only [List.map_id']; assumption) | simp)) only [r_bnd, r_lift, r_op2, r_cmpT, r_asB, r_asI, r_valT, r_tru_bl, r_tru_int, r_tru_lst, r_tru_tup, r_tru_non, r_notT, r_andTt, r_andTf, r_andT, r_orTt, r_orTf, r_orT, r_andMt, r_andMf, r_andM, r_orMt, r_orMf, r_orM, r_notM, r_negM, r_negD, r_ifM, r_consM, r_tupM, r_lstM, r_tup0, r_tup1, r_tup2, r_tup3, r_tup4, r_tup5, r_tup6, r_lst0, r_lst1, r_lst2, r_lst3, r_lst4, r_lst5, r_bcM, r_lenT, r_lenL, List.length_map, r_tupT, r_tupL, r_lstT, r_lstL, r_int, r_ixM, r_ixT, r_ixL, r_ptM, r_slM, r_slT, r_slL, r_itT, r_itL, r_isi, r_add, r_sub, r_lt, r_le, r_gt, r_ge, r_isN, r_isntN, r_isB, r_isntB, nonNon, nonI, nonT, nonL, nonB, nonS, r_retF, r_endR, r_endN, r_iteF, r_seqN, r_seqR, r_seqB, r_seqC, r_forM, r_own, r_ownd, r_par, r_parN, r_parNN, r_eltT, r_eltF, r_elt, r_eq, r_ne, r_eqb, r_neb, compG_ret, compG_none, compG_retIf, compG_filt, eltM_ret, forL_G, forG_unit, forG_find, chainM_ret, chainT_ret, s_iteB, s_iteT, s_comp, s_all, s_any, s_sum, max2_ok, min2_ok, s_zipL, s_zipT, zipT_map, s_pat2, s_pat3, s_app, s_extL, s_extT, s_count, s_atR, s_atC0, s_atC1, s_atC2, s_in_nats, s_nin_nats, List.map_map, Function.comp_apply, Bool.false_eq_true, if_true, if_false, ↓reduceIte, Bool.not_true, Bool.not_false, Bool.and_true, Bool.true_and, Bool.or_false, Bool.false_or, Bool.and_false, Bool.false_and, Bool.or_true, Bool.true_or, decide_true, decide_false, eq_int1]; rfl) (Wp.ret ?_)
    rw [r_seqN]
    refine Wp.off (by simp (disch := (first | assumption | (refine InP.mem ?_; assumption) | omega | solve_by_elim | (simp only [InP, decide_eq_true_eq, List.map_id', List.length_map, List.length_cons, List.length_nil, List.length_append, List.length_range, List.length_zip, List.length_tail, List.length_take, List.length_drop, rI_len, rng_len, mem_rI, List.mem_range] at *; omega) | (simp only [List.map_id']; assumption) | simp)) only [r_bnd, r_lift, r_op2, r_cmpT, r_asB, r_asI, r_valT, r_tru_bl, r_tru_int, r_tru_lst, r_tru_tup, r_tru_non, r_notT, r_andTt, r_andTf, r_andT, r_orTt, r_orTf, r_orT, r_andMt, r_andMf, r_andM, r_orMt, r_orMf, r_orM, r_notM, r_negM, r_negD, r_ifM, r_consM, r_tupM, r_lstM, r_tup0, r_tup1, r_tup2, r_tup3, r_tup4, r_tup5, r_tup6, r_lst0, r_lst1, r_lst2, r_lst3, r_lst4, r_lst5, r_bcM, r_lenT, r_lenL, List.length_map, r_tupT, r_tupL, r_lstT, r_lstL, r_int, r_ixM, r_ixT, r_ixL, r_ptM, r_slM, r_slT, r_slL, r_itT, r_itL, r_isi, r_add, r_sub, r_lt, r_le, r_gt, r_ge, r_isN, r_isntN, r_isB, r_isntB, nonNon, nonI, nonT, nonL, nonB, nonS, r_retF, r_endR, r_endN, r_iteF, r_seqN, r_seqR, r_seqB, r_seqC, r_forM, r_own, r_ownd, r_par, r_parN, r_parNN, r_eltT, r_eltF, r_elt, r_eq, r_ne, r_eqb, r_neb, compG_ret, compG_none, compG_retIf, compG_filt, eltM_ret, forL_G, forG_unit, forG_find, chainM_ret, chainT_ret, s_iteB, s_iteT, s_comp, s_all, s_any, s_sum, max2_ok, min2_ok, s_zipL, s_zipT, zipT_map, s_pat2, s_pat3, s_app, s_extL, s_extT, s_count, s_atR, s_atC0, s_atC1, s_atC2, s_in_nats, s_nin_nats, List.map_map, Function.comp_apply, Bool.false_eq_true, if_true, if_false, ↓reduceIte, Bool.not_true, Bool.not_false, Bool.and_true, Bool.true_and, Bool.or_false, Bool.false_or, Bool.and_false, Bool.false_and, Bool.or_true, Bool.true_or, decide_true, decide_false, i_tuple_int]) ?_
    refine rows_end (by simp [rows0]) (by simp [rows0]) fun x hx => ?_
    rcases List.mem_append.mp hx with hx | hx
    · exact rows0_pb hL x hx
    · simp only [List.mem_cons, List.not_mem_nil, or_false] at hx
      rcases hx with rfl | rfl | rfl | rfl
      · exact .int _
      · exact .int _
      · exact .bl _
      · exact .int _
  | str h =>
    refine Wp.off (by simp (disch := (first | assumption | (refine InP.mem ?_; assumption) | omega | solve_by_elim | (simp only [InP, decide_eq_true_eq, List.map_id', List.length_map, List.length_cons, List.length_nil, List.length_append, List.length_range, List.length_zip, List.length_tail, List.length_take, List.length_drop, rI_len, rng_len, mem_rI, List.mem_range] at *; omega) | (simp only [List.map_id']; assumption) | simp)) only [r_bnd, r_lift, r_op2, r_cmpT, r_asB, r_asI, r_valT, r_tru_bl, r_tru_int, r_tru_lst, r_tru_tup, r_tru_non, r_notT, r_andTt, r_andTf, r_andT, r_orTt, r_orTf, r_orT, r_andMt, r_andMf, r_andM, r_orMt, r_orMf, r_orM, r_notM, r_negM, r_negD, r_ifM, r_consM, r_tupM, r_lstM, r_tup0, r_tup1, r_tup2, r_tup3, r_tup4, r_tup5, r_tup6, r_lst0, r_lst1, r_lst2, r_lst3, r_lst4, r_lst5, r_bcM, r_lenT, r_lenL, List.length_map, r_tupT, r_tupL, r_lstT, r_lstL, r_int, r_ixM, r_ixT, r_ixL, r_ptM, r_slM, r_slT, r_slL, r_itT, r_itL, r_isi, r_add, r_sub, r_lt, r_le, r_gt, r_ge, r_isN, r_isntN, r_isB, r_isntB, nonNon, nonI, nonT, nonL, nonB, nonS, r_retF, r_endR, r_endN, r_iteF, r_seqN, r_seqR, r_seqB, r_seqC, r_forM, r_own, r_ownd, r_par, r_parN, r_parNN, r_eltT, r_eltF, r_elt, r_eq, r_ne, r_eqb, r_neb, compG_ret, compG_none, compG_retIf, compG_filt, eltM_ret, forL_G, forG_unit, forG_find, chainM_ret, chainT_ret, s_iteB, s_iteT, s_comp, s_all, s_any, s_sum, max2_ok, min2_ok, s_zipL, s_zipT, zipT_map, s_pat2, s_pat3, s_app, s_extL, s_extT, s_count, s_atR, s_atC0, s_atC1, s_atC2, s_in_nats, s_nin_nats, List.map_map, Function.comp_apply, Bool.false_eq_true, if_true, if_false, ↓reduceIte, Bool.not_true, Bool.not_false, Bool.and_true, Bool.true_and, Bool.or_false, Bool.false_or, Bool.and_false, Bool.false_and, Bool.or_true, Bool.true_or, decide_true, decide_false, i_int_str]) (Wp.off (by simp (disch := (first | assumption | (refine InP.mem ?_; assumption) | omega | solve_by_elim | (simp only [InP, decide_eq_true_eq, List.map_id', List.length_map, List.length_cons, List.length_nil, List.length_append, List.length_range, List.length_zip, List.length_tail, List.length_take, List.length_drop, rI_len, rng_len, mem_rI, List.mem_range] at *; omega) | (simp only [List.map_id']; assumption) | simp)) only [r_bnd, r_lift, r_op2, r_cmpT, r_asB, r_asI, r_valT, r_tru_bl, r_tru_int, r_tru_lst, r_tru_tup, r_tru_non, r_notT, r_andTt, r_andTf, r_andT, r_orTt, r_orTf, r_orT, r_andMt, r_andMf, r_andM, r_orMt, r_orMf, r_orM, r_notM, r_negM, r_negD, r_ifM, r_consM, r_tupM, r_lstM, r_tup0, r_tup1, r_tup2, r_tup3, r_tup4, r_tup5, r_tup6, r_lst0, r_lst1, r_lst2, r_lst3, r_lst4, r_lst5, r_bcM, r_lenT, r_lenL, List.length_map, r_tupT, r_tupL, r_lstT, r_lstL, r_int, r_ixM, r_ixT, r_ixL, r_ptM, r_slM, r_slT, r_slL, r_itT, r_itL, r_isi, r_add, r_sub, r_lt, r_le, r_gt, r_ge, r_isN, r_isntN, r_isB, r_isntB, nonNon, nonI, nonT, nonL, nonB, nonS, r_retF, r_endR, r_endN, r_iteF, r_seqN, r_seqR, r_seqB, r_seqC, r_forM, r_own, r_ownd, r_par, r_parN, r_parNN, r_eltT, r_eltF, r_elt, r_eq, r_ne, r_eqb, r_neb, compG_ret, compG_none, compG_retIf, compG_filt, eltM_ret, forL_G, forG_unit, forG_find, chainM_ret, chainT_ret, s_iteB, s_iteT, s_comp, s_all, s_any, s_sum, max2_ok, min2_ok, s_zipL, s_zipT, zipT_map, s_pat2, s_pat3, s_app, s_extL, s_extT, s_count, s_atR, s_atC0, s_atC1, s_atC2, s_in_nats, s_nin_nats, List.map_map, Function.comp_apply, Bool.false_eq_true, if_true, if_false, ↓reduceIte, Bool.not_true, Bool.not_false, Bool.and_true, Bool.true_and, Bool.or_false, Bool.false_or, Bool.and_false, Bool.false_and, Bool.or_true, Bool.true_or, decide_true, decide_false, i_tuple_str]) ?_)
    exact rows_end (by simp [rows0]) (by simp [rows0]) (rows0_pb hL)
  | non =>
    refine Wp.off (by simp (disch := (first | assumption | (refine InP.mem ?_; assumption) | omega | solve_by_elim | (simp only [InP, decide_eq_true_eq, List.map_id', List.length_map, List.length_cons, List.length_nil, List.length_append, List.length_range, List.length_zip, List.length_tail, List.length_take, List.length_drop, rI_len, rng_len, mem_rI, List.mem_range] at *; omega) | (simp only [List.map_id']; assumption) | simp)) only [r_bnd, r_lift, r_op2, r_cmpT, r_asB, r_asI, r_valT, r_tru_bl, r_tru_int, r_tru_lst, r_tru_tup, r_tru_non, r_notT, r_andTt, r_andTf, r_andT, r_orTt, r_orTf, r_orT, r_andMt, r_andMf, r_andM, r_orMt, r_orMf, r_orM, r_notM, r_negM, r_negD, r_ifM, r_consM, r_tupM, r_lstM, r_tup0, r_tup1, r_tup2, r_tup3, r_tup4, r_tup5, r_tup6, r_lst0, r_lst1, r_lst2, r_lst3, r_lst4, r_lst5, r_bcM, r_lenT, r_lenL, List.length_map, r_tupT, r_tupL, r_lstT, r_lstL, r_int, r_ixM, r_ixT, r_ixL, r_ptM, r_slM, r_slT, r_slL, r_itT, r_itL, r_isi, r_add, r_sub, r_lt, r_le, r_gt, r_ge, r_isN, r_isntN, r_isB, r_isntB, nonNon, nonI, nonT, nonL, nonB, nonS, r_retF, r_endR, r_endN, r_iteF, r_seqN, r_seqR, r_seqB, r_seqC, r_forM, r_own, r_ownd, r_par, r_parN, r_parNN, r_eltT, r_eltF, r_elt, r_eq, r_ne, r_eqb, r_neb, compG_ret, compG_none, compG_retIf, compG_filt, eltM_ret, forL_G, forG_unit, forG_find, chainM_ret, chainT_ret, s_iteB, s_iteT, s_comp, s_all, s_any, s_sum, max2_ok, min2_ok, s_zipL, s_zipT, zipT_map, s_pat2, s_pat3, s_app, s_extL, s_extT, s_count, s_atR, s_atC0, s_atC1, s_atC2, s_in_nats, s_nin_nats, List.map_map, Function.comp_apply, Bool.false_eq_true, if_true, if_false, ↓reduceIte, Bool.not_true, Bool.not_false, Bool.and_true, Bool.true_and, Bool.or_false, Bool.false_or, Bool.and_false, Bool.false_and, Bool.or_true, Bool.true_or, decide_true, decide_false, i_int_NoneType]) (Wp.off (by simp (disch := (first | assumption | (refine InP.mem ?_; assumption) | omega | solve_by_elim | (simp only [InP, decide_eq_true_eq, List.map_id', List.length_map, List.length_cons, List.length_nil, List.length_append, List.length_range, List.length_zip, List.length_tail, List.length_take, List.length_drop, rI_len, rng_len, mem_rI, List.mem_range] at *; omega) | (simp only [List.map_id']; assumption) | simp)) only [r_bnd, r_lift, r_op2, r_cmpT, r_asB, r_asI, r_valT, r_tru_bl, r_tru_int, r_tru_lst, r_tru_tup, r_tru_non, r_notT, r_andTt, r_andTf, r_andT, r_orTt, r_orTf, r_orT, r_andMt, r_andMf, r_andM, r_orMt, r_orMf, r_orM, r_notM, r_negM, r_negD, r_ifM, r_consM, r_tupM, r_lstM, r_tup0, r_tup1, r_tup2, r_tup3, r_tup4, r_tup5, r_tup6, r_lst0, r_lst1, r_lst2, r_lst3, r_lst4, r_lst5, r_bcM, r_lenT, r_lenL, List.length_map, r_tupT, r_tupL, r_lstT, r_lstL, r_int, r_ixM, r_ixT, r_ixL, r_ptM, r_slM, r_slT, r_slL, r_itT, r_itL, r_isi, r_add, r_sub, r_lt, r_le, r_gt, r_ge, r_isN, r_isntN, r_isB, r_isntB, nonNon, nonI, nonT, nonL, nonB, nonS, r_retF, r_endR, r_endN, r_iteF, r_seqN, r_seqR, r_seqB, r_seqC, r_forM, r_own, r_ownd, r_par, r_parN, r_parNN, r_eltT, r_eltF, r_elt, r_eq, r_ne, r_eqb, r_neb, compG_ret, compG_none, compG_retIf, compG_filt, eltM_ret, forL_G, forG_unit, forG_find, chainM_ret, chainT_ret, s_iteB, s_iteT, s_comp, s_all, s_any, s_sum, max2_ok, min2_ok, s_zipL, s_zipT, zipT_map, s_pat2, s_pat3, s_app, s_extL, s_extT, s_count, s_atR, s_atC0, s_atC1, s_atC2, s_in_nats, s_nin_nats, List.map_map, Function.comp_apply, Bool.false_eq_true, if_true, if_false, ↓reduceIte, Bool.not_true, Bool.not_false, Bool.and_true, Bool.true_and, Bool.or_false, Bool.false_or, Bool.and_false, Bool.false_and, Bool.or_true, Bool.true_or, decide_true, decide_false, i_tuple_NoneType]) ?_)
    exact rows_end (by simp [rows0]) (by simp [rows0]) (rows0_pb hL)
  | tup h hl =>
    rename_i n xs
    have pe : ∀ x ∈ xs, Ps (L + 1) (n + 2) x := fun x hx => ((h x hx).ps.wide (by omega)).mono (by omega)
    have pc : ∀ i j, ∀ x ∈ cutL xs i j, Ps (L + 1) (n + 2) x := fun i j x hx => pe x (cut_mem hx)
    have l1 := cut_len xs none (some (-1))
    have l2 := cut_len xs (some (-1)) none
    have l3 := cut_len xs (some 1) none
    refine Wp.off (by simp (disch := (first | assumption | (refine InP.mem ?_; assumption) | omega | solve_by_elim | (simp only [InP, decide_eq_true_eq, List.map_id', List.length_map, List.length_cons, List.length_nil, List.length_append, List.length_range, List.length_zip, List.length_tail, List.length_take, List.length_drop, rI_len, rng_len, mem_rI, List.mem_range] at *; omega) | (simp only [List.map_id']; assumption) | simp)) only [r_bnd, r_lift, r_op2, r_cmpT, r_asB, r_asI, r_valT, r_tru_bl, r_tru_int, r_tru_lst, r_tru_tup, r_tru_non, r_notT, r_andTt, r_andTf, r_andT, r_orTt, r_orTf, r_orT, r_andMt, r_andMf, r_andM, r_orMt, r_orMf, r_orM, r_notM, r_negM, r_negD, r_ifM, r_consM, r_tupM, r_lstM, r_tup0, r_tup1, r_tup2, r_tup3, r_tup4, r_tup5, r_tup6, r_lst0, r_lst1, r_lst2, r_lst3, r_lst4, r_lst5, r_bcM, r_lenT, r_lenL, List.length_map, r_tupT, r_tupL, r_lstT, r_lstL, r_int, r_ixM, r_ixT, r_ixL, r_ptM, r_slM, r_slT, r_slL, r_itT, r_itL, r_isi, r_add, r_sub, r_lt, r_le, r_gt, r_ge, r_isN, r_isntN, r_isB, r_isntB, nonNon, nonI, nonT, nonL, nonB, nonS, r_retF, r_endR, r_endN, r_iteF, r_seqN, r_seqR, r_seqB, r_seqC, r_forM, r_own, r_ownd, r_par, r_parN, r_parNN, r_eltT, r_eltF, r_elt, r_eq, r_ne, r_eqb, r_neb, compG_ret, compG_none, compG_retIf, compG_filt, eltM_ret, forL_G, forG_unit, forG_find, chainM_ret, chainT_ret, s_iteB, s_iteT, s_comp, s_all, s_any, s_sum, max2_ok, min2_ok, s_zipL, s_zipT, zipT_map, s_pat2, s_pat3, s_app, s_extL, s_extT, s_count, s_atR, s_atC0, s_atC1, s_atC2, s_in_nats, s_nin_nats, List.map_map, Function.comp_apply, Bool.false_eq_true, if_true, if_false, ↓reduceIte, Bool.not_true, Bool.not_false, Bool.and_true, Bool.true_and, Bool.or_false, Bool.false_or, Bool.and_false, Bool.false_and, Bool.or_true, Bool.true_or, decide_true, decide_false, i_int_tuple]) ?_
    refine Wp.ite (Wp.eq (n := ret true) (by simp (disch := (first | assumption | (refine InP.mem ?_; assumption) | omega | solve_by_elim | (simp only [InP, decide_eq_true_eq, List.map_id', List.length_map, List.length_cons, List.length_nil, List.length_append, List.length_range, List.length_zip, List.length_tail, List.length_take, List.length_drop, rI_len, rng_len, mem_rI, List.mem_range] at *; omega) | (simp only [List.map_id']; assumption) | simp)) only [r_bnd, r_lift, r_op2, r_cmpT, r_asB, r_asI, r_valT, r_tru_bl, r_tru_int, r_tru_lst, r_tru_tup, r_tru_non, r_notT, r_andTt, r_andTf, r_andT, r_orTt, r_orTf, r_orT, r_andMt, r_andMf, r_andM, r_orMt, r_orMf, r_orM, r_notM, r_negM, r_negD, r_ifM, r_consM, r_tupM, r_lstM, r_tup0, r_tup1, r_tup2, r_tup3, r_tup4, r_tup5, r_tup6, r_lst0, r_lst1, r_lst2, r_lst3, r_lst4, r_lst5, r_bcM, r_lenT, r_lenL, List.length_map, r_tupT, r_tupL, r_lstT, r_lstL, r_int, r_ixM, r_ixT, r_ixL, r_ptM, r_slM, r_slT, r_slL, r_itT, r_itL, r_isi, r_add, r_sub, r_lt, r_le, r_gt, r_ge, r_isN, r_isntN, r_isB, r_isntB, nonNon, nonI, nonT, nonL, nonB, nonS, r_retF, r_endR, r_endN, r_iteF, r_seqN, r_seqR, r_seqB, r_seqC, r_forM, r_own, r_ownd, r_par, r_parN, r_parNN, r_eltT, r_eltF, r_elt, r_eq, r_ne, r_eqb, r_neb, compG_ret, compG_none, compG_retIf, compG_filt, eltM_ret, forL_G, forG_unit, forG_find, chainM_ret, chainT_ret, s_iteB, s_iteT, s_comp, s_all, s_any, s_sum, max2_ok, min2_ok, s_zipL, s_zipT, zipT_map, s_pat2, s_pat3, s_app, s_extL, s_extT, s_count, s_atR, s_atC0, s_atC1, s_atC2, s_in_nats, s_nin_nats, List.map_map, Function.comp_apply, Bool.false_eq_true, if_true, if_false, ↓reduceIte, Bool.not_true, Bool.not_false, Bool.and_true, Bool.true_and, Bool.or_false, Bool.false_or, Bool.and_false, Bool.false_and, Bool.or_true, Bool.true_or, decide_true, decide_false, i_tuple_tuple]) (Wp.ret ?_))
    rw [if_pos rfl]
    have er : (revM (ret (.tup xs)) : M Tp D) = ret (.tup xs.reverse) := rfl
    have en : (ptM (negM (ret (.int 1))) : M Tp (Option Int)) = ret (some (-1)) := rfl
    have e1 : addD (.tup xs) (.tup (cutL xs (some (-1)) none)) = some (.tup (xs ++ cutL xs (some (-1)) none)) := addT_ok (by omega)
    have e2 : addD (.tup xs) (.tup [.tup [.int 0, .int 0]]) = some (.tup (xs ++ [.tup [.int 0, .int 0]])) := addT_ok (by rw [List.length_singleton]; omega)
    refine Wp.val (v := .lst (rows0 ++ [.tup (cutL xs none (some (-1))), .tup (xs ++ cutL xs (some (-1)) none), .tup xs.reverse, .tup (xs ++ [.tup [.int 0, .int 0]]), .tup [.tup xs], .tup (cutL xs (some 1) none)])) ?_ (Wp.ret ?_)
    · rw [en, er]
      have e3 : addD (.lst rows0) (.lst [.tup (cutL xs none (some (-1))), .tup (xs ++ cutL xs (some (-1)) none), .tup xs.reverse, .tup (xs ++ [.tup [.int 0, .int 0]]), .tup [.tup xs], .tup (cutL xs (some 1) none)]) = some (.lst (rows0 ++ [.tup (cutL xs none (some (-1))), .tup (xs ++ cutL xs (some (-1)) none), .tup xs.reverse, .tup (xs ++ [.tup [.int 0, .int 0]]), .tup [.tup xs], .tup (cutL xs (some 1) none)])) := addL_ok (Nat.le_of_ble_eq_true rfl)
      simp (disch := (first | assumption | (refine InP.mem ?_; assumption) | omega | solve_by_elim | (simp only [InP, decide_eq_true_eq, List.map_id', List.length_map, List.length_cons, List.length_nil, List.length_append, List.length_range, List.length_zip, List.length_tail, List.length_take, List.length_drop, rI_len, rng_len, mem_rI, List.mem_range] at *; omega) | (simp only [List.map_id']; assumption) | simp)) only [r_bnd, r_lift, r_op2, r_cmpT, r_asB, r_asI, r_valT, r_tru_bl, r_tru_int, r_tru_lst, r_tru_tup, r_tru_non, r_notT, r_andTt, r_andTf, r_andT, r_orTt, r_orTf, r_orT, r_andMt, r_andMf, r_andM, r_orMt, r_orMf, r_orM, r_notM, r_negM, r_negD, r_ifM, r_consM, r_tupM, r_lstM, r_tup0, r_tup1, r_tup2, r_tup3, r_tup4, r_tup5, r_tup6, r_lst0, r_lst1, r_lst2, r_lst3, r_lst4, r_lst5, r_bcM, r_lenT, r_lenL, List.length_map, r_tupT, r_tupL, r_lstT, r_lstL, r_int, r_ixM, r_ixT, r_ixL, r_ptM, r_slM, r_slT, r_slL, r_itT, r_itL, r_isi, r_add, r_sub, r_lt, r_le, r_gt, r_ge, r_isN, r_isntN, r_isB, r_isntB, nonNon, nonI, nonT, nonL, nonB, nonS, r_retF, r_endR, r_endN, r_iteF, r_seqN, r_seqR, r_seqB, r_seqC, r_forM, r_own, r_ownd, r_par, r_parN, r_parNN, r_eltT, r_eltF, r_elt, r_eq, r_ne, r_eqb, r_neb, compG_ret, compG_none, compG_retIf, compG_filt, eltM_ret, forL_G, forG_unit, forG_find, chainM_ret, chainT_ret, s_iteB, s_iteT, s_comp, s_all, s_any, s_sum, max2_ok, min2_ok, s_zipL, s_zipT, zipT_map, s_pat2, s_pat3, s_app, s_extL, s_extT, s_count, s_atR, s_atC0, s_atC1, s_atC2, s_in_nats, s_nin_nats, List.map_map, Function.comp_apply, Bool.false_eq_true, if_true, if_false, ↓reduceIte, Bool.not_true, Bool.not_false, Bool.and_true, Bool.true_and, Bool.or_false, Bool.false_or, Bool.and_false, Bool.false_and, Bool.or_true, Bool.true_or, decide_true, decide_false, e1, e2]
      rw [r_lst6, r_lift, r_op2, e3, r_lift]
    · rw [r_seqN]
      refine rows_end (by simp [rows0]) (by simp [rows0]) fun x hx => ?_
      rcases List.mem_append.mp hx with hx | hx
      · exact rows0_pb hL x hx
      · simp only [List.mem_cons, List.not_mem_nil, or_false] at hx
        have two : ∀ {ys zs : List D}, (∀ y ∈ ys, Ps (L + 1) (n + 2) y) → (∀ y ∈ zs, Ps (L + 1) (n + 2) y) → ys.length + zs.length ≤ L + 1 → Ps (L + 1) (n + 3) (.tup (ys ++ zs)) := fun h1 h2 h3 => .tup (fun y hy => (List.mem_append.mp hy).elim (h1 y) (h2 y)) (by rw [List.length_append]; omega)
        rcases hx with rfl | rfl | rfl | rfl | rfl | rfl
        · exact .tup (pc _ _) (by omega)
        · exact two pe (pc _ _) (by have := cut_m1 xs; omega)
        · exact .tup (fun y hy => pe y (List.mem_reverse.mp hy)) (by rw [List.length_reverse]; omega)
        · exact two pe (fun y hy => by rw [List.mem_singleton.mp hy]; exact .tup (fun z hz => by simp at hz; subst hz; exact .int 0) (by simp; omega)) (by rw [List.length_singleton]; omega)
        · exact .tup (fun y hy => by rw [List.mem_singleton.mp hy]; exact .tup (fun z hz => ((h z hz).ps.wide (by omega)).mono (by omega)) (by omega)) (by simp)
        · exact .tup (pc _ _) (by omega)
theorem spoiltB_wp {L n : Nat} (hL : 1 ≤ L) (hL2 : L ≤ 1000) {d : D} (h : Pt L n d) {self : List D → M Tp D} (ih : ∀ m x, m < n → Pt L m x → Wp (self [.box, x]) (Ps (L + 1) (m + 2))) : Wp (bnd (spoiltB self .box d) endF) (Ps (L + 1) (n + 2)) := by
  unfold spoiltB
  have other := spoiltR_wp hL hL2 h
  cases h with
  | int i => exact Wp.bnd (Wp.off (by simp (disch := (first | assumption | (refine InP.mem ?_; assumption) | omega | solve_by_elim | (simp only [InP, decide_eq_true_eq, List.map_id', List.length_map, List.length_cons, List.length_nil, List.length_append, List.length_range, List.length_zip, List.length_tail, List.length_take, List.length_drop, rI_len, rng_len, mem_rI, List.mem_range] at *; omega) | (simp only [List.map_id']; assumption) | simp)) only [r_bnd, r_lift, r_op2, r_cmpT, r_asB, r_asI, r_valT, r_tru_bl, r_tru_int, r_tru_lst, r_tru_tup, r_tru_non, r_notT, r_andTt, r_andTf, r_andT, r_orTt, r_orTf, r_orT, r_andMt, r_andMf, r_andM, r_orMt, r_orMf, r_orM, r_notM, r_negM, r_negD, r_ifM, r_consM, r_tupM, r_lstM, r_tup0, r_tup1, r_tup2, r_tup3, r_tup4, r_tup5, r_tup6, r_lst0, r_lst1, r_lst2, r_lst3, r_lst4, r_lst5, r_bcM, r_lenT, r_lenL, List.length_map, r_tupT, r_tupL, r_lstT, r_lstL, r_int, r_ixM, r_ixT, r_ixL, r_ptM, r_slM, r_slT, r_slL, r_itT, r_itL, r_isi, r_add, r_sub, r_lt, r_le, r_gt, r_ge, r_isN, r_isntN, r_isB, r_isntB, nonNon, nonI, nonT, nonL, nonB, nonS, r_retF, r_endR, r_endN, r_iteF, r_seqN, r_seqR, r_seqB, r_seqC, r_forM, r_own, r_ownd, r_par, r_parN, r_parNN, r_eltT, r_eltF, r_elt, r_eq, r_ne, r_eqb, r_neb, compG_ret, compG_none, compG_retIf, compG_filt, eltM_ret, forL_G, forG_unit, forG_find, chainM_ret, chainT_ret, s_iteB, s_iteT, s_comp, s_all, s_any, s_sum, max2_ok, min2_ok, s_zipL, s_zipT, zipT_map, s_pat2, s_pat3, s_app, s_extL, s_extT, s_count, s_atR, s_atC0, s_atC1, s_atC2, s_in_nats, s_nin_nats, List.map_map, Function.comp_apply, Bool.false_eq_true, if_true, if_false, ↓reduceIte, Bool.not_true, Bool.not_false, Bool.and_true, Bool.true_and, Bool.or_false, Bool.false_or, Bool.and_false, Bool.false_and, Bool.or_true, Bool.true_or, decide_true, decide_false, i_tuple_int]) other)
  | str h => exact Wp.bnd (Wp.off (by simp (disch := (first | assumption | (refine InP.mem ?_; assumption) | omega | solve_by_elim | (simp only [InP, decide_eq_true_eq, List.map_id', List.length_map, List.length_cons, List.length_nil, List.length_append, List.length_range, List.length_zip, List.length_tail, List.length_take, List.length_drop, rI_len, rng_len, mem_rI, List.mem_range] at *; omega) | (simp only [List.map_id']; assumption) | simp)) only [r_bnd, r_lift, r_op2, r_cmpT, r_asB, r_asI, r_valT, r_tru_bl, r_tru_int, r_tru_lst, r_tru_tup, r_tru_non, r_notT, r_andTt, r_andTf, r_andT, r_orTt, r_orTf, r_orT, r_andMt, r_andMf, r_andM, r_orMt, r_orMf, r_orM, r_notM, r_negM, r_negD, r_ifM, r_consM, r_tupM, r_lstM, r_tup0, r_tup1, r_tup2, r_tup3, r_tup4, r_tup5, r_tup6, r_lst0, r_lst1, r_lst2, r_lst3, r_lst4, r_lst5, r_bcM, r_lenT, r_lenL, List.length_map, r_tupT, r_tupL, r_lstT, r_lstL, r_int, r_ixM, r_ixT, r_ixL, r_ptM, r_slM, r_slT, r_slL, r_itT, r_itL, r_isi, r_add, r_sub, r_lt, r_le, r_gt, r_ge, r_isN, r_isntN, r_isB, r_isntB, nonNon, nonI, nonT, nonL, nonB, nonS, r_retF, r_endR, r_endN, r_iteF, r_seqN, r_seqR, r_seqB, r_seqC, r_forM, r_own, r_ownd, r_par, r_parN, r_parNN, r_eltT, r_eltF, r_elt, r_eq, r_ne, r_eqb, r_neb, compG_ret, compG_none, compG_retIf, compG_filt, eltM_ret, forL_G, forG_unit, forG_find, chainM_ret, chainT_ret, s_iteB, s_iteT, s_comp, s_all, s_any, s_sum, max2_ok, min2_ok, s_zipL, s_zipT, zipT_map, s_pat2, s_pat3, s_app, s_extL, s_extT, s_count, s_atR, s_atC0, s_atC1, s_atC2, s_in_nats, s_nin_nats, List.map_map, Function.comp_apply, Bool.false_eq_true, if_true, if_false, ↓reduceIte, Bool.not_true, Bool.not_false, Bool.and_true, Bool.true_and, Bool.or_false, Bool.false_or, Bool.and_false, Bool.false_and, Bool.or_true, Bool.true_or, decide_true, decide_false, i_tuple_str]) other)
  | non => exact Wp.bnd (Wp.off (by simp (disch := (first | assumption | (refine InP.mem ?_; assumption) | omega | solve_by_elim | (simp only [InP, decide_eq_true_eq, List.map_id', List.length_map, List.length_cons, List.length_nil, List.length_append, List.length_range, List.length_zip, List.length_tail, List.length_take, List.length_drop, rI_len, rng_len, mem_rI, List.mem_range] at *; omega) | (simp only [List.map_id']; assumption) | simp)) only [r_bnd, r_lift, r_op2, r_cmpT, r_asB, r_asI, r_valT, r_tru_bl, r_tru_int, r_tru_lst, r_tru_tup, r_tru_non, r_notT, r_andTt, r_andTf, r_andT, r_orTt, r_orTf, r_orT, r_andMt, r_andMf, r_andM, r_orMt, r_orMf, r_orM, r_notM, r_negM, r_negD, r_ifM, r_consM, r_tupM, r_lstM, r_tup0, r_tup1, r_tup2, r_tup3, r_tup4, r_tup5, r_tup6, r_lst0, r_lst1, r_lst2, r_lst3, r_lst4, r_lst5, r_bcM, r_lenT, r_lenL, List.length_map, r_tupT, r_tupL, r_lstT, r_lstL, r_int, r_ixM, r_ixT, r_ixL, r_ptM, r_slM, r_slT, r_slL, r_itT, r_itL, r_isi, r_add, r_sub, r_lt, r_le, r_gt, r_ge, r_isN, r_isntN, r_isB, r_isntB, nonNon, nonI, nonT, nonL, nonB, nonS, r_retF, r_endR, r_endN, r_iteF, r_seqN, r_seqR, r_seqB, r_seqC, r_forM, r_own, r_ownd, r_par, r_parN, r_parNN, r_eltT, r_eltF, r_elt, r_eq, r_ne, r_eqb, r_neb, compG_ret, compG_none, compG_retIf, compG_filt, eltM_ret, forL_G, forG_unit, forG_find, chainM_ret, chainT_ret, s_iteB, s_iteT, s_comp, s_all, s_any, s_sum, max2_ok, min2_ok, s_zipL, s_zipT, zipT_map, s_pat2, s_pat3, s_app, s_extL, s_extT, s_count, s_atR, s_atC0, s_atC1, s_atC2, s_in_nats, s_nin_nats, List.map_map, Function.comp_apply, Bool.false_eq_true, if_true, if_false, ↓reduceIte, Bool.not_true, Bool.not_false, Bool.and_true, Bool.true_and, Bool.or_false, Bool.false_or, Bool.and_false, Bool.false_and, Bool.or_true, Bool.true_or, decide_true, decide_false, i_tuple_NoneType]) other)
  | tup h hl =>
    rename_i n xs
    have pe : ∀ x ∈ xs, Ps (L + 1) (n + 2) x := fun x hx => ((h x hx).ps.wide (by omega)).mono (by omega)
    have pc : ∀ i j, ∀ x ∈ cutL xs i j, Ps (L + 1) (n + 2) x := fun i j x hx => pe x (cut_mem hx)
    refine Wp.bnd (Wp.ite (Wp.andT (Wp.eq (n := ret true) (by simp (disch := (first | assumption | (refine InP.mem ?_; assumption) | omega | solve_by_elim | (simp only [InP, decide_eq_true_eq, List.map_id', List.length_map, List.length_cons, List.length_nil, List.length_append, List.length_range, List.length_zip, List.length_tail, List.length_take, List.length_drop, rI_len, rng_len, mem_rI, List.mem_range] at *; omega) | (simp only [List.map_id']; assumption) | simp)) only [r_bnd, r_lift, r_op2, r_cmpT, r_asB, r_asI, r_valT, r_tru_bl, r_tru_int, r_tru_lst, r_tru_tup, r_tru_non, r_notT, r_andTt, r_andTf, r_andT, r_orTt, r_orTf, r_orT, r_andMt, r_andMf, r_andM, r_orMt, r_orMf, r_orM, r_notM, r_negM, r_negD, r_ifM, r_consM, r_tupM, r_lstM, r_tup0, r_tup1, r_tup2, r_tup3, r_tup4, r_tup5, r_tup6, r_lst0, r_lst1, r_lst2, r_lst3, r_lst4, r_lst5, r_bcM, r_lenT, r_lenL, List.length_map, r_tupT, r_tupL, r_lstT, r_lstL, r_int, r_ixM, r_ixT, r_ixL, r_ptM, r_slM, r_slT, r_slL, r_itT, r_itL, r_isi, r_add, r_sub, r_lt, r_le, r_gt, r_ge, r_isN, r_isntN, r_isB, r_isntB, nonNon, nonI, nonT, nonL, nonB, nonS, r_retF, r_endR, r_endN, r_iteF, r_seqN, r_seqR, r_seqB, r_seqC, r_forM, r_own, r_ownd, r_par, r_parN, r_parNN, r_eltT, r_eltF, r_elt, r_eq, r_ne, r_eqb, r_neb, compG_ret, compG_none, compG_retIf, compG_filt, eltM_ret, forL_G, forG_unit, forG_find, chainM_ret, chainT_ret, s_iteB, s_iteT, s_comp, s_all, s_any, s_sum, max2_ok, min2_ok, s_zipL, s_zipT, zipT_map, s_pat2, s_pat3, s_app, s_extL, s_extT, s_count, s_atR, s_atC0, s_atC1, s_atC2, s_in_nats, s_nin_nats, List.map_map, Function.comp_apply, Bool.false_eq_true, if_true, if_false, ↓reduceIte, Bool.not_true, Bool.not_false, Bool.and_true, Bool.true_and, Bool.or_false, Bool.false_or, Bool.and_false, Bool.false_and, Bool.or_true, Bool.true_or, decide_true, decide_false, i_tuple_tuple]) (Wp.ret ?_))))
    rw [if_pos rfl]
    refine Wp.andT (Wp.eq (n := ret (decide ((0 : Int) < (xs.length : Int)))) (by simp (disch := (first | assumption | (refine InP.mem ?_; assumption) | omega | solve_by_elim | (simp only [InP, decide_eq_true_eq, List.map_id', List.length_map, List.length_cons, List.length_nil, List.length_append, List.length_range, List.length_zip, List.length_tail, List.length_take, List.length_drop, rI_len, rng_len, mem_rI, List.mem_range] at *; omega) | (simp only [List.map_id']; assumption) | simp)) only [r_bnd, r_lift, r_op2, r_cmpT, r_asB, r_asI, r_valT, r_tru_bl, r_tru_int, r_tru_lst, r_tru_tup, r_tru_non, r_notT, r_andTt, r_andTf, r_andT, r_orTt, r_orTf, r_orT, r_andMt, r_andMf, r_andM, r_orMt, r_orMf, r_orM, r_notM, r_negM, r_negD, r_ifM, r_consM, r_tupM, r_lstM, r_tup0, r_tup1, r_tup2, r_tup3, r_tup4, r_tup5, r_tup6, r_lst0, r_lst1, r_lst2, r_lst3, r_lst4, r_lst5, r_bcM, r_lenT, r_lenL, List.length_map, r_tupT, r_tupL, r_lstT, r_lstL, r_int, r_ixM, r_ixT, r_ixL, r_ptM, r_slM, r_slT, r_slL, r_itT, r_itL, r_isi, r_add, r_sub, r_lt, r_le, r_gt, r_ge, r_isN, r_isntN, r_isB, r_isntB, nonNon, nonI, nonT, nonL, nonB, nonS, r_retF, r_endR, r_endN, r_iteF, r_seqN, r_seqR, r_seqB, r_seqC, r_forM, r_own, r_ownd, r_par, r_parN, r_parNN, r_eltT, r_eltF, r_elt, r_eq, r_ne, r_eqb, r_neb, compG_ret, compG_none, compG_retIf, compG_filt, eltM_ret, forL_G, forG_unit, forG_find, chainM_ret, chainT_ret, s_iteB, s_iteT, s_comp, s_all, s_any, s_sum, max2_ok, min2_ok, s_zipL, s_zipT, zipT_map, s_pat2, s_pat3, s_app, s_extL, s_extT, s_count, s_atR, s_atC0, s_atC1, s_atC2, s_in_nats, s_nin_nats, List.map_map, Function.comp_apply, Bool.false_eq_true, if_true, if_false, ↓reduceIte, Bool.not_true, Bool.not_false, Bool.and_true, Bool.true_and, Bool.or_false, Bool.false_or, Bool.and_false, Bool.false_and, Bool.or_true, Bool.true_or, decide_true, decide_false]) (Wp.ret ?_))
    by_cases c : (0 : Int) < (xs.length : Int)
    · rw [decide_eq_true c, if_pos rfl]
      refine Wp.cmp (Wp.taken (by decide) (by decide) fun g _ => Wp.ret ⟨_, r_gt _ _, ?_⟩)
      by_cases c2 : (0 : Int) < (g : Int)
      · rw [decide_eq_true c2, if_pos rfl]
        refine Wp.bnd (Wp.mono (P := fun d => ∃ k : Nat, d = .int (k : Int) ∧ (k : Int) < xs.length) (Wp.eq (n := takeM (xs.length : Int)) (by simp (disch := (first | assumption | (refine InP.mem ?_; assumption) | omega | solve_by_elim | (simp only [InP, decide_eq_true_eq, List.map_id', List.length_map, List.length_cons, List.length_nil, List.length_append, List.length_range, List.length_zip, List.length_tail, List.length_take, List.length_drop, rI_len, rng_len, mem_rI, List.mem_range] at *; omega) | (simp only [List.map_id']; assumption) | simp)) only [r_bnd, r_lift, r_op2, r_cmpT, r_asB, r_asI, r_valT, r_tru_bl, r_tru_int, r_tru_lst, r_tru_tup, r_tru_non, r_notT, r_andTt, r_andTf, r_andT, r_orTt, r_orTf, r_orT, r_andMt, r_andMf, r_andM, r_orMt, r_orMf, r_orM, r_notM, r_negM, r_negD, r_ifM, r_consM, r_tupM, r_lstM, r_tup0, r_tup1, r_tup2, r_tup3, r_tup4, r_tup5, r_tup6, r_lst0, r_lst1, r_lst2, r_lst3, r_lst4, r_lst5, r_bcM, r_lenT, r_lenL, List.length_map, r_tupT, r_tupL, r_lstT, r_lstL, r_int, r_ixM, r_ixT, r_ixL, r_ptM, r_slM, r_slT, r_slL, r_itT, r_itL, r_isi, r_add, r_sub, r_lt, r_le, r_gt, r_ge, r_isN, r_isntN, r_isB, r_isntB, nonNon, nonI, nonT, nonL, nonB, nonS, r_retF, r_endR, r_endN, r_iteF, r_seqN, r_seqR, r_seqB, r_seqC, r_forM, r_own, r_ownd, r_par, r_parN, r_parNN, r_eltT, r_eltF, r_elt, r_eq, r_ne, r_eqb, r_neb, compG_ret, compG_none, compG_retIf, compG_filt, eltM_ret, forL_G, forG_unit, forG_find, chainM_ret, chainT_ret, s_iteB, s_iteT, s_comp, s_all, s_any, s_sum, max2_ok, min2_ok, s_zipL, s_zipT, zipT_map, s_pat2, s_pat3, s_app, s_extL, s_extT, s_count, s_atR, s_atC0, s_atC1, s_atC2, s_in_nats, s_nin_nats, List.map_map, Function.comp_apply, Bool.false_eq_true, if_true, if_false, ↓reduceIte, Bool.not_true, Bool.not_false, Bool.and_true, Bool.true_and, Bool.or_false, Bool.false_or, Bool.and_false, Bool.false_and, Bool.or_true, Bool.true_or, decide_true, decide_false, r_take]) (Wp.take (k := (xs.length : Int)) c (by omega) fun a a1 => ⟨a, rfl, a1⟩)) fun d ⟨k, e, k2⟩ => ?_)
        subst e
        have l1 := cut_len xs none (some (k : Int))
        have l2 := cut_len xs (some ((k : Int) + 1)) none
        refine Wp.ite (Wp.cmp (Wp.taken (by decide) (by decide) fun g _ => Wp.ret ⟨_, eq_int1 _ _, ?_⟩))
        by_cases c3 : (g : Int) = 0
        · rw [decide_eq_true c3, if_pos rfl]
          have e1 : addD (.tup (cutL xs none (some (k : Int)))) (.tup (cutL xs (some ((k : Int) + 1)) none)) = some (.tup (cutL xs none (some (k : Int)) ++ cutL xs (some ((k : Int) + 1)) none)) := addT_ok (by omega)
          refine Wp.retF (Wp.eq (n := ret (.tup (cutL xs none (some (k : Int)) ++ cutL xs (some ((k : Int) + 1)) none))) (by simp (disch := (first | assumption | (refine InP.mem ?_; assumption) | omega | solve_by_elim | (simp only [InP, decide_eq_true_eq, List.map_id', List.length_map, List.length_cons, List.length_nil, List.length_append, List.length_range, List.length_zip, List.length_tail, List.length_take, List.length_drop, rI_len, rng_len, mem_rI, List.mem_range] at *; omega) | (simp only [List.map_id']; assumption) | simp)) only [r_bnd, r_lift, r_op2, r_cmpT, r_asB, r_asI, r_valT, r_tru_bl, r_tru_int, r_tru_lst, r_tru_tup, r_tru_non, r_notT, r_andTt, r_andTf, r_andT, r_orTt, r_orTf, r_orT, r_andMt, r_andMf, r_andM, r_orMt, r_orMf, r_orM, r_notM, r_negM, r_negD, r_ifM, r_consM, r_tupM, r_lstM, r_tup0, r_tup1, r_tup2, r_tup3, r_tup4, r_tup5, r_tup6, r_lst0, r_lst1, r_lst2, r_lst3, r_lst4, r_lst5, r_bcM, r_lenT, r_lenL, List.length_map, r_tupT, r_tupL, r_lstT, r_lstL, r_int, r_ixM, r_ixT, r_ixL, r_ptM, r_slM, r_slT, r_slL, r_itT, r_itL, r_isi, r_add, r_sub, r_lt, r_le, r_gt, r_ge, r_isN, r_isntN, r_isB, r_isntB, nonNon, nonI, nonT, nonL, nonB, nonS, r_retF, r_endR, r_endN, r_iteF, r_seqN, r_seqR, r_seqB, r_seqC, r_forM, r_own, r_ownd, r_par, r_parN, r_parNN, r_eltT, r_eltF, r_elt, r_eq, r_ne, r_eqb, r_neb, compG_ret, compG_none, compG_retIf, compG_filt, eltM_ret, forL_G, forG_unit, forG_find, chainM_ret, chainT_ret, s_iteB, s_iteT, s_comp, s_all, s_any, s_sum, max2_ok, min2_ok, s_zipL, s_zipT, zipT_map, s_pat2, s_pat3, s_app, s_extL, s_extT, s_count, s_atR, s_atC0, s_atC1, s_atC2, s_in_nats, s_nin_nats, List.map_map, Function.comp_apply, Bool.false_eq_true, if_true, if_false, ↓reduceIte, Bool.not_true, Bool.not_false, Bool.and_true, Bool.true_and, Bool.or_false, Bool.false_or, Bool.and_false, Bool.false_and, Bool.or_true, Bool.true_or, decide_true, decide_false, e1]) (Wp.ret (Wp.ret (Wp.ret (Wp.ret ?_)))))
          exact .tup (fun y hy => (List.mem_append.mp hy).elim (pc _ _ y) (pc _ _ y)) (by rw [List.length_append]; have := cut_at xs k; omega)
        · rw [decide_eq_false c3, if_neg Bool.false_ne_true]
          refine Wp.ret ?_
          rw [r_seqN]
          have ei : ixD (.tup xs) (.int (k : Int)) = some (xs[k]'(by omega)) := by rw [r_ixT, atI_ok (by omega) k2]; rfl
          rw [r_ixM, ei, r_lift, r_consM, r_consM, r_bnd, r_ptM, r_slM, r_slT, r_lift, r_op2, r_add, r_lift, r_ptM, r_slM, r_slT, r_lift]
          refine Wp.retF (Wp.op2 (Wp.op2 (Wp.ret (Wp.bnd (Wp.cons ((ih n _ (by omega) (h _ (List.getElem_mem _))).mono fun y hy => Wp.ret ?_))))))
          rw [r_tup1, r_lift]
          refine Wp.ret ⟨_, addT_ok (by rw [List.length_singleton]; omega), Wp.ret ⟨_, addT_ok (by rw [List.length_append, List.length_singleton]; omega), Wp.ret (Wp.ret ?_)⟩⟩
          refine .tup (fun z hz => ?_) (by rw [List.length_append, List.length_append, List.length_singleton]; have := cut_at1 xs (by omega : k < xs.length); omega)
          rcases List.mem_append.mp hz with hz | hz
          · rcases List.mem_append.mp hz with hz | hz
            · exact pc _ _ z hz
            · rw [List.mem_singleton.mp hz]; exact hy
          · exact pc _ _ z hz
      · rw [decide_eq_false c2, if_neg Bool.false_ne_true]
        exact Wp.ret other
    · rw [decide_eq_false c, if_neg Bool.false_ne_true]
      exact Wp.ret (Wp.ret other)
theorem spoilt_gen {L : Nat} (hL : 1 ≤ L) (hL2 : L ≤ 1000) {m : Nat → List D → M Tp D} (hm : ∀ n a b, m (n + 1) [a, b] = bnd (spoiltB (m n) a b) endF) : ∀ (n k : Nat) (d : D), Pt L n d → Wp (m (n + 1 + k) [.box, d]) (Ps (L + 1) (n + 2)) := by
  intro n
  induction n using Nat.strongRecOn with
  | ind n ih =>
    intro k d h
    rw [show n + 1 + k = (n + k) + 1 by omega, hm]
    refine spoiltB_wp hL hL2 h fun m' x hlt hx => ?_
    have := ih m' hlt (n + k - (m' + 1)) x hx
    rwa [show m' + 1 + (n + k - (m' + 1)) = n + k by omega] at this
theorem spoilt60 {L : Nat} (hL : 1 ≤ L) (hL2 : L ≤ 1000) {m : Nat → List D → M Tp D} (hm : ∀ n a b, m (n + 1) [a, b] = bnd (spoiltB (m n) a b) endF) {n : Nat} (hn : n ≤ 59) {d : D} (h : Pt L n d) : Wp (m 60 [.box, d]) (Ps (L + 1) (n + 2)) := by
  have := spoilt_gen hL hL2 hm n (59 - n) d h
  rwa [show n + 1 + (59 - n) = 60 by omega] at this
end Sn

namespace Lw
open PySem PySem.Spec PyProof.Rows L2 Sn
theorem same60 {n : Nat} {d : D} (h : Pb n d) (hn : n ≤ 59) : m__law_same 60 [d, d] = ret (.bl true) := same_gen (m := m__law_same) (fun _ _ _ => rfl) 59 d (h.mono hn)
theorem is_number_ok {k : Nat} {d : D} (h : Pb k d) (lo hi : Int) : m_is_number [d, .int lo, .int hi] = ret (.bl (numB lo hi d)) := by
  show bnd (b_is_number d (.int lo) (.int hi)) endF = _
  unfold b_is_number
  rw [num_ok h, r_retF, r_bnd, r_endR]
theorem sel_ix {j : Nat} (hj : j ≤ 3) (t : T4) : ixD (tD t) (iN j) = some (iN (sel j t)) := by
  unfold tD
  rw [r_ixT, atI_ok (by omega) (by simp; omega)]
  match j, hj with
  | 0, _ => rfl
  | 1, _ => rfl
  | 2, _ => rfl
  | 3, _ => rfl
theorem ix_tsD {ts : List T4} {k : Nat} (h : k < ts.length) : ixD (tsD ts) (iN k) = some (tD (tl ts k)) := ix_tups h
theorem sD_0 (R C : Nat) : ixD (sD R C) (.int 0) = some (iN R) := by unfold sD; rw [r_ixT, s_atC0]
theorem sD_1 (R C : Nat) : ixD (sD R C) (.int 1) = some (iN C) := by unfold sD; rw [r_ixT, s_atC1]
theorem len_nT (ws : List Nat) : lenD [nT ws] = some (iN ws.length) := by unfold nT; rw [r_lenT, List.length_map]
theorem len_tsD (ts : List T4) : lenD [tsD ts] = some (iN ts.length) := by unfold tsD; rw [r_lenT, List.length_map]
theorem getD_lt {ws : List Nat} {n k : Nat} (h : ∀ w ∈ ws, w < n) (hk : k < ws.length) : ws.getD k 0 < n := by rw [getD_in hk]; exact h _ (List.getElem_mem _)
theorem ix_last {ws : List Nat} (h : 0 < ws.length) : ixD (nT ws) (.int (-1)) = some (iN (ws.getD (ws.length - 1) 0)) := by
  unfold nT
  rw [r_ixT, atI_map, atI_last ws (List.length_pos_iff.mp h), Option.map_some, getD_in (by omega), List.getLast_eq_getElem]
theorem eq_nat (i j : Nat) : decide ((i : Int) = (j : Int)) = decide (i = j) := by rw [decide_eq_decide]; omega
theorem fits_behind_ok {ts : List T4} {R C : Nat} (hC : 0 < C) {row : List Nat} (hr : ∀ x ∈ row, x < ts.length) {k : Nat} (hk : k < ts.length) : m_fits_behind [tsD ts, sD R C, nT row, iN k] = ret (.bl (fitB C ts row k)) := by
  show bnd (b_fits_behind (tsD ts) (sD R C) (nT row) (iN k)) endF = _
  unfold b_fits_behind fitB
  have e0 : (parM .E .E (bcM lenD (consM (ret (nT row)) (ret []))) (ixM (ret (sD R C)) (ret (.int 1))) : (D → D → M Tp (Fl Unit Unit)) → M Tp (Fl Unit Unit)) = fun k => k (iN row.length) (iN C) := by
    funext k
    rw [r_consM, r_bcM, len_nT, r_lift, r_ixM, sD_1, r_lift, r_par]
  rw [e0]
  dsimp only
  have e1 : modD (iN row.length) (iN C) = some (.int ((row.length : Int) % (C : Int))) := mod_ok (by omega)
  have second : (orM (op2M ltD (ret (iN row.length)) (ret (iN C))) (op2M eqD (ixM (ixM (ret (tsD ts)) (ixM (ret (nT row)) (op2M subD (ret (iN row.length)) (ret (iN C))))) (ret (.int 2))) (ixM (ixM (ret (tsD ts)) (ret (iN k))) (ret (.int 0)))) : M Tp D) = ret (.bl (decide (row.length < C) || decide (sel 2 (tl ts (row.getD (row.length - C) 0)) = sel 0 (tl ts k)))) := by
    have e2 : ixD (tD (tl ts k)) (.int 0) = some (iN (sel 0 (tl ts k))) := sel_ix (j := 0) (by decide) _
    by_cases h : row.length < C
    · have : (row.length : Int) < (C : Int) := by omega
      simp (disch := (first | assumption | (refine InP.mem ?_; assumption) | omega | solve_by_elim | (simp only [InP, decide_eq_true_eq, List.map_id', List.length_map, List.length_cons, List.length_nil, List.length_append, List.length_range, List.length_zip, List.length_tail, List.length_take, List.length_drop, rI_len, rng_len, mem_rI, List.mem_range] at *; omega) | (simp only [List.map_id']; assumption) | simp)) only [r_bnd, r_lift, r_op2, r_cmpT, r_asB, r_asI, r_valT, r_tru_bl, r_tru_int, r_tru_lst, r_tru_tup, r_tru_non, r_notT, r_andTt, r_andTf, r_andT, r_orTt, r_orTf, r_orT, r_andMt, r_andMf, r_andM, r_orMt, r_orMf, r_orM, r_notM, r_negM, r_negD, r_ifM, r_consM, r_tupM, r_lstM, r_tup0, r_tup1, r_tup2, r_tup3, r_tup4, r_tup5, r_tup6, r_lst0, r_lst1, r_lst2, r_lst3, r_lst4, r_lst5, r_bcM, r_lenT, r_lenL, List.length_map, r_tupT, r_tupL, r_lstT, r_lstL, r_int, r_ixM, r_ixT, r_ixL, r_ptM, r_slM, r_slT, r_slL, r_itT, r_itL, r_isi, r_add, r_sub, r_lt, r_le, r_gt, r_ge, r_isN, r_isntN, r_isB, r_isntB, nonNon, nonI, nonT, nonL, nonB, nonS, r_retF, r_endR, r_endN, r_iteF, r_seqN, r_seqR, r_seqB, r_seqC, r_forM, r_own, r_ownd, r_par, r_parN, r_parNN, r_eltT, r_eltF, r_elt, r_eq, r_ne, r_eqb, r_neb, compG_ret, compG_none, compG_retIf, compG_filt, eltM_ret, forL_G, forG_unit, forG_find, chainM_ret, chainT_ret, s_iteB, s_iteT, s_comp, s_all, s_any, s_sum, max2_ok, min2_ok, s_zipL, s_zipT, zipT_map, s_pat2, s_pat3, s_app, s_extL, s_extT, s_count, s_atR, s_atC0, s_atC1, s_atC2, s_in_nats, s_nin_nats, List.map_map, Function.comp_apply, Bool.false_eq_true, if_true, if_false, ↓reduceIte, Bool.not_true, Bool.not_false, Bool.and_true, Bool.true_and, Bool.or_false, Bool.false_or, Bool.and_false, Bool.false_and, Bool.or_true, Bool.true_or, decide_true, decide_false, this, h]
    · have h' : ¬ (row.length : Int) < (C : Int) := by omega
      have e3 : (row.length : Int) - (C : Int) = ((row.length - C : Nat) : Int) := by omega
      have h4 : row.length - C < row.length := by omega
      have e4 : ixD (nT row) (iN (row.length - C)) = some (iN (row.getD (row.length - C) 0)) := ix_nT h4
      have e5 := ix_tsD (ts := ts) (getD_lt hr h4)
      have e6 : ixD (tD (tl ts (row.getD (row.length - C) 0))) (.int 2) = some (iN (sel 2 (tl ts (row.getD (row.length - C) 0)))) := sel_ix (j := 2) (by decide) _
      simp (disch := (first | assumption | (refine InP.mem ?_; assumption) | omega | solve_by_elim | (simp only [InP, decide_eq_true_eq, List.map_id', List.length_map, List.length_cons, List.length_nil, List.length_append, List.length_range, List.length_zip, List.length_tail, List.length_take, List.length_drop, rI_len, rng_len, mem_rI, List.mem_range] at *; omega) | (simp only [List.map_id']; assumption) | simp)) only [r_bnd, r_lift, r_op2, r_cmpT, r_asB, r_asI, r_valT, r_tru_bl, r_tru_int, r_tru_lst, r_tru_tup, r_tru_non, r_notT, r_andTt, r_andTf, r_andT, r_orTt, r_orTf, r_orT, r_andMt, r_andMf, r_andM, r_orMt, r_orMf, r_orM, r_notM, r_negM, r_negD, r_ifM, r_consM, r_tupM, r_lstM, r_tup0, r_tup1, r_tup2, r_tup3, r_tup4, r_tup5, r_tup6, r_lst0, r_lst1, r_lst2, r_lst3, r_lst4, r_lst5, r_bcM, r_lenT, r_lenL, List.length_map, r_tupT, r_tupL, r_lstT, r_lstL, r_int, r_ixM, r_ixT, r_ixL, r_ptM, r_slM, r_slT, r_slL, r_itT, r_itL, r_isi, r_add, r_sub, r_lt, r_le, r_gt, r_ge, r_isN, r_isntN, r_isB, r_isntB, nonNon, nonI, nonT, nonL, nonB, nonS, r_retF, r_endR, r_endN, r_iteF, r_seqN, r_seqR, r_seqB, r_seqC, r_forM, r_own, r_ownd, r_par, r_parN, r_parNN, r_eltT, r_eltF, r_elt, r_eq, r_ne, r_eqb, r_neb, compG_ret, compG_none, compG_retIf, compG_filt, eltM_ret, forL_G, forG_unit, forG_find, chainM_ret, chainT_ret, s_iteB, s_iteT, s_comp, s_all, s_any, s_sum, max2_ok, min2_ok, s_zipL, s_zipT, zipT_map, s_pat2, s_pat3, s_app, s_extL, s_extT, s_count, s_atR, s_atC0, s_atC1, s_atC2, s_in_nats, s_nin_nats, List.map_map, Function.comp_apply, Bool.false_eq_true, if_true, if_false, ↓reduceIte, Bool.not_true, Bool.not_false, Bool.and_true, Bool.true_and, Bool.or_false, Bool.false_or, Bool.and_false, Bool.false_and, Bool.or_true, Bool.true_or, decide_true, decide_false, h', h, e3, e4, e5, e6, ix_tsD hk, e2, eq_nat]
  by_cases h1 : row.length % C = 0
  · have : (row.length : Int) % (C : Int) = 0 := by omega
    rw [r_op2, e1, r_lift, r_valT, this, r_tru_int, show ((0 : Int) != 0) = false from rfl, r_andTf, r_iteF, if_neg Bool.false_ne_true, r_bnd, r_seqN, second, r_retF, r_bnd, r_endR]
    simp [h1]
  · have h2 : (row.length : Int) % (C : Int) ≠ 0 := by omega
    have h3 : 0 < row.length := Nat.pos_of_ne_zero fun e => h1 (by rw [e]; exact Nat.zero_mod _)
    have h4 : row.length - 1 < row.length := by omega
    have e4 := ix_last h3
    have e5 := ix_tsD (ts := ts) (getD_lt hr h4)
    have e6 : ixD (tD (tl ts (row.getD (row.length - 1) 0))) (.int 1) = some (iN (sel 1 (tl ts (row.getD (row.length - 1) 0)))) := sel_ix (j := 1) (by decide) _
    have e7 : ixD (tD (tl ts k)) (.int 3) = some (iN (sel 3 (tl ts k))) := sel_ix (j := 3) (by decide) _
    have e8 : ((row.length : Int) % (C : Int) != 0) = true := by simpa using h2
    rw [r_op2, e1, r_lift, r_valT, r_tru_int, e8, r_andTt, second, r_negM, r_negD, r_lift, r_ixM, e4, r_lift, r_ixM, e5, r_lift, r_ixM, e6, r_lift, r_ixM, ix_tsD hk, r_lift, r_ixM, e7, r_lift, r_cmpT, r_ne, r_lift, r_bnd, r_asB, eq_nat, r_iteF]
    by_cases c : sel 1 (tl ts (row.getD (row.length - 1) 0)) = sel 3 (tl ts k)
    · rw [decide_eq_true c, decide_eq_false h1]; rfl
    · rw [decide_eq_false c, decide_eq_false h1]; rfl
theorem frees_ok (n : Nat) (hn : n ≤ 16777216) (row : List Nat) : (compM (rng1M (ret (iN n))) fun k_33 => (eltM (cmpT ninD (ret k_33) (ret (nT row))) (ret k_33)) : M Tp D) = ret (.lst ((frees n row).map iN)) := by
  rw [rng1_ok (by omega) (by omega), rng_nat, comp_ok (by rw [List.length_map, List.length_range]; exact hn), compL_map, compL_if (fun k => !decide (k ∈ row)) iN fun k _ => by rw [r_cmpT, nin_nT, r_lift, r_bnd, r_asB, r_elt], r_bnd]
  rfl
theorem mem_frees {n k : Nat} {row : List Nat} (h : k ∈ frees n row) : k < n := List.mem_range.mp (List.mem_filter.mp h).1
theorem len_frees (n : Nat) (row : List Nat) : (frees n row).length ≤ n := by
  have := List.length_filter_le (fun k => !decide (k ∈ row)) (List.range n)
  rwa [List.length_range] at this
theorem snoc_ok {row : List Nat} (h : row.length < 16777216) (k : Nat) : (op2M addD (ret (nT row)) (tupM (consM (ret (iN k)) (ret []))) : M Tp D) = ret (nT (row ++ [k])) := by
  have := addT_ok (xs := row.map fun k : Nat => D.int (k : Int)) (ys := [iN k]) (by rw [List.length_map, List.length_singleton]; omega)
  unfold nT
  rw [r_consM, r_tupM, r_tup1, r_lift, r_op2, this, r_lift, List.map_append]
  rfl
def RW (n t : Nat) (rows : List (List Nat)) : Prop := rows.length ≤ n ^ t ∧ ∀ r ∈ rows, (∀ x ∈ r, x < n) ∧ r.length ≤ t
theorem flat_len {α β : Type} {f : α → List β} {n : Nat} : ∀ {xs : List α}, (∀ x ∈ xs, (f x).length ≤ n) → (xs.flatMap f).length ≤ xs.length * n
  | [], _ => by simp
  | x :: xs, h => by
    have h1 := h x List.mem_cons_self
    have h2 := flat_len (f := f) (n := n) fun y hy => h y (List.mem_cons_of_mem _ hy)
    rw [List.flatMap_cons, List.length_append, List.length_cons, Nat.add_mul, Nat.one_mul]; omega
theorem RW.step {n t : Nat} {rows : List (List Nat)} (h : RW n t rows) {f : List Nat → List (List Nat)} (hf : ∀ r, ∃ ks : List Nat, f r = ks.map (fun k => r ++ [k]) ∧ ks.length ≤ n ∧ ∀ k ∈ ks, k < n) : RW n (t + 1) (rows.flatMap f) := by
  obtain ⟨h1, h2⟩ := h
  refine ⟨?_, fun r hr => ?_⟩
  · have := flat_len (f := f) (n := n) (xs := rows) fun r _ => by
      obtain ⟨ks, e, hl, _⟩ := hf r
      rw [e, List.length_map]; exact hl
    rw [Nat.pow_succ]
    exact Nat.le_trans this (Nat.mul_le_mul_right n h1)
  · obtain ⟨q, hq, hr⟩ := List.mem_flatMap.mp hr
    obtain ⟨ks, e, _, hk⟩ := hf q
    rw [e] at hr
    obtain ⟨k, hk2, rfl⟩ := List.mem_map.mp hr
    obtain ⟨q1, q2⟩ := h2 q hq
    refine ⟨fun x hx => ?_, by rw [List.length_append, List.length_singleton]; omega⟩
    rcases List.mem_append.mp hx with hx | hx
    · exact q1 x hx
    · rw [List.mem_singleton.mp hx]; exact hk k hk2
theorem oneO_s (n : Nat) (r : List Nat) : ∃ ks : List Nat, oneO n r = ks.map (fun k => r ++ [k]) ∧ ks.length ≤ n ∧ ∀ k ∈ ks, k < n := ⟨_, rfl, len_frees n r, fun _ h => mem_frees h⟩
theorem oneL_s (C n : Nat) (ts : List T4) (r : List Nat) : ∃ ks : List Nat, oneL C n ts r = ks.map (fun k => r ++ [k]) ∧ ks.length ≤ n ∧ ∀ k ∈ ks, k < n := ⟨_, rfl, Nat.le_trans (List.length_filter_le _ _) (len_frees n r), fun _ h => mem_frees (List.mem_filter.mp h).1⟩
theorem pow_le6 {n t : Nat} (hn : n ≤ 6) (ht : t ≤ 6) : n ^ t ≤ 46656 := by
  calc n ^ t ≤ 6 ^ t := Nat.pow_le_pow_left hn t
    _ ≤ 6 ^ 6 := Nat.pow_le_pow_right (by decide) ht
theorem all_layings_ok {ts : List T4} {R C : Nat} (hC : 0 < C) (hn : ts.length ≤ 6) : m_all_layings [tsD ts, sD R C] = ret (.lst ((LL C ts.length ts).map nT)) := by
  show bnd (b_all_layings (tsD ts) (sD R C)) endF = _
  unfold b_all_layings
  have e0 : (lstM (consM (tupM (ret [])) (ret [])) : M Tp D) = ret (.lst (([[]] : List (List Nat)).map nT)) := rfl
  have ei : (itM (ret (tsD ts)) : M Tp (List D)) = ret (ts.map tD) := rfl
  rw [e0, r_bnd, ei, r_forM]
  have := forL_iter (S := Tp) (τ' := Unit) (l' := Unit) (enc := nT) (fun rows => rows.flatMap (oneL C ts.length ts)) (I := RW ts.length) (xs := ts.map tD) (n := 0) (k := fun s_37 => retF (ret s_37)) (f := (fun (s_25 : D) u_26 => (ownM (lstM (ret [])) fun later_27 => (forM' (itM (ret s_25)) (fun (s_28 : D) row_29 => (bnd (compM (rng1M (bcM lenD (consM (ret (tsD ts)) (ret [])))) fun k_33 => (eltM (cmpT ninD (ret k_33) (ret row_29)) (ret k_33))) fun free_30 => (extM s_28 (compM (itM (ret free_30)) fun k_32 => (eltM (valT (bnd (consM (ret (tsD ts)) (consM (ret (sD R C)) (consM (ret row_29) (consM (ret k_32) (ret []))))) m_fits_behind)) (op2M addD (ret row_29) (tupM (consM (ret k_32) (ret [])))))) fun later_31 => (ret (.nx later_31))))) later_27 fun s_34 => (bnd (ret s_34) fun rows_36 => (ret (.nx rows_36))))))) [[]] ⟨by simp, fun r hr => by rw [List.mem_singleton.mp hr]; exact ⟨fun _ h => (by cases h), Nat.le_refl _⟩⟩ ?_
  · rw [this, List.length_map, r_retF, r_bnd, r_endR]
    rfl
  · intro m ls x _ hm hI
    rw [List.length_map] at hm
    have hI2 := hI.step (oneL_s C ts.length ts)
    refine ⟨?_, hI2⟩
    have hb := hI2.1
    have hp := pow_le6 (n := ts.length) (t := m + 1) hn (by omega)
    rw [show (lstM (ret []) : M Tp D) = ret (.lst (([] : List (List Nat)).map nT)) from rfl, show (ownM (ret (.lst (([] : List (List Nat)).map nT))) : (D → M Tp (Fl D D)) → M Tp (Fl D D)) = fun k => k (.lst (([] : List (List Nat)).map nT)) from rfl]
    dsimp only
    rw [r_itL, r_forM, forL_ext (oneL C ts.length ts) [] (by rw [List.length_nil]; omega) ?_, List.nil_append]
    · rfl
    · intro row hrow acc hacc
      obtain ⟨r1, r2⟩ := hI.2 row hrow
      rw [r_consM, r_bcM, len_tsD, r_lift, frees_ok _ (by omega), r_bnd, r_itL, comp_ok (by rw [List.length_map]; have := len_frees ts.length row; omega), compL_map, compL_if (fun k => fitB C ts row k) (fun k => nT (row ++ [k])) fun k hk => by
        rw [snoc_ok (by omega), r_consM, r_consM, r_consM, r_consM, r_bnd, fits_behind_ok hC r1 (mem_frees hk), r_valT, r_tru_bl, r_elt], r_bnd]
      have e2 : ((frees ts.length row).filter fun k => fitB C ts row k).map (fun k => nT (row ++ [k])) = (oneL C ts.length ts row).map nT := by unfold oneL; rw [List.map_map]; rfl
      rw [e2, s_extL (by rw [List.length_map, List.length_map]; exact hacc), List.map_append]
theorem count_layings_ok {ts : List T4} {R C : Nat} (hC : 0 < C) (hn : ts.length ≤ 6) : m_count_layings [tsD ts, sD R C] = ret (iN (LL C ts.length ts).length) := by
  show bnd (b_count_layings (tsD ts) (sD R C)) endF = _
  unfold b_count_layings
  rw [r_consM, r_consM, r_bnd, all_layings_ok hC hn, r_consM, r_bcM, lenL_map, r_lift, r_retF, r_bnd, r_endR]
def fstD (rows : List (List Nat)) : D := match rows with
  | r :: _ => nT r
  | [] => .non
theorem first_laying_ok {ts : List T4} {R C : Nat} (hC : 0 < C) (hn : ts.length ≤ 6) : m_first_laying [tsD ts, sD R C] = ret (fstD (LL C ts.length ts)) := by
  show bnd (b_first_laying (tsD ts) (sD R C)) endF = _
  unfold b_first_laying
  rw [r_consM, r_consM, r_bnd, all_layings_ok hC hn, r_bnd]
  cases LL C ts.length ts with
  | nil => rfl
  | cons r rs =>
    rw [r_valT, r_tru_lst, List.map_cons, r_ixM, r_ixL, s_atC0]
    rfl
theorem law_orders_ok {n : Nat} (hn : n ≤ 6) : m__law_orders [iN n] = ret (.lst ((OO n).map nT)) := by
  show bnd (b__law_orders (iN n)) endF = _
  unfold b__law_orders
  have e0 : (lstM (consM (tupM (ret [])) (ret [])) : M Tp D) = ret (.lst (([[]] : List (List Nat)).map nT)) := rfl
  rw [e0, r_bnd, rng1_ok (by omega) (by omega), rng_nat, r_forM]
  have := forL_iter (S := Tp) (τ' := Unit) (l' := Unit) (enc := nT) (fun rows => rows.flatMap (oneO n)) (I := RW n) (xs := (List.range n).map fun k : Nat => D.int k) (n := 0) (k := fun s_92 => retF (ret s_92)) (f := (fun (s_82 : D) step_83 => (ownM (lstM (ret [])) fun more_rows_84 => (forM' (itM (ret s_82)) (fun (s_85 : D) row_86 => (extM s_85 (compM (ret ((List.range n).map fun k : Nat => D.int k)) fun k_88 => (eltM (cmpT ninD (ret k_88) (ret row_86)) (op2M addD (ret row_86) (tupM (consM (ret k_88) (ret [])))))) fun more_rows_87 => (ret (.nx more_rows_87)))) more_rows_84 fun s_89 => (bnd (ret s_89) fun rows_91 => (ret (.nx rows_91))))))) [[]] ⟨by simp, fun r hr => by rw [List.mem_singleton.mp hr]; exact ⟨fun _ h => (by cases h), Nat.le_refl _⟩⟩ ?_
  · rw [this, List.length_map, List.length_range, r_retF, r_bnd, r_endR]
    rfl
  · intro m ls x _ hm hI
    rw [List.length_map, List.length_range] at hm
    have hI2 := hI.step (oneO_s n)
    refine ⟨?_, hI2⟩
    have hb := hI2.1
    have hp := pow_le6 (n := n) (t := m + 1) hn (by omega)
    rw [show (lstM (ret []) : M Tp D) = ret (.lst (([] : List (List Nat)).map nT)) from rfl, show (ownM (ret (.lst (([] : List (List Nat)).map nT))) : (D → M Tp (Fl D D)) → M Tp (Fl D D)) = fun k => k (.lst (([] : List (List Nat)).map nT)) from rfl]
    dsimp only
    rw [r_itL, r_forM, forL_ext (oneO n) [] (by rw [List.length_nil]; omega) ?_, List.nil_append]
    · rfl
    · intro row hrow acc hacc
      obtain ⟨r1, r2⟩ := hI.2 row hrow
      rw [comp_ok (by rw [List.length_map, List.length_range]; omega), compL_map, compL_if (fun k => !decide (k ∈ row)) (fun k => nT (row ++ [k])) fun k _ => by
        rw [snoc_ok (by omega), r_cmpT, nin_nT, r_lift, r_bnd, r_asB, r_elt], r_bnd]
      have e2 : ((List.range n).filter fun k => !decide (k ∈ row)).map (fun k => nT (row ++ [k])) = (oneO n row).map nT := by unfold oneO frees; rw [List.map_map]; rfl
      rw [e2, s_extL (by rw [List.length_map, List.length_map]; exact hacc), List.map_append]
theorem law_is_ok {ts : List T4} {R C : Nat} (hR : R ≤ 6) (hC : C ≤ 6) {row : List Nat} (hr : ∀ x ∈ row, x < ts.length) (hl : row.length = R * C) : m__law_is [tsD ts, sD R C, nT row] = ret (.bl (lawIs R C ts row)) := by
  show bnd (b__law_is (tsD ts) (sD R C) (nT row)) endF = _
  unfold b__law_is
  rw [show sD R C = .tup [iN R, iN C] from rfl, s_pat2, rng1_ok (by omega) (by omega), rng_nat, rng1_ok (by omega) (by omega), rng_nat, r_forM]
  rw [forL_any (r := .bl false) (fun i => (List.range C).any fun j => (decide (j + 1 < C) && !decide (sel 1 (tl ts (row.getD (i * C + j) 0)) = sel 3 (tl ts (row.getD (i * C + j + 1) 0)))) || (decide (i + 1 < R) && !decide (sel 2 (tl ts (row.getD (i * C + j) 0)) = sel 0 (tl ts (row.getD (i * C + j + C) 0))))) fun i hi => ?_]
  · unfold lawIs
    split
    · rename_i h; rw [h]; rfl
    · rename_i h; rw [Bool.not_eq_true _ |>.mp h]; rfl
  · have hi := List.mem_range.mp hi
    have hb : i * C + C ≤ R * C := by
      have := Nat.mul_le_mul_right C (show i + 1 ≤ R by omega)
      rwa [Nat.add_mul, Nat.one_mul] at this
    rw [r_forM, forL_any (r := .bl false) (fun j => (decide (j + 1 < C) && !decide (sel 1 (tl ts (row.getD (i * C + j) 0)) = sel 3 (tl ts (row.getD (i * C + j + 1) 0)))) || (decide (i + 1 < R) && !decide (sel 2 (tl ts (row.getD (i * C + j) 0)) = sel 0 (tl ts (row.getD (i * C + j + C) 0))))) fun j hj => ?_]
    have hj := List.mem_range.mp hj
    have m1 : (op2M mulWD (ret (iN i)) (ret (iN C)) : M Tp D) = ret (iN (i * C)) := by
      rw [r_op2, show mulWD (iN i) (iN C) = some (.int ((i : Int) * (C : Int))) from if_pos (mulx_ok (a := 3) (b := 3) (by omega) (by omega) (by decide)), r_lift]
      exact congrArg (fun z => ret (D.int z)) (Int.natCast_mul i C).symm
    have hx : i * C + j < row.length := by omega
    have a1 : ((i * C : Nat) : Int) + (j : Int) = ((i * C + j : Nat) : Int) := by omega
    have a2 : ((i * C + j : Nat) : Int) + 1 = ((i * C + j + 1 : Nat) : Int) := by omega
    have a3 : ((i * C + j : Nat) : Int) + (C : Int) = ((i * C + j + C : Nat) : Int) := by omega
    have e1 : ixD (nT row) (iN (i * C + j)) = some (iN (row.getD (i * C + j) 0)) := ix_nT hx
    have e2 := ix_tsD (ts := ts) (getD_lt hr hx)
    have s1 : ∀ t, ixD (tD t) (.int 1) = some (iN (sel 1 t)) := fun t => sel_ix (j := 1) (by decide) t
    have s2 : ∀ t, ixD (tD t) (.int 2) = some (iN (sel 2 t)) := fun t => sel_ix (j := 2) (by decide) t
    have s3 : ∀ t, ixD (tD t) (.int 3) = some (iN (sel 3 t)) := fun t => sel_ix (j := 3) (by decide) t
    have s0 : ∀ t, ixD (tD t) (.int 0) = some (iN (sel 0 t)) := fun t => sel_ix (j := 0) (by decide) t
    have t1 : (andT (cmpT ltD (op2M addD (ret (iN j)) (ret (.int 1))) (ret (iN C))) (cmpT neD (ixM (ret (tD (tl ts (row.getD (i * C + j) 0)))) (ret (.int 1))) (ixM (ixM (ret (tsD ts)) (ixM (ret (nT row)) (op2M addD (op2M addD (op2M mulWD (ret (iN i)) (ret (iN C))) (ret (iN j))) (ret (.int 1))))) (ret (.int 3)))) : M Tp Bool) = ret (decide (j + 1 < C) && !decide (sel 1 (tl ts (row.getD (i * C + j) 0)) = sel 3 (tl ts (row.getD (i * C + j + 1) 0)))) := by
      by_cases c : j + 1 < C
      · have c' : (j : Int) + 1 < (C : Int) := by omega
        have e3 : ixD (nT row) (iN (i * C + j + 1)) = some (iN (row.getD (i * C + j + 1) 0)) := ix_nT (by omega)
        have e4 := ix_tsD (ts := ts) (getD_lt hr (show i * C + j + 1 < row.length by omega))
        rw [m1]
        simp (disch := (first | assumption | (refine InP.mem ?_; assumption) | omega | solve_by_elim | (simp only [InP, decide_eq_true_eq, List.map_id', List.length_map, List.length_cons, List.length_nil, List.length_append, List.length_range, List.length_zip, List.length_tail, List.length_take, List.length_drop, rI_len, rng_len, mem_rI, List.mem_range] at *; omega) | (simp only [List.map_id']; assumption) | simp)) only [r_bnd, r_lift, r_op2, r_cmpT, r_asB, r_asI, r_valT, r_tru_bl, r_tru_int, r_tru_lst, r_tru_tup, r_tru_non, r_notT, r_andTt, r_andTf, r_andT, r_orTt, r_orTf, r_orT, r_andMt, r_andMf, r_andM, r_orMt, r_orMf, r_orM, r_notM, r_negM, r_negD, r_ifM, r_consM, r_tupM, r_lstM, r_tup0, r_tup1, r_tup2, r_tup3, r_tup4, r_tup5, r_tup6, r_lst0, r_lst1, r_lst2, r_lst3, r_lst4, r_lst5, r_bcM, r_lenT, r_lenL, List.length_map, r_tupT, r_tupL, r_lstT, r_lstL, r_int, r_ixM, r_ixT, r_ixL, r_ptM, r_slM, r_slT, r_slL, r_itT, r_itL, r_isi, r_add, r_sub, r_lt, r_le, r_gt, r_ge, r_isN, r_isntN, r_isB, r_isntB, nonNon, nonI, nonT, nonL, nonB, nonS, r_retF, r_endR, r_endN, r_iteF, r_seqN, r_seqR, r_seqB, r_seqC, r_forM, r_own, r_ownd, r_par, r_parN, r_parNN, r_eltT, r_eltF, r_elt, r_eq, r_ne, r_eqb, r_neb, compG_ret, compG_none, compG_retIf, compG_filt, eltM_ret, forL_G, forG_unit, forG_find, chainM_ret, chainT_ret, s_iteB, s_iteT, s_comp, s_all, s_any, s_sum, max2_ok, min2_ok, s_zipL, s_zipT, zipT_map, s_pat2, s_pat3, s_app, s_extL, s_extT, s_count, s_atR, s_atC0, s_atC1, s_atC2, s_in_nats, s_nin_nats, List.map_map, Function.comp_apply, Bool.false_eq_true, if_true, if_false, ↓reduceIte, Bool.not_true, Bool.not_false, Bool.and_true, Bool.true_and, Bool.or_false, Bool.false_or, Bool.and_false, Bool.false_and, Bool.or_true, Bool.true_or, decide_true, decide_false, c, c', a1, a2, e3, e4, s1, s3, eq_nat]
      · have c' : ¬ (j : Int) + 1 < (C : Int) := by omega
        simp (disch := (first | assumption | (refine InP.mem ?_; assumption) | omega | solve_by_elim | (simp only [InP, decide_eq_true_eq, List.map_id', List.length_map, List.length_cons, List.length_nil, List.length_append, List.length_range, List.length_zip, List.length_tail, List.length_take, List.length_drop, rI_len, rng_len, mem_rI, List.mem_range] at *; omega) | (simp only [List.map_id']; assumption) | simp)) only [r_bnd, r_lift, r_op2, r_cmpT, r_asB, r_asI, r_valT, r_tru_bl, r_tru_int, r_tru_lst, r_tru_tup, r_tru_non, r_notT, r_andTt, r_andTf, r_andT, r_orTt, r_orTf, r_orT, r_andMt, r_andMf, r_andM, r_orMt, r_orMf, r_orM, r_notM, r_negM, r_negD, r_ifM, r_consM, r_tupM, r_lstM, r_tup0, r_tup1, r_tup2, r_tup3, r_tup4, r_tup5, r_tup6, r_lst0, r_lst1, r_lst2, r_lst3, r_lst4, r_lst5, r_bcM, r_lenT, r_lenL, List.length_map, r_tupT, r_tupL, r_lstT, r_lstL, r_int, r_ixM, r_ixT, r_ixL, r_ptM, r_slM, r_slT, r_slL, r_itT, r_itL, r_isi, r_add, r_sub, r_lt, r_le, r_gt, r_ge, r_isN, r_isntN, r_isB, r_isntB, nonNon, nonI, nonT, nonL, nonB, nonS, r_retF, r_endR, r_endN, r_iteF, r_seqN, r_seqR, r_seqB, r_seqC, r_forM, r_own, r_ownd, r_par, r_parN, r_parNN, r_eltT, r_eltF, r_elt, r_eq, r_ne, r_eqb, r_neb, compG_ret, compG_none, compG_retIf, compG_filt, eltM_ret, forL_G, forG_unit, forG_find, chainM_ret, chainT_ret, s_iteB, s_iteT, s_comp, s_all, s_any, s_sum, max2_ok, min2_ok, s_zipL, s_zipT, zipT_map, s_pat2, s_pat3, s_app, s_extL, s_extT, s_count, s_atR, s_atC0, s_atC1, s_atC2, s_in_nats, s_nin_nats, List.map_map, Function.comp_apply, Bool.false_eq_true, if_true, if_false, ↓reduceIte, Bool.not_true, Bool.not_false, Bool.and_true, Bool.true_and, Bool.or_false, Bool.false_or, Bool.and_false, Bool.false_and, Bool.or_true, Bool.true_or, decide_true, decide_false, c, c']
    have t2 : (andT (cmpT ltD (op2M addD (ret (iN i)) (ret (.int 1))) (ret (iN R))) (cmpT neD (ixM (ret (tD (tl ts (row.getD (i * C + j) 0)))) (ret (.int 2))) (ixM (ixM (ret (tsD ts)) (ixM (ret (nT row)) (op2M addD (op2M addD (op2M mulWD (ret (iN i)) (ret (iN C))) (ret (iN j))) (ret (iN C))))) (ret (.int 0)))) : M Tp Bool) = ret (decide (i + 1 < R) && !decide (sel 2 (tl ts (row.getD (i * C + j) 0)) = sel 0 (tl ts (row.getD (i * C + j + C) 0)))) := by
      by_cases c : i + 1 < R
      · have c' : (i : Int) + 1 < (R : Int) := by omega
        have hb2 : i * C + j + C < R * C := by
          have := Nat.mul_le_mul_right C (show i + 2 ≤ R by omega)
          rw [Nat.add_mul] at this
          omega
        have e3 : ixD (nT row) (iN (i * C + j + C)) = some (iN (row.getD (i * C + j + C) 0)) := ix_nT (by omega)
        have e4 := ix_tsD (ts := ts) (getD_lt hr (show i * C + j + C < row.length by omega))
        rw [m1]
        simp (disch := (first | assumption | (refine InP.mem ?_; assumption) | omega | solve_by_elim | (simp only [InP, decide_eq_true_eq, List.map_id', List.length_map, List.length_cons, List.length_nil, List.length_append, List.length_range, List.length_zip, List.length_tail, List.length_take, List.length_drop, rI_len, rng_len, mem_rI, List.mem_range] at *; omega) | (simp only [List.map_id']; assumption) | simp)) only [r_bnd, r_lift, r_op2, r_cmpT, r_asB, r_asI, r_valT, r_tru_bl, r_tru_int, r_tru_lst, r_tru_tup, r_tru_non, r_notT, r_andTt, r_andTf, r_andT, r_orTt, r_orTf, r_orT, r_andMt, r_andMf, r_andM, r_orMt, r_orMf, r_orM, r_notM, r_negM, r_negD, r_ifM, r_consM, r_tupM, r_lstM, r_tup0, r_tup1, r_tup2, r_tup3, r_tup4, r_tup5, r_tup6, r_lst0, r_lst1, r_lst2, r_lst3, r_lst4, r_lst5, r_bcM, r_lenT, r_lenL, List.length_map, r_tupT, r_tupL, r_lstT, r_lstL, r_int, r_ixM, r_ixT, r_ixL, r_ptM, r_slM, r_slT, r_slL, r_itT, r_itL, r_isi, r_add, r_sub, r_lt, r_le, r_gt, r_ge, r_isN, r_isntN, r_isB, r_isntB, nonNon, nonI, nonT, nonL, nonB, nonS, r_retF, r_endR, r_endN, r_iteF, r_seqN, r_seqR, r_seqB, r_seqC, r_forM, r_own, r_ownd, r_par, r_parN, r_parNN, r_eltT, r_eltF, r_elt, r_eq, r_ne, r_eqb, r_neb, compG_ret, compG_none, compG_retIf, compG_filt, eltM_ret, forL_G, forG_unit, forG_find, chainM_ret, chainT_ret, s_iteB, s_iteT, s_comp, s_all, s_any, s_sum, max2_ok, min2_ok, s_zipL, s_zipT, zipT_map, s_pat2, s_pat3, s_app, s_extL, s_extT, s_count, s_atR, s_atC0, s_atC1, s_atC2, s_in_nats, s_nin_nats, List.map_map, Function.comp_apply, Bool.false_eq_true, if_true, if_false, ↓reduceIte, Bool.not_true, Bool.not_false, Bool.and_true, Bool.true_and, Bool.or_false, Bool.false_or, Bool.and_false, Bool.false_and, Bool.or_true, Bool.true_or, decide_true, decide_false, c, c', a1, a3, e3, e4, s2, s0, eq_nat]
      · have c' : ¬ (i : Int) + 1 < (R : Int) := by omega
        simp (disch := (first | assumption | (refine InP.mem ?_; assumption) | omega | solve_by_elim | (simp only [InP, decide_eq_true_eq, List.map_id', List.length_map, List.length_cons, List.length_nil, List.length_append, List.length_range, List.length_zip, List.length_tail, List.length_take, List.length_drop, rI_len, rng_len, mem_rI, List.mem_range] at *; omega) | (simp only [List.map_id']; assumption) | simp)) only [r_bnd, r_lift, r_op2, r_cmpT, r_asB, r_asI, r_valT, r_tru_bl, r_tru_int, r_tru_lst, r_tru_tup, r_tru_non, r_notT, r_andTt, r_andTf, r_andT, r_orTt, r_orTf, r_orT, r_andMt, r_andMf, r_andM, r_orMt, r_orMf, r_orM, r_notM, r_negM, r_negD, r_ifM, r_consM, r_tupM, r_lstM, r_tup0, r_tup1, r_tup2, r_tup3, r_tup4, r_tup5, r_tup6, r_lst0, r_lst1, r_lst2, r_lst3, r_lst4, r_lst5, r_bcM, r_lenT, r_lenL, List.length_map, r_tupT, r_tupL, r_lstT, r_lstL, r_int, r_ixM, r_ixT, r_ixL, r_ptM, r_slM, r_slT, r_slL, r_itT, r_itL, r_isi, r_add, r_sub, r_lt, r_le, r_gt, r_ge, r_isN, r_isntN, r_isB, r_isntB, nonNon, nonI, nonT, nonL, nonB, nonS, r_retF, r_endR, r_endN, r_iteF, r_seqN, r_seqR, r_seqB, r_seqC, r_forM, r_own, r_ownd, r_par, r_parN, r_parNN, r_eltT, r_eltF, r_elt, r_eq, r_ne, r_eqb, r_neb, compG_ret, compG_none, compG_retIf, compG_filt, eltM_ret, forL_G, forG_unit, forG_find, chainM_ret, chainT_ret, s_iteB, s_iteT, s_comp, s_all, s_any, s_sum, max2_ok, min2_ok, s_zipL, s_zipT, zipT_map, s_pat2, s_pat3, s_app, s_extL, s_extT, s_count, s_atR, s_atC0, s_atC1, s_atC2, s_in_nats, s_nin_nats, List.map_map, Function.comp_apply, Bool.false_eq_true, if_true, if_false, ↓reduceIte, Bool.not_true, Bool.not_false, Bool.and_true, Bool.true_and, Bool.or_false, Bool.false_or, Bool.and_false, Bool.false_and, Bool.or_true, Bool.true_or, decide_true, decide_false, c, c']
    have e0 : (ixM (ret (tsD ts)) (ixM (ret (nT row)) (op2M addD (op2M mulWD (ret (iN i)) (ret (iN C))) (ret (iN j)))) : M Tp D) = ret (tD (tl ts (row.getD (i * C + j) 0))) := by
      rw [m1]
      simp (disch := (first | assumption | (refine InP.mem ?_; assumption) | omega | solve_by_elim | (simp only [InP, decide_eq_true_eq, List.map_id', List.length_map, List.length_cons, List.length_nil, List.length_append, List.length_range, List.length_zip, List.length_tail, List.length_take, List.length_drop, rI_len, rng_len, mem_rI, List.mem_range] at *; omega) | (simp only [List.map_id']; assumption) | simp)) only [r_bnd, r_lift, r_op2, r_cmpT, r_asB, r_asI, r_valT, r_tru_bl, r_tru_int, r_tru_lst, r_tru_tup, r_tru_non, r_notT, r_andTt, r_andTf, r_andT, r_orTt, r_orTf, r_orT, r_andMt, r_andMf, r_andM, r_orMt, r_orMf, r_orM, r_notM, r_negM, r_negD, r_ifM, r_consM, r_tupM, r_lstM, r_tup0, r_tup1, r_tup2, r_tup3, r_tup4, r_tup5, r_tup6, r_lst0, r_lst1, r_lst2, r_lst3, r_lst4, r_lst5, r_bcM, r_lenT, r_lenL, List.length_map, r_tupT, r_tupL, r_lstT, r_lstL, r_int, r_ixM, r_ixT, r_ixL, r_ptM, r_slM, r_slT, r_slL, r_itT, r_itL, r_isi, r_add, r_sub, r_lt, r_le, r_gt, r_ge, r_isN, r_isntN, r_isB, r_isntB, nonNon, nonI, nonT, nonL, nonB, nonS, r_retF, r_endR, r_endN, r_iteF, r_seqN, r_seqR, r_seqB, r_seqC, r_forM, r_own, r_ownd, r_par, r_parN, r_parNN, r_eltT, r_eltF, r_elt, r_eq, r_ne, r_eqb, r_neb, compG_ret, compG_none, compG_retIf, compG_filt, eltM_ret, forL_G, forG_unit, forG_find, chainM_ret, chainT_ret, s_iteB, s_iteT, s_comp, s_all, s_any, s_sum, max2_ok, min2_ok, s_zipL, s_zipT, zipT_map, s_pat2, s_pat3, s_app, s_extL, s_extT, s_count, s_atR, s_atC0, s_atC1, s_atC2, s_in_nats, s_nin_nats, List.map_map, Function.comp_apply, Bool.false_eq_true, if_true, if_false, ↓reduceIte, Bool.not_true, Bool.not_false, Bool.and_true, Bool.true_and, Bool.or_false, Bool.false_or, Bool.and_false, Bool.false_and, Bool.or_true, Bool.true_or, decide_true, decide_false, a1, e1, e2]
    rw [e0, r_bnd, t1, r_iteF]
    cases (decide (j + 1 < C) && !decide (sel 1 (tl ts (row.getD (i * C + j) 0)) = sel 3 (tl ts (row.getD (i * C + j + 1) 0))))
    · rw [if_neg Bool.false_ne_true, r_bnd, r_seqN, t2, r_iteF, Bool.false_or]
      split <;> rfl
    · rfl
end Lw

namespace Sn
open PySem PySem.Spec PyProof.Rows L2
/-! ### more rules for laws -/
section
variable {S : Type} {α β : Type} {τ l τ' l' : Type}
theorem Wp.compP {R : D → Prop} {f : List D → D → M S (D × List D)} : ∀ {its xs : List D} {P : List D × List D → Prop}, its.length ≤ xs.length → xs.length ≤ 1000 → (∀ x ∈ xs, R x) →
    (∀ ys it, 0 < ys.length → ys.length ≤ 1000 → Wp (f ys it) fun p => ∃ (i : Nat) (h : i < ys.length), p = (ys[i], ys.eraseIdx i)) → (∀ ys zs, ys.length = its.length → (∀ y ∈ ys, R y) → P (ys, zs)) → Wp (Sn.compP f its xs) P
  | [], xs, P, _, _, _, _, q => Wp.ret (q [] xs rfl fun _ h => by cases h)
  | it :: its, xs, P, hl, hl2, hR, hf, q => by
    rw [List.length_cons] at hl
    refine Wp.bnd ((hf xs it (by omega) hl2).mono fun p ⟨i, h, e⟩ => ?_)
    subst e
    have le : (xs.eraseIdx i).length = xs.length - 1 := List.length_eraseIdx_of_lt h
    refine Wp.bnd (Wp.compP (R := R) (by show its.length ≤ (xs.eraseIdx i).length; omega) (by show (xs.eraseIdx i).length ≤ 1000; omega) (fun x hx => hR x (List.mem_of_mem_eraseIdx hx)) hf fun ys zs h1 h2 => Wp.ret ?_)
    refine q _ _ (by rw [List.length_cons, List.length_cons, h1]) fun y hy => ?_
    rcases List.mem_cons.mp hy with rfl | hy
    · exact hR _ (List.getElem_mem _)
    · exact h2 y hy
theorem Wp.popS {R : D → Prop} {mi : M S (List D)} {its xs : List D} {f : List D → D → M S (D × List D)} {k : D → D → M S (Fl τ l)} {P : Fl τ l → Prop} (hi : mi = Sn.ret its) (hl : its.length ≤ xs.length) (hl2 : xs.length ≤ 1000) (hR : ∀ x ∈ xs, R x)
    (hf : ∀ ys it, 0 < ys.length → ys.length ≤ 1000 → Wp (f ys it) fun p => ∃ (i : Nat) (h : i < ys.length), p = (ys[i], ys.eraseIdx i)) (q : ∀ ys zs, ys.length = its.length → (∀ y ∈ ys, R y) → Wp (k (.lst ys) (.lst zs)) P) : Wp (Sn.popS mi (.lst xs) f k) P := by
  subst hi
  show Wp (Sn.bnd (Sn.bnd (Sn.ret its) fun its => if its.length ≤ sizeLine then Sn.bnd (Sn.compP f its xs) fun q => Sn.ret (D.lst q.1, D.lst q.2) else stuck) fun p => k p.1 p.2) P
  rw [r_bnd, if_pos (by rw [sizeLine_eq]; omega)]
  exact Wp.bnd (Wp.bnd (Wp.compP hl hl2 hR hf fun ys zs h1 h2 => Wp.ret (q ys zs h1 h2)))
/-- lists told with their items' kind -/
theorem all_enc {e : α → D} {Q : α → Prop} : ∀ {ys : List D}, (∀ y ∈ ys, ∃ x, y = e x ∧ Q x) → ∃ xs : List α, ys = xs.map e ∧ ∀ x ∈ xs, Q x
  | [], _ => ⟨[], rfl, fun _ h => by cases h⟩
  | y :: ys, h => by
    obtain ⟨x, rfl, hx⟩ := h y List.mem_cons_self
    obtain ⟨xs, rfl, hxs⟩ := all_enc (e := e) (Q := Q) (ys := ys) fun z hz => h z (List.mem_cons_of_mem _ hz)
    exact ⟨x :: xs, rfl, fun z hz => by
      rcases List.mem_cons.mp hz with rfl | hz
      · exact hx
      · exact hxs z hz⟩
/-- a comprehension over a range, each item drawn -/
theorem Wp.compR {n : Nat} (hn : n ≤ 16777216) {e : α → D} {Q : α → Prop} {f : D → M S (Option D)} {P : D → Prop} (hf : ∀ k, k < n → Wp (f (iN k)) fun o => ∃ x, o = some (e x) ∧ Q x) (q : ∀ xs : List α, xs.length = n → (∀ x ∈ xs, Q x) → P (.lst (xs.map e))) : Wp (Sn.compM (Sn.rng1M (Sn.ret (iN n))) f) P := by
  refine Wp.eq (by rw [rng1_ok (by omega) (by omega), rng_nat, comp_ok (by rw [List.length_map, List.length_range]; exact hn), compL_map]) (Wp.bnd (Wp.comp (R := fun _ y => ∃ x, y = e x ∧ Q x) (fun k hk => (hf k (List.mem_range.mp hk)).mono fun o ⟨x, h1, h2⟩ => ⟨_, h1, x, rfl, h2⟩) fun ys hl hr => Wp.ret ?_))
  rw [List.length_range] at hl
  have : ∀ y ∈ ys, ∃ x, y = e x ∧ Q x := fun y hy => by
    obtain ⟨i, hi, e1⟩ := List.getElem_of_mem hy
    exact hr i i y (by rw [List.getElem?_range]; omega) (by rw [List.getElem?_eq_getElem hi, e1])
  obtain ⟨xs, rfl, hx⟩ := all_enc this
  exact q xs (by rwa [List.length_map] at hl) hx
end
theorem flat_if {α β : Type} (p : α → Bool) (f : α → β) : ∀ xs : List α, (xs.flatMap fun x => if p x = true then [f x] else []) = (xs.filter p).map f
  | [] => rfl
  | x :: xs => by
    rw [List.flatMap_cons, flat_if p f xs, List.filter_cons]
    cases p x <;> rfl
theorem pl_lI {n : Nat} (ns : List Int) : Pl (n + 1) (lI ns) := .lst (pl_ints ns)
theorem lI_inj {a b : List Int} : lI a = lI b ↔ a = b := by
  constructor
  · intro h
    have : tI a = tI b := by unfold tI; unfold lI at h; injection h with h; rw [h]
    exact tI_inj.mp this
  · intro h; rw [h]
theorem eq_lI (a b : List Int) : eqD (lI a) (lI b) = some (.bl (decide (a = b))) := by
  rw [eq_pl (pl_lI (n := 0) a) (pl_lI (n := 0) b) (by decide) (by decide)]
  congr 2
  rw [decide_eq_decide]; exact lI_inj
theorem ne_lI (a b : List Int) : neD (lI a) (lI b) = some (.bl (!decide (a = b))) := by
  rw [ne_pl (pl_lI (n := 0) a) (pl_lI (n := 0) b) (by decide) (by decide)]
  congr 3
  rw [decide_eq_decide]; exact lI_inj
def rNat (n : Nat) : List Int := (List.range n).map fun k : Nat => (k : Int)
theorem rng_rNat (n : Nat) : rng 0 (n : Int) = (rNat n).map D.int := by rw [rng_nat]; unfold rNat; rw [List.map_map]; rfl
theorem lrg_nat {S : Type} {n : Nat} (h : n ≤ 16777216) : (rg1M lrgD (ret (iN n)) : M S D) = ret (lI (rNat n)) := by
  show lift (lrgD (.int 0) (.int (n : Int))) = _
  unfold lrgD rgD
  simp only
  rw [if_pos ⟨by decide, by decide, by omega, by omega, by omega⟩, Option.map_some]
  simp only
  rw [rng_rNat]; rfl
theorem trg_nat {S : Type} {n : Nat} (h : n ≤ 16777216) : (rg1M trgD (ret (iN n)) : M S D) = ret (nT (List.range n)) := by
  show lift (trgD (.int 0) (.int (n : Int))) = _
  unfold trgD rgD
  simp only
  rw [if_pos ⟨by decide, by decide, by omega, by omega, by omega⟩, Option.map_some]
  simp only
  rw [rng_nat]; rfl
theorem sorted3_ints {is : List Int} (h : is.length < 64) : sorted3D [.tup (is.map .int)] = some (lI (sortI is)) := by
  unfold sorted3D
  simp only
  rw [asInts_map, Option.bind_some, if_pos h]; rfl
theorem ints_of {xs : List D} (h : xs.all intB = true) : ∃ is : List Int, xs = is.map .int := by
  induction xs with
  | nil => exact ⟨[], rfl⟩
  | cons x xs ih =>
    rw [List.all_cons, Bool.and_eq_true] at h
    obtain ⟨is, rfl⟩ := ih h.2
    cases x with
    | int i => exact ⟨i :: is, rfl⟩
    | _ => cases h.1
theorem num_int {lo hi : Int} {x : D} (h : numB lo hi x = true) : intB x = true := by
  cases x <;> first | rfl | cases h
/-- a list of ints that sorted is 0 .. n-1 is an order of these -/
theorem sort_rNat {is : List Int} {n : Nat} (h : sortI is = rNat n) : ∃ ks : List Nat, is = ks.map (fun k : Nat => (k : Int)) ∧ ks.Perm (List.range n) := by
  have hp : is.Perm (rNat n) := h ▸ (sortI_perm is).symm
  refine ⟨is.map Int.toNat, ?_, ?_⟩
  · rw [List.map_map]
    refine (List.map_id is).symm.trans (List.map_congr_left fun i hi => ?_)
    obtain ⟨k, _, e⟩ := List.mem_map.mp (hp.mem_iff.mp hi)
    simp only [id, Function.comp_apply]
    omega
  · have := hp.map Int.toNat
    unfold rNat at this
    rw [List.map_map] at this
    have e : (List.range n).map (Int.toNat ∘ fun k : Nat => (k : Int)) = List.range n := (List.map_congr_left fun k _ => Int.toNat_natCast k).trans (List.map_id _)
    rwa [e] at this
section
variable {S : Type} {τ l τ' l' : Type}
theorem Wp.forW {mi : M S (List D)} {f : τ → D → M S (Fl τ τ)} {s0 : τ} {k : τ → M S (Fl τ' l')} {P : Fl τ' l' → Prop} (h : Wp mi fun xs => Wp (forL f k xs s0) P) : Wp (forM' mi f s0 k) P := Wp.bnd h
theorem Wp.it {m : M S D} {P : List D → Prop} (h : Wp m fun d => ∃ xs, (d = .lst xs ∨ d = .tup xs) ∧ P xs) : Wp (itM m) P := Wp.bnd (h.mono fun d ⟨xs, e, p⟩ => by
  rcases e with rfl | rfl
  · exact Wp.ret p
  · exact Wp.ret p)
theorem Wp.ix {ma mb : M S D} {P : D → Prop} (h : Wp ma fun x => Wp mb fun y => ∃ d, ixD x y = some d ∧ P d) : Wp (ixM ma mb) P := Wp.bnd (h.mono fun _ h => Wp.bnd (h.mono fun _ ⟨_, e, p⟩ => by rw [e]; exact Wp.ret p))
theorem Wp.popE {xs : List D} {me : M S D} {P : D × List D → Prop} (h : Wp me fun d => ∃ (i : Nat) (hi : i < xs.length), d = iN i ∧ P (xs[i], xs.eraseIdx i)) : Wp (popE xs me) P := Wp.bnd (h.mono fun d ⟨i, hi, e, p⟩ => by
  subst e
  refine fun s => ⟨_, s, ?_, p⟩
  show ((if h : 0 ≤ (i : Int) ∧ (i : Int) < xs.length then some (xs[(i : Int).toNat]'(by omega), xs.eraseIdx (i : Int).toNat) else none).map fun p => (p, s)) = _
  rw [dif_pos ⟨by omega, by omega⟩]
  rfl)
end
theorem ne_nil {α : Type} {e : α → D} {n : Nat} (hn : n < 64) (h : ∀ x, Pl n (e x)) (xs : List α) : neD (.lst (xs.map e)) (.lst []) = some (.bl (!xs.isEmpty)) := by
  rw [ne_pl (n := n + 1) (m := n + 1) (.lst fun x hx => by obtain ⟨y, _, rfl⟩ := List.mem_map.mp hx; exact h y) (.lst fun x hx => by cases hx) (by omega) (by omega)]
  cases xs with
  | nil => simp
  | cons x xs => simp
theorem flat_len_eq {α β : Type} {f : α → List β} {n : Nat} : ∀ {xs : List α}, (∀ x ∈ xs, (f x).length = n) → (xs.flatMap f).length = xs.length * n
  | [], _ => by simp
  | x :: xs, h => by
    have h1 := h x List.mem_cons_self
    have h2 := flat_len_eq (f := f) (n := n) (xs := xs) fun y hy => h y (List.mem_cons_of_mem _ hy)
    rw [List.flatMap_cons, List.length_append, List.length_cons, Nat.add_mul, Nat.one_mul]; omega
theorem mulT_ok {xs : List D} {k : Nat} (h1 : 1 ≤ k) (h2 : k ≤ 1000) (h3 : xs.length ≤ 1000) : mulWD (.tup xs) (.int (k : Int)) = some (.tup (List.replicate k xs).flatten) := by
  show mulD (.tup xs) (.int (k : Int)) = _
  unfold mulD
  have h : -(2 ^ 63) ≤ (k : Int) ∧ (k : Int) < 2 ^ 63 ∧ (xs = [] ∨ (k : Int) = 1 ∨ (2 ≤ (k : Int) ∧ (k : Int) ≤ 1000 ∧ xs.length ≤ 1000)) := ⟨by omega, by omega, .inr (by
    rcases Nat.lt_or_ge 1 k with q | q
    · exact .inr ⟨by omega, by omega, h3⟩
    · exact .inl (by omega))⟩
  simp only
  rw [if_pos h, Int.toNat_natCast]
theorem rep_one (d : D) (m : Nat) : (List.replicate m [d]).flatten = List.replicate m d := by
  induction m with
  | zero => rfl
  | succ m ih => rw [List.replicate_succ, List.flatten_cons, ih]; rfl
end Sn

namespace Lw
open PySem PySem.Spec PyProof.Rows L2 Sn
/-! ### how many are over -/
theorem cnt_ok {ts : List T4} (hl : ts.length ≤ 16777216) {j s : Nat} (hj : j ≤ 3) : (bcM lenD (consM (compM (itM (ret (tsD ts))) fun tile_56 => (eltM (cmpT eqD (ixM (ret tile_56) (ret (iN j))) (ret (iN s))) (ret tile_56))) (ret [])) : M Tp D) = ret (iN (cnt ts j s)) := by
  rw [show (itM (ret (tsD ts)) : M Tp (List D)) = ret (ts.map tD) from rfl, comp_ok (by rw [List.length_map]; exact hl), compL_map, compL_if (fun t => decide (sel j t = s)) tD fun t _ => by rw [r_ixM, sel_ix hj, r_lift, r_cmpT, r_eq, r_lift, r_bnd, r_asB, eq_nat, r_elt], r_bnd, r_consM, r_bcM, lenL_map, r_lift]
  rfl
def outD (w : D) (s : Nat) : D := .tup [w, iN s]
theorem sur_in {ts : List T4} (hl : ts.length ≤ 16777216) {a b m : Nat} (ha : a ≤ 3) (hb : b ≤ 3) (w : D) {τ' l' : Type} (K : Unit → M Tp (Fl τ' l')) : (forM' (rng1M (op2M addD (ret (.int 9)) (ret (.int 1)))) (fun (s_51 : Unit) sign_52 => (bnd (bcM lenD (consM (compM (itM (ret (tsD ts))) fun tile_56 => (eltM (cmpT eqD (ixM (ret tile_56) (ret (iN a))) (ret sign_52)) (ret tile_56))) (ret []))) fun many_53 => (iteF (cmpT gtD (bcM absD (consM (op2M subD (ret many_53) (bcM lenD (consM (compM (itM (ret (tsD ts))) fun tile_54 => (eltM (cmpT eqD (ixM (ret tile_54) (ret (iN b))) (ret sign_52)) (ret tile_54))) (ret [])))) (ret []))) (ret (iN m))) (retF (tupM (consM (ret w) (consM (ret sign_52) (ret []))))) (ret (.nx ())) fun (s_55 : Unit) => (ret (.nx ()))))) () K) = match (List.range 10).find? (over ts a b m) with | some s => ret (.rt (outD w s)) | none => K () := by
  rw [show (rng1M (op2M addD (ret (.int 9)) (ret (.int 1))) : M Tp (List D)) = rng1M (ret (iN 10)) from rfl, rng1_ok (by decide) (by decide), rng_nat, r_forM]
  refine (forL_findG (fun k : Nat => D.int (k : Int)) (over ts a b m) (outD w) (xs := List.range 10) fun s _ => ?_).trans (by cases (List.range 10).find? (over ts a b m) <;> rfl)
  rw [cnt_ok hl ha, r_bnd, cnt_ok hl hb, r_op2, r_sub, r_lift, r_consM, r_bcM]
  have e : absD [.int ((cnt ts a s : Int) - (cnt ts b s : Int))] = some (.int (if (cnt ts a s : Int) - (cnt ts b s : Int) < 0 then -((cnt ts a s : Int) - (cnt ts b s : Int)) else (cnt ts a s : Int) - (cnt ts b s : Int))) := rfl
  have e2 : decide ((m : Int) < if (cnt ts a s : Int) - (cnt ts b s : Int) < 0 then -((cnt ts a s : Int) - (cnt ts b s : Int)) else (cnt ts a s : Int) - (cnt ts b s : Int)) = over ts a b m s := by
    unfold over
    rw [Bool.eq_iff_iff, Bool.or_eq_true, decide_eq_true_eq, decide_eq_true_eq, decide_eq_true_eq]
    split <;> omega
  rw [e, r_lift, r_cmpT, r_gt, r_lift, r_bnd, r_asB, e2, r_iteF]
  split
  · rw [r_consM, r_consM, r_tupM, r_tup2, r_lift, r_retF, r_bnd, r_seqR]; rfl
  · rfl
def cand (R C : Nat) (ts : List T4) : List D := ((List.range 10).filter (over ts 1 3 R)).map (outD (.str "right")) ++ ((List.range 10).filter (over ts 2 0 C)).map (outD (.str "down"))
def hdD : List D → D
  | x :: _ => x
  | [] => .non
theorem find_hd {α : Type} (p : α → Bool) : ∀ xs : List α, xs.find? p = (xs.filter p).head?
  | [] => rfl
  | x :: xs => by
    rw [List.find?_cons, List.filter_cons]
    cases p x
    · exact find_hd p xs
    · rfl
theorem surplus_of_ok {ts : List T4} (hl : ts.length ≤ 16777216) (R C : Nat) : m_surplus_of [tsD ts, sD R C] = ret (hdD (cand R C ts)) := by
  show bnd (b_surplus_of (tsD ts) (sD R C)) endF = _
  unfold b_surplus_of
  have e0 : (itM (tupM (consM (tupM (consM (ret (.str "right")) (consM (ret (.int 1)) (consM (ret (.int 3)) (consM (ixM (ret (sD R C)) (ret (.int 0))) (ret [])))))) (consM (tupM (consM (ret (.str "down")) (consM (ret (.int 2)) (consM (ret (.int 0)) (consM (ixM (ret (sD R C)) (ret (.int 1))) (ret [])))))) (ret [])))) : M Tp (List D)) = ret [.tup [.str "right", iN 1, iN 3, iN R], .tup [.str "down", iN 2, iN 0, iN C]] := by
    rw [r_ixM, sD_0, r_lift, r_ixM, sD_1, r_lift]
    simp only [r_consM, r_tupM, r_tup4, r_tup2, r_lift, r_itT]
    rfl
  rw [e0, r_forM]
  have p4 : ∀ (f : D → D → D → D → M Tp (Fl Unit Unit)) a b c d, pat4 f (.tup [a, b, c, d]) = f a b c d := fun _ _ _ _ _ => rfl
  have f1 := find_hd (over ts 1 3 R) (List.range 10)
  have f2 := find_hd (over ts 2 0 C) (List.range 10)
  rw [forL_cons, p4, sur_in hl (by decide) (by decide), f1]
  unfold cand
  cases h1 : (List.range 10).filter (over ts 1 3 R) with
  | cons s rest => rfl
  | nil =>
    rw [List.head?_nil]
    dsimp only
    rw [r_bnd]
    dsimp only
    rw [forL_cons, p4, sur_in hl (by decide) (by decide), f2]
    cases h2 : (List.range 10).filter (over ts 2 0 C) with
    | cons s rest => rfl
    | nil => rfl
theorem due_in {ts : List T4} (hl : ts.length ≤ 16777216) {a b m : Nat} (ha : a ≤ 3) (hb : b ≤ 3) (w : D) {τ' l' : Type} (K : D → M Tp (Fl τ' l')) (acc : List D) (hacc : acc.length ≤ 1000) : (forM' (rng1M (ret (.int 10))) (fun (s_161 : D) sign_162 => (bnd (op2M subD (bcM lenD (consM (compM (itM (ret (tsD ts))) fun tile_165 => (eltM (cmpT eqD (ixM (ret tile_165) (ret (iN a))) (ret sign_162)) (ret tile_165))) (ret []))) (bcM lenD (consM (compM (itM (ret (tsD ts))) fun tile_166 => (eltM (cmpT eqD (ixM (ret tile_166) (ret (iN b))) (ret sign_162)) (ret tile_166))) (ret [])))) fun more_163 => (bnd (op2M addD (ret s_161) (ifM (orT (cmpT gtD (ret more_163) (ret (iN m))) (cmpT gtD (op2M subD (ret (.int 0)) (ret more_163)) (ret (iN m)))) (lstM (consM (tupM (consM (ret w) (consM (ret sign_162) (ret [])))) (ret []))) (lstM (ret [])))) fun due_164 => (ret (.nx due_164))))) (.lst acc) K) = K (.lst (acc ++ ((List.range 10).filter (over ts a b m)).map (outD w))) := by
  rw [show (rng1M (ret (.int 10)) : M Tp (List D)) = rng1M (ret (iN 10)) from rfl, rng1_ok (by decide) (by decide), rng_nat, r_forM]
  have hle : (((List.range 10).flatMap fun s => if over ts a b m s = true then [outD w s] else [])).length ≤ 10 := by
    rw [flat_if, List.length_map]
    exact List.length_filter_le _ _
  have := forL_ext (S := Tp) (τ' := τ') (l' := l') (enc := fun d : D => d) (e := fun k : Nat => D.int (k : Int)) (fun s => if over ts a b m s = true then [outD w s] else []) (k := K) (xs := List.range 10) (f := (fun (s_161 : D) sign_162 => (bnd (op2M subD (bcM lenD (consM (compM (itM (ret (tsD ts))) fun tile_165 => (eltM (cmpT eqD (ixM (ret tile_165) (ret (iN a))) (ret sign_162)) (ret tile_165))) (ret []))) (bcM lenD (consM (compM (itM (ret (tsD ts))) fun tile_166 => (eltM (cmpT eqD (ixM (ret tile_166) (ret (iN b))) (ret sign_162)) (ret tile_166))) (ret [])))) fun more_163 => (bnd (op2M addD (ret s_161) (ifM (orT (cmpT gtD (ret more_163) (ret (iN m))) (cmpT gtD (op2M subD (ret (.int 0)) (ret more_163)) (ret (iN m)))) (lstM (consM (tupM (consM (ret w) (consM (ret sign_162) (ret [])))) (ret []))) (lstM (ret [])))) fun due_164 => (ret (.nx due_164)))))) acc (by omega) ?_
  · rw [List.map_id', List.map_id', flat_if] at this
    exact this
  · intro s _ ls hls
    rw [cnt_ok hl ha, cnt_ok hl hb, r_op2, r_sub, r_lift, r_bnd, r_cmpT, r_gt, r_lift, r_bnd, r_asB, r_op2, r_sub, r_lift, r_cmpT, r_gt, r_lift, r_bnd, r_asB, r_orT, r_ifM, List.map_id', List.map_id']
    have e : (decide ((m : Int) < (cnt ts a s : Int) - (cnt ts b s : Int)) || decide ((m : Int) < 0 - ((cnt ts a s : Int) - (cnt ts b s : Int)))) = over ts a b m s := rfl
    rw [e]
    split
    · rename_i h
      rw [if_pos h] at hls
      have hls2 : ls.length + [D.tup [w, D.int (s : Int)]].length ≤ 16777216 := hls
      rw [r_consM, r_consM, r_tupM, r_tup2, r_lift, r_consM, r_lstM, r_lst1, r_lift, r_op2, addL_ok hls2, r_lift, r_bnd]
      rfl
    · rename_i h
      rw [if_neg h] at hls
      rw [r_lstM, r_lst0, r_lift, r_op2, addL_ok hls, r_lift, r_bnd]
/-! ### judges -/
def okTile : D → Bool
  | .tup xs => decide (xs.length = 4) && xs.all (numB 0 9)
  | _ => false
def okTiles : D → Bool
  | .tup xs => (decide (1 ≤ xs.length) && decide (xs.length ≤ 9)) && xs.all okTile
  | _ => false
theorem nat_eqi (n m : Nat) : decide ((n : Int) = (m : Int)) = decide (n = m) := by rw [decide_eq_decide]; omega
theorem is_tile_ok {k : Nat} {d : D} (h : Pb k d) : m_is_tile [d] = ret (.bl (okTile d)) := by
  show bnd (b_is_tile d) endF = _
  unfold b_is_tile
  rw [r_isi, isi_tup h, r_lift]
  cases h with
  | tup hx hl =>
    rename_i k xs
    rw [all_items (p := numB 0 9) (by omega) fun x hxm => by rw [r_consM, r_consM, r_consM, r_bnd, is_number_ok (hx x hxm)], r_consM, r_bcM, r_lenT, r_lift, r_op2, r_eq, r_lift, show isTup (.tup xs) = true from rfl, r_andMt, r_andM, r_retF, r_bnd, r_endR]
    show _ = ret (D.bl (decide (xs.length = 4) && xs.all (numB 0 9)))
    rw [← nat_eqi]; rfl
  | _ => rfl
theorem are_tiles_ok {k : Nat} {d : D} (h : Pb k d) : m_are_tiles [d] = ret (.bl (okTiles d)) := by
  show bnd (b_are_tiles d) endF = _
  unfold b_are_tiles
  rw [r_isi, isi_tup h, r_lift]
  cases h with
  | tup hx hl =>
    rename_i k xs
    have e1 : decide ((1 : Int) ≤ (xs.length : Int)) = decide (1 ≤ xs.length) := by rw [decide_eq_decide]; omega
    have e2 : decide ((xs.length : Int) ≤ 9) = decide (xs.length ≤ 9) := by rw [decide_eq_decide]; omega
    rw [all_items (p := okTile) (by omega) fun x hxm => by rw [r_consM, r_bnd, is_tile_ok (hx x hxm)], show isTup (.tup xs) = true from rfl, r_andMt]
    have e3 : (chainM leD leD (ret (.int 1)) (bcM lenD (consM (ret (.tup xs)) (ret []))) (ret (.int 9)) : M Tp D) = ret (.bl (decide (1 ≤ xs.length) && decide (xs.length ≤ 9))) := by simp (disch := (first | assumption | (refine InP.mem ?_; assumption) | omega | solve_by_elim | (simp only [InP, decide_eq_true_eq, List.map_id', List.length_map, List.length_cons, List.length_nil, List.length_append, List.length_range, List.length_zip, List.length_tail, List.length_take, List.length_drop, rI_len, rng_len, mem_rI, List.mem_range] at *; omega) | (simp only [List.map_id']; assumption) | simp)) only [r_bnd, r_lift, r_op2, r_cmpT, r_asB, r_asI, r_valT, r_tru_bl, r_tru_int, r_tru_lst, r_tru_tup, r_tru_non, r_notT, r_andTt, r_andTf, r_andT, r_orTt, r_orTf, r_orT, r_andMt, r_andMf, r_andM, r_orMt, r_orMf, r_orM, r_notM, r_negM, r_negD, r_ifM, r_consM, r_tupM, r_lstM, r_tup0, r_tup1, r_tup2, r_tup3, r_tup4, r_tup5, r_tup6, r_lst0, r_lst1, r_lst2, r_lst3, r_lst4, r_lst5, r_bcM, r_lenT, r_lenL, List.length_map, r_tupT, r_tupL, r_lstT, r_lstL, r_int, r_ixM, r_ixT, r_ixL, r_ptM, r_slM, r_slT, r_slL, r_itT, r_itL, r_isi, r_add, r_sub, r_lt, r_le, r_gt, r_ge, r_isN, r_isntN, r_isB, r_isntB, nonNon, nonI, nonT, nonL, nonB, nonS, r_retF, r_endR, r_endN, r_iteF, r_seqN, r_seqR, r_seqB, r_seqC, r_forM, r_own, r_ownd, r_par, r_parN, r_parNN, r_eltT, r_eltF, r_elt, r_eq, r_ne, r_eqb, r_neb, compG_ret, compG_none, compG_retIf, compG_filt, eltM_ret, forL_G, forG_unit, forG_find, chainM_ret, chainT_ret, s_iteB, s_iteT, s_comp, s_all, s_any, s_sum, max2_ok, min2_ok, s_zipL, s_zipT, zipT_map, s_pat2, s_pat3, s_app, s_extL, s_extT, s_count, s_atR, s_atC0, s_atC1, s_atC2, s_in_nats, s_nin_nats, List.map_map, Function.comp_apply, Bool.false_eq_true, if_true, if_false, ↓reduceIte, Bool.not_true, Bool.not_false, Bool.and_true, Bool.true_and, Bool.or_false, Bool.false_or, Bool.and_false, Bool.false_and, Bool.or_true, Bool.true_or, decide_true, decide_false, e1, e2]
    rw [e3, r_andM, r_retF, r_bnd, r_endR]
    rfl
  | _ => rfl
theorem law_are_tiles_ok {k : Nat} {d : D} (h : Pb k d) : m__law_are_tiles [d] = ret (.bl (okTiles d)) := by
  show bnd (b__law_are_tiles d) endF = _
  unfold b__law_are_tiles
  rw [r_isi, isi_tup h, r_lift]
  cases h with
  | tup hx hl =>
    rename_i k xs
    have e1 : decide ((1 : Int) ≤ (xs.length : Int)) = decide (1 ≤ xs.length) := by rw [decide_eq_decide]; omega
    have e2 : decide ((xs.length : Int) ≤ 9) = decide (xs.length ≤ 9) := by rw [decide_eq_decide]; omega
    have e3 : (chainT leD leD (ret (.int 1)) (bcM lenD (consM (ret (.tup xs)) (ret []))) (ret (.int 9)) : M Tp Bool) = ret (decide (1 ≤ xs.length) && decide (xs.length ≤ 9)) := by simp (disch := (first | assumption | (refine InP.mem ?_; assumption) | omega | solve_by_elim | (simp only [InP, decide_eq_true_eq, List.map_id', List.length_map, List.length_cons, List.length_nil, List.length_append, List.length_range, List.length_zip, List.length_tail, List.length_take, List.length_drop, rI_len, rng_len, mem_rI, List.mem_range] at *; omega) | (simp only [List.map_id']; assumption) | simp)) only [r_bnd, r_lift, r_op2, r_cmpT, r_asB, r_asI, r_valT, r_tru_bl, r_tru_int, r_tru_lst, r_tru_tup, r_tru_non, r_notT, r_andTt, r_andTf, r_andT, r_orTt, r_orTf, r_orT, r_andMt, r_andMf, r_andM, r_orMt, r_orMf, r_orM, r_notM, r_negM, r_negD, r_ifM, r_consM, r_tupM, r_lstM, r_tup0, r_tup1, r_tup2, r_tup3, r_tup4, r_tup5, r_tup6, r_lst0, r_lst1, r_lst2, r_lst3, r_lst4, r_lst5, r_bcM, r_lenT, r_lenL, List.length_map, r_tupT, r_tupL, r_lstT, r_lstL, r_int, r_ixM, r_ixT, r_ixL, r_ptM, r_slM, r_slT, r_slL, r_itT, r_itL, r_isi, r_add, r_sub, r_lt, r_le, r_gt, r_ge, r_isN, r_isntN, r_isB, r_isntB, nonNon, nonI, nonT, nonL, nonB, nonS, r_retF, r_endR, r_endN, r_iteF, r_seqN, r_seqR, r_seqB, r_seqC, r_forM, r_own, r_ownd, r_par, r_parN, r_parNN, r_eltT, r_eltF, r_elt, r_eq, r_ne, r_eqb, r_neb, compG_ret, compG_none, compG_retIf, compG_filt, eltM_ret, forL_G, forG_unit, forG_find, chainM_ret, chainT_ret, s_iteB, s_iteT, s_comp, s_all, s_any, s_sum, max2_ok, min2_ok, s_zipL, s_zipT, zipT_map, s_pat2, s_pat3, s_app, s_extL, s_extT, s_count, s_atR, s_atC0, s_atC1, s_atC2, s_in_nats, s_nin_nats, List.map_map, Function.comp_apply, Bool.false_eq_true, if_true, if_false, ↓reduceIte, Bool.not_true, Bool.not_false, Bool.and_true, Bool.true_and, Bool.or_false, Bool.false_or, Bool.and_false, Bool.false_and, Bool.or_true, Bool.true_or, decide_true, decide_false, e1, e2]
    let sh : D → Bool := fun d => match d with | .tup ys => decide (ys.length = 4) | _ => false
    rw [all_items (p := sh) (by omega) fun x hxm => by
      rw [r_isi, isi_tup (hx x hxm), r_lift]
      cases hx x hxm with
      | tup _ _ => rw [show isTup (.tup _) = true from rfl, r_andMt, r_consM, r_bcM, r_lenT, r_lift, r_op2, r_eq, r_lift, show ((4 : Int)) = ((4 : Nat) : Int) from rfl, nat_eqi]
      | _ => rfl, e3, show isTup (.tup xs) = true from rfl, r_valT, r_tru_bl, r_notT, r_notT, r_valT, r_tru_bl, r_notT, r_orT, r_orT, r_iteF]
    have key : okTiles (.tup xs) = ((decide (1 ≤ xs.length) && decide (xs.length ≤ 9)) && xs.all okTile) := rfl
    by_cases c : (decide (1 ≤ xs.length) && decide (xs.length ≤ 9)) = true
    · by_cases c2 : xs.all sh = true
      · rw [c, c2, if_neg (by decide), r_bnd, r_seqN]
        have htup : ∀ x ∈ xs, ∃ ys : List D, x = .tup ys ∧ (∀ y ∈ ys, ∃ k, Pb k y) ∧ ys.length ≤ 16777216 ∧ ys.length = 4 := by
          intro x hxm
          have h1 := List.all_eq_true.mp c2 x hxm
          cases hx x hxm with
          | tup hy hyl => exact ⟨_, rfl, fun y hy' => ⟨_, hy y hy'⟩, by omega, of_decide_eq_true h1⟩
          | _ => cases h1
        rw [all_items (p := okTile) (by omega) fun x hxm => by
          obtain ⟨ys, rfl, hy, hyl, h4⟩ := htup x hxm
          rw [all_items (p := numB 0 9) hyl fun y hym => by obtain ⟨k, hk⟩ := hy y hym; rw [num_ok hk]]
          show ret (D.bl (ys.all (numB 0 9))) = ret (D.bl (decide (ys.length = 4) && ys.all (numB 0 9)))
          rw [decide_eq_true h4, Bool.true_and], r_retF, r_bnd, r_endR, key, c, Bool.true_and]
      · have c3 : xs.all okTile = false := by
          rw [← Bool.not_eq_true]
          intro hall
          apply c2
          rw [List.all_eq_true] at hall ⊢
          intro x hxm
          have := hall x hxm
          cases x with
          | tup ys =>
            have h2 : (decide (ys.length = 4) && ys.all (numB 0 9)) = true := this
            rw [Bool.and_eq_true] at h2
            exact h2.1
          | _ => cases this
        rw [Bool.not_eq_true] at c2
        rw [c, c2, key, c3, Bool.and_false]
        rfl
    · rw [Bool.not_eq_true] at c
      rw [c, key, c, Bool.false_and]
      rfl
  | _ => rfl
def plainB (n : Nat) : D → Bool
  | .tup xs => match asInts xs with
    | some is => decide (sortI is = rNat n)
    | none => false
  | _ => false
theorem plainB_tup (n : Nat) (xs : List D) : plainB n (.tup xs) = match asInts xs with | some is => decide (sortI is = rNat n) | none => false := rfl
theorem asInts_none {xs : List D} (h : xs.all intB = false) : asInts xs = none := by
  cases e : asInts xs with
  | none => rfl
  | some is =>
    exfalso
    have : ∀ {xs : List D} {is : List Int}, asInts xs = some is → xs.all intB = true := by
      intro xs
      induction xs with
      | nil => intro _ _; rfl
      | cons x xs ih =>
        intro is h
        cases x with
        | int i =>
          unfold asInts at h
          cases e2 : asInts xs with
          | none => rw [e2] at h; cases h
          | some js => rw [List.all_cons, ih e2]; rfl
        | _ => cases h
    rw [this e] at h; cases h
theorem plain_ok {n k : Nat} (hn : n ≤ 16777216) {d : D} (h : Ps 63 k d) : (andM (isiM "tuple" (ret d)) (andM (bcM allD (consM (compM (itM (ret d)) fun k_152 => (eltM (ret true) (andM (isiM "int" (ret k_152)) (notM (isiM "bool" (ret k_152)))))) (ret []))) (op2M eqD (bcM sorted3D (consM (ret d) (ret []))) (rg1M lrgD (ret (iN n))))) : M Tp D) = ret (.bl (plainB n d)) := by
  rw [r_isi, isi_tup (h.pb (by decide)), r_lift]
  cases h with
  | tup hx hl =>
    rename_i k xs
    rw [all_items (p := intB) (by omega) fun x hxm => intb_ok ((hx x hxm).pb (by decide)), show isTup (.tup xs) = true from rfl, r_andMt]
    by_cases c : xs.all intB = true
    · obtain ⟨is, rfl⟩ := ints_of c
      rw [List.length_map] at hl
      rw [c, r_andMt, r_consM, r_bcM, sorted3_ints (by omega), r_lift, lrg_nat hn, r_op2, eq_lI, r_lift]
      rw [plainB_tup, asInts_map]
    · rw [Bool.not_eq_true] at c
      rw [plainB_tup, c, asInts_none c]; rfl
  | _ => rfl
theorem plainB_true {n : Nat} {d : D} (h : plainB n d = true) : ∃ ks : List Nat, d = nT ks ∧ ks.Perm (List.range n) := by
  cases d with
  | tup xs =>
    rw [plainB_tup] at h
    cases c : xs.all intB with
    | false => rw [asInts_none c] at h; cases h
    | true =>
      obtain ⟨is, rfl⟩ := ints_of c
      rw [asInts_map] at h
      obtain ⟨ks, rfl, hp⟩ := sort_rNat (of_decide_eq_true h)
      exact ⟨ks, by unfold nT; rw [List.map_map]; rfl, hp⟩
  | _ => cases h
theorem is_laying_ok {ts : List T4} {R C k : Nat} (hC : 0 < C) (hn : ts.length ≤ 6) (hRC : ts.length = R * C) {d : D} (h : Ps 63 k d) : ∃ b, m_is_laying [tsD ts, sD R C, d] = ret (.bl b) ∧ (plainB ts.length d = false → b = false) ∧ ∀ ks, plainB ts.length d = true → d = nT ks → ks.Perm (List.range ts.length) → b = isLay C ts ks := by
  have key : ∀ (X : M Tp D) , X = bnd (b_is_laying (tsD ts) (sD R C) d) endF → m_is_laying [tsD ts, sD R C, d] = X := fun X e => e.symm
  rw [key _ rfl]
  unfold b_is_laying
  rw [r_isi, isi_tup (h.pb (by decide)), r_lift]
  cases h with
  | tup hx hl =>
    rename_i k xs
    have e1 : (op2M subD (bcM lenD (consM (ret (tsD ts)) (ret []))) (ret (.int 1)) : M Tp D) = ret (.int ((ts.length : Int) - 1)) := by rw [r_consM, r_bcM, len_tsD, r_lift, r_op2, r_sub, r_lift]
    rw [e1, all_items (p := numB 0 ((ts.length : Int) - 1)) (by omega) fun x hxm => by rw [r_consM, r_consM, r_consM, r_bnd, is_number_ok ((hx x hxm).pb (by decide))], show isTup (.tup xs) = true from rfl, r_valT, r_tru_bl, r_notT, r_valT, r_tru_bl, r_notT, r_orT, r_iteF]
    by_cases c : xs.all (numB 0 ((ts.length : Int) - 1)) = true
    · have ci : xs.all intB = true := by
        rw [List.all_eq_true] at c ⊢
        exact fun x hxm => num_int (c x hxm)
      obtain ⟨is, rfl⟩ := ints_of ci
      rw [List.length_map] at hl
      rw [c, if_neg (by decide), r_bnd, r_seqN, r_consM, r_bcM, sorted3_ints (by omega), r_lift, r_consM, r_bcM, len_tsD, r_lift, lrg_nat (by omega), r_cmpT, ne_lI, r_lift, r_bnd, r_asB, r_iteF]
      have ep : plainB ts.length (.tup (is.map .int)) = decide (sortI is = rNat ts.length) := by rw [plainB_tup, asInts_map]
      rw [ep]
      by_cases c2 : sortI is = rNat ts.length
      · rw [decide_eq_true c2, if_neg (by decide), r_bnd, r_seqN]
        obtain ⟨ks, rfl, hp⟩ := sort_rNat c2
        have hks : ∀ x ∈ ks, x < ts.length := fun x hx => List.mem_range.mp (hp.mem_iff.mp hx)
        have ed : D.tup ((ks.map fun k : Nat => (k : Int)).map .int) = nT ks := by unfold nT; rw [List.map_map]; rfl
        rw [ed, r_bcM, len_nT, r_lift]
        rw [List.length_map] at hl
        rw [all_rng (p := fun a => fitB C ts (ks.take a) (ks.getD a 0)) (by omega) fun a ha => ?_, r_retF, r_bnd, r_endR]
        · refine ⟨_, rfl, fun h => (by cases h), fun ks' _ e _ => ?_⟩
          rw [← nT_inj e]
          rfl
        · have e2 : (slM (ret (nT ks)) (ret none) (ptM (ret (iN a))) : M Tp D) = ret (nT (ks.take a)) := by
            unfold nT
            rw [r_ptM, r_slM, r_slT, r_lift, cutL_to (by omega), Int.toNat_natCast, List.map_take]
          rw [e2, r_ixM, ix_nT ha, r_lift, r_consM, r_consM, r_consM, r_consM, r_bnd, fits_behind_ok hC (fun x hx => hks x (List.mem_of_mem_take hx)) (getD_lt hks ha)]
      · rw [decide_eq_false c2]
        exact ⟨false, rfl, fun _ => rfl, fun ks h => (by cases h)⟩
    · rw [Bool.not_eq_true] at c
      rw [c]
      refine ⟨false, rfl, fun _ => rfl, fun ks h e hp => ?_⟩
      exfalso
      have : xs.all (numB 0 ((ts.length : Int) - 1)) = true := by
        have e' : xs = ks.map fun k : Nat => D.int (k : Int) := by unfold nT at e; injection e
        rw [e', List.all_map, List.all_eq_true]
        intro x hxm
        have := List.mem_range.mp (hp.mem_iff.mp hxm)
        show (decide ((0 : Int) ≤ (x : Int)) && decide ((x : Int) ≤ (ts.length : Int) - 1)) = true
        rw [decide_eq_true (by omega), decide_eq_true (by omega)]; rfl
      rw [this] at c; cases c
  | _ => exact ⟨false, rfl, fun _ => rfl, fun ks h e => by cases h⟩
end Lw

namespace Lw
open PySem PySem.Spec PyProof.Rows L2 Sn
/-! ### the law -/
theorem same_bl2 (b : Bool) : m__law_same 60 [.bl b, .bl b] = ret (.bl true) := same60 (n := 0) (.bl b) (by decide)
theorem judge1 {k : Nat} {y : D} (h : Pb k y) : ((iteF (notT (valT (bnd (consM (bnd (consM (ret y) (ret [])) m_are_tiles) (consM (bnd (consM (ret y) (ret [])) m__law_are_tiles) (ret []))) (m__law_same 60)))) (retF (ret (.bl false))) (ret (.nx ())) fun (s_141 : Unit) => (ret (.nx ()))) : M Tp (Fl Unit Unit)) = ret (.nx ()) := by
  rw [r_consM, r_bnd, are_tiles_ok h, r_bnd, law_are_tiles_ok h, r_consM, r_consM, r_bnd, same_bl2, r_valT, r_tru_bl, r_notT, r_iteF]
  rfl
theorem judge2 {ts : List T4} {R C k : Nat} (hR : R ≤ 6) (hC : 0 < C) (hC6 : C ≤ 6) (hn : ts.length ≤ 6) (hRC : ts.length = R * C) {y : D} (h : Ps 63 k y) : ((bnd (andM (isiM "tuple" (ret y)) (andM (bcM allD (consM (compM (itM (ret y)) fun k_152 => (eltM (ret true) (andM (isiM "int" (ret k_152)) (notM (isiM "bool" (ret k_152)))))) (ret []))) (op2M eqD (bcM sorted3D (consM (ret y) (ret []))) (rg1M lrgD (ret (iN ts.length)))))) fun plain_150 => (iteF (notT (valT (bnd (consM (bnd (consM (ret (tsD ts)) (consM (ret (sD R C)) (consM (ret y) (ret [])))) m_is_laying) (consM (andM (ret plain_150) (bnd (consM (ret (tsD ts)) (consM (ret (sD R C)) (consM (ret y) (ret [])))) m__law_is)) (ret []))) (m__law_same 60)))) (retF (ret (.bl false))) (ret (.nx ())) fun (s_151 : Unit) => (ret (.nx ())))) : M Tp (Fl Unit Unit)) = ret (.nx ()) := by
  rw [plain_ok (by omega) h, r_bnd]
  obtain ⟨b, e1, e2, e3⟩ := is_laying_ok hC hn hRC h
  have e4 : (andM (ret (.bl (plainB ts.length y))) (bnd (consM (ret (tsD ts)) (consM (ret (sD R C)) (consM (ret y) (ret [])))) m__law_is) : M Tp D) = ret (.bl b) := by
    cases hb : plainB ts.length y with
    | false => rw [e2 hb]; rfl
    | true =>
      obtain ⟨ks, rfl, hp⟩ := plainB_true hb
      have hl : ks.length = R * C := by rw [hp.length_eq, List.length_range, hRC]
      rw [r_andMt, r_consM, r_consM, r_consM, r_bnd, law_is_ok hR hC6 (fun x hx => List.mem_range.mp (hp.mem_iff.mp hx)) hl, e3 ks hb rfl hp, lay_law hC ts hl]
  rw [e4, r_consM, r_consM, r_consM, r_bnd, e1, r_consM, r_consM, r_bnd, same_bl2, r_valT, r_tru_bl, r_notT, r_iteF]
  rfl
theorem pt_nT {L : Nat} {ks : List Nat} (h : ks.length ≤ L) : Pt L 1 (nT ks) := .tup (fun x hx => by obtain ⟨k, _, rfl⟩ := List.mem_map.mp hx; exact .int _) (by rw [List.length_map]; exact h)
theorem pt_tD (t : T4) {L : Nat} (h : 4 ≤ L) : Pt L 1 (tD t) := .tup (fun x hx => by
  simp only [List.mem_cons, List.not_mem_nil, or_false] at hx
  rcases hx with rfl | rfl | rfl | rfl <;> exact .int _) (by simpa using h)
theorem pt_tsD {ts : List T4} {L : Nat} (h : ts.length ≤ L) (h4 : 4 ≤ L) : Pt L 2 (tsD ts) := .tup (fun x hx => by obtain ⟨t, _, rfl⟩ := List.mem_map.mp hx; exact pt_tD t h4) (by rw [List.length_map]; exact h)
theorem vals1_ok {ts : List T4} (h1 : 1 ≤ ts.length) (h6 : ts.length ≤ 6) : ∃ vs : List D, ((lstM (consM (ret (tsD ts)) (consM (revM (ret (tsD ts))) (consM (op2M mulWD (ret (tsD ts)) (ret (.int 10))) (consM (tupM (consM (tupM (consM (ret (.int 0)) (consM (ret (.int 0)) (consM (ret (.int 0)) (ret []))))) (ret []))) (consM (tupM (consM (tupM (consM (ret (.int 0)) (consM (ret (.int 0)) (consM (ret (.int 0)) (consM (ret (.int 10)) (ret [])))))) (ret []))) (consM (tupM (consM (tupM (consM (ret (.int 9)) (consM (ret (.int 9)) (consM (ret (.int 9)) (consM (ret (.int 0)) (ret [])))))) (ret []))) (consM (tupM (consM (tupM (consM (negM (ret (.int 1))) (consM (ret (.int 0)) (consM (ret (.int 0)) (consM (ret (.int 0)) (ret [])))))) (ret []))) (consM (tupM (consM (tupM (consM (ret (.int 0)) (consM (ret (.int 0)) (consM (ret (.int 0)) (consM (ret (.bl true)) (ret [])))))) (ret []))) (consM (tupM (ret [])) (consM (ret .non) (ret [])))))))))))) : M Tp D) = ret (.lst vs) ∧ vs.length = 10 ∧ ∀ y ∈ vs, Pb 3 y := by
  have e1 : (op2M mulWD (ret (tsD ts)) (ret (.int 10)) : M Tp D) = ret (.tup (List.replicate 10 (ts.map tD)).flatten) := by
    unfold tsD
    rw [r_op2, show ((10 : Int)) = ((10 : Nat) : Int) from rfl, mulT_ok (by decide) (by decide) (by rw [List.length_map]; omega), r_lift]
  have e2 : (revM (ret (tsD ts)) : M Tp D) = ret (.tup (ts.map tD).reverse) := rfl
  rw [e1, e2]
  refine ⟨[tsD ts, D.tup (List.map tD ts).reverse, D.tup (List.replicate 10 (List.map tD ts)).flatten,
          D.tup [D.tup [D.int 0, D.int 0, D.int 0]], D.tup [D.tup [D.int 0, D.int 0, D.int 0, D.int 10]],
          D.tup [D.tup [D.int 9, D.int 9, D.int 9, D.int 0]], D.tup [D.tup [D.int (-1), D.int 0, D.int 0, D.int 0]],
          D.tup [D.tup [D.int 0, D.int 0, D.int 0, D.bl true]], D.tup [], D.non], by simp only [r_consM, r_tupM, r_tup4, r_tup3, r_tup1, r_tup0, r_lift, r_negM, r_negD, r_lstM, r_lst10], rfl, fun y hy => ?_⟩
  have ps : Pb 2 (tsD ts) := ((pt_tsD (L := 6) h6 (by decide)).ps).pb (by decide)
  have pd : ∀ t, Pb 2 (tD t) := fun t => (((pt_tD t (L := 4) (by decide)).ps).pb (by decide)).mono (by decide)
  have i3 : ∀ {xs : List D}, (∀ x ∈ xs, Pb 1 x) → xs.length ≤ 10 → Pb 3 (.tup [.tup xs]) := fun h hl => .tup (fun z hz => by rw [List.mem_singleton.mp hz]; exact .tup h (by omega)) (by simp)
  simp only [List.mem_cons, List.not_mem_nil, or_false] at hy
  rcases hy with rfl | rfl | rfl | rfl | rfl | rfl | rfl | rfl | rfl | rfl
  · exact ps.mono (by decide)
  · exact .tup (fun z hz => by obtain ⟨t, _, rfl⟩ := List.mem_map.mp (List.mem_reverse.mp hz); exact pd t) (by rw [List.length_reverse, List.length_map]; omega)
  · refine .tup (fun z hz => ?_) ?_
    · obtain ⟨l, hl, hz⟩ := List.mem_flatten.mp hz
      rw [(List.mem_replicate.mp hl).2] at hz
      obtain ⟨t, _, rfl⟩ := List.mem_map.mp hz
      exact pd t
    · rw [List.length_flatten, List.map_replicate, List.sum_replicate_nat, List.length_map]; omega
  · exact i3 (fun x hx => by simp at hx; subst hx; exact .int _) (by simp)
  · exact i3 (fun x hx => by simp at hx; rcases hx with rfl | rfl <;> exact .int _) (by simp)
  · exact i3 (fun x hx => by simp at hx; rcases hx with rfl | rfl <;> exact .int _) (by simp)
  · exact i3 (fun x hx => by simp at hx; rcases hx with rfl | rfl <;> exact .int _) (by simp)
  · exact i3 (fun x hx => by simp at hx; rcases hx with rfl | rfl; exact .int _; exact .bl _) (by simp)
  · exact .tup (fun z hz => by cases hz) (by simp)
  · exact .non
theorem sl_to1 (ks : List Nat) : (slM (ret (nT ks)) (ret none) (ptM (ret (.int 1))) : M Tp D) = ret (nT (ks.take 1)) := by
  unfold nT
  rw [r_ptM, r_slM, r_slT, r_lift, cutL_to (by decide), List.map_take]; rfl
theorem sl_from1 (ks : List Nat) : (slM (ret (nT ks)) (ptM (ret (.int 1))) (ret none) : M Tp D) = ret (nT (ks.drop 1)) := by
  unfold nT
  rw [r_ptM, r_slM, r_slT, r_lift, cutL_from (by decide), List.map_drop]; rfl
theorem add_nT {a b : List Nat} (h : a.length + b.length ≤ 16777216) : (op2M addD (ret (nT a)) (ret (nT b)) : M Tp D) = ret (nT (a ++ b)) := by
  unfold nT
  rw [r_op2, addT_ok (by rw [List.length_map, List.length_map]; exact h), r_lift, List.map_append]
theorem vals2_ok {ks : List Nat} {n : Nat} (h1 : 1 ≤ n) (h6 : n ≤ 6) (hl : ks.length = n) : ∃ vs : List D, ((lstM (consM (ret (nT ks)) (consM (revM (ret (nT ks))) (consM (slM (ret (nT ks)) (ptM (ret (.int 1))) (ret none)) (consM (op2M addD (slM (ret (nT ks)) (ptM (ret (.int 1))) (ret none)) (slM (ret (nT ks)) (ret none) (ptM (ret (.int 1))))) (consM (op2M addD (ret (nT ks)) (slM (ret (nT ks)) (ret none) (ptM (ret (.int 1))))) (consM (rg1M trgD (ret (iN n))) (consM (op2M mulWD (tupM (consM (ret (.int 0)) (ret []))) (ret (iN n))) (consM (op2M addD (tupM (consM (ret (iN n)) (ret []))) (slM (ret (nT ks)) (ptM (ret (.int 1))) (ret none))) (consM (op2M addD (tupM (consM (ret (.bl true)) (ret []))) (slM (ret (nT ks)) (ptM (ret (.int 1))) (ret none))) (consM (tupM (ret [])) (ret [])))))))))))) : M Tp D) = ret (.lst vs) ∧ vs.length = 10 ∧ ∀ y ∈ vs, Ps 63 1 y := by
  have e1 : (revM (ret (nT ks)) : M Tp D) = ret (nT ks.reverse) := by
    show ret (D.tup (ks.map fun k : Nat => D.int (k : Int)).reverse) = _
    unfold nT
    rw [List.map_reverse]
  have l1 : (ks.take 1).length ≤ 1 := by rw [List.length_take]; omega
  have l2 : (ks.drop 1).length ≤ 6 := by rw [List.length_drop]; omega
  have e5 : (op2M mulWD (tupM (consM (ret (.int 0)) (ret []))) (ret (iN n)) : M Tp D) = ret (nT (List.replicate n 0)) := by
    rw [r_consM, r_tupM, r_tup1, r_lift]
    rw [r_op2, mulT_ok h1 (by omega) (by simp), r_lift, rep_one]
    unfold nT
    rw [List.map_replicate]
    rfl
  have e6 : (op2M addD (tupM (consM (ret (iN n)) (ret []))) (ret (nT (ks.drop 1))) : M Tp D) = ret (nT ([n] ++ ks.drop 1)) := by
    rw [r_consM, r_tupM, r_tup1, r_lift]
    exact add_nT (a := [n]) (by rw [List.length_singleton]; omega)
  have e7 : (op2M addD (tupM (consM (ret (.bl true)) (ret []))) (ret (nT (ks.drop 1))) : M Tp D) = ret (.tup ([.bl true] ++ (ks.drop 1).map fun k : Nat => D.int (k : Int))) := by
    rw [r_consM, r_tupM, r_tup1, r_lift]
    unfold nT
    rw [r_op2, addT_ok (by rw [List.length_map, List.length_singleton]; omega), r_lift]
  rw [sl_from1, sl_to1, add_nT (by omega), add_nT (by omega), e1, e5, e6, e7, trg_nat (by omega)]
  refine ⟨[nT ks, nT ks.reverse, nT (List.drop 1 ks), nT (List.drop 1 ks ++ List.take 1 ks), nT (ks ++ List.take 1 ks),
          nT (List.range n), nT (List.replicate n 0), nT ([n] ++ List.drop 1 ks),
          D.tup ([D.bl true] ++ List.map (fun k : Nat => D.int (k : Int)) (List.drop 1 ks)), D.tup []], by simp only [r_consM, r_tupM, r_tup0, r_lift, r_lstM, r_lst10], rfl, fun y hy => ?_⟩
  have p : ∀ {a : List Nat}, a.length ≤ 63 → Ps 63 1 (nT a) := fun h => (pt_nT h).ps
  simp only [List.mem_cons, List.not_mem_nil, or_false] at hy
  rcases hy with rfl | rfl | rfl | rfl | rfl | rfl | rfl | rfl | rfl | rfl
  · exact p (by omega)
  · exact p (by rw [List.length_reverse]; omega)
  · exact p (by omega)
  · exact p (by rw [List.length_append]; omega)
  · exact p (by rw [List.length_append]; omega)
  · exact p (by rw [List.length_range]; omega)
  · exact p (by rw [List.length_replicate]; omega)
  · exact p (by rw [List.length_append, List.length_singleton]; omega)
  · refine .tup (fun z hz => ?_) (by rw [List.length_append, List.length_map, List.length_singleton]; omega)
    rcases List.mem_append.mp hz with hz | hz
    · rw [List.mem_singleton.mp hz]; exact .bl _
    · obtain ⟨k, _, rfl⟩ := List.mem_map.mp hz
      exact .int _
  · exact .tup (fun z hz => by cases hz) (by simp)
theorem spoilt_ok {L n : Nat} (hL : 1 ≤ L) (hL2 : L ≤ 1000) (hn : n ≤ 59) {d : D} (h : Pt L n d) : Wp (bnd (consM (ret .box) (consM (ret d) (ret []))) (m__law_spoilt 60)) (Ps (L + 1) (n + 2)) :=
  Wp.eq (by rw [r_consM, r_consM, r_bnd]) (spoilt60 hL hL2 (m := m__law_spoilt) (fun _ _ _ => rfl) hn h)
theorem some_spoilt {L n m : Nat} (hL : 1 ≤ L) (hL2 : L ≤ 1000) (hn : n ≤ 59) (hm : m ≤ 1000) {d : D} (h : Pt L n d) : Wp (compM (rng1M (ret (iN m))) fun k_138 => (eltM (ret true) (bnd (consM (ret .box) (consM (ret d) (ret []))) (m__law_spoilt 60)))) fun d => ∃ vs : List D, d = .lst vs ∧ vs.length = m ∧ ∀ y ∈ vs, Ps (L + 1) (n + 2) y :=
  Wp.compR (e := fun d : D => d) (Q := Ps (L + 1) (n + 2)) (by omega) (fun k _ => Wp.elt ((spoilt_ok hL hL2 hn h).mono fun y hy => ⟨y, rfl, hy⟩)) fun xs hl hx => ⟨xs, by rw [List.map_id'], hl, hx⟩
def nL (ws : List Nat) : D := .lst (ws.map fun k : Nat => .int (k : Int))
theorem row_draw {m g : Nat} (hm : m ≤ 100) (hg : 0 < g) (hg2 : g < 100) : Wp (compM (rng1M (ret (iN m))) fun j_135 => (eltM (ret true) (bnd (consM (ret .box) (consM (ret (iN g)) (ret []))) m_take))) fun d => ∃ w : List Nat, d = nL w ∧ w.length = m :=
  Wp.compR (e := fun k : Nat => D.int (k : Int)) (Q := fun _ => True) (by omega) (fun k _ => Wp.elt (Wp.taken (by omega) (by omega) fun d _ => ⟨d, rfl, trivial⟩)) fun xs hl _ => ⟨xs, rfl, hl⟩
theorem rows_draw {m c g : Nat} (hm : m ≤ 100) (hc : c ≤ 100) (hg : 0 < g) (hg2 : g < 100) : Wp (compM (rng1M (ret (iN m))) fun i_134 => (eltM (ret true) (compM (rng1M (ret (iN c))) fun j_135 => (eltM (ret true) (bnd (consM (ret .box) (consM (ret (iN g)) (ret []))) m_take))))) fun d => ∃ F : List (List Nat), d = .lst (F.map nL) ∧ F.length = m ∧ ∀ w ∈ F, w.length = c :=
  Wp.compR (e := nL) (Q := fun w => w.length = c) (by omega) (fun k _ => Wp.elt ((row_draw hc hg hg2).mono fun d ⟨w, e, h⟩ => ⟨w, by rw [e], h⟩)) fun xs hl hx => ⟨xs, rfl, hl, hx⟩
theorem tile_draw {g : Nat} (hg : 0 < g) (hg2 : g < 100) : Wp (bcM tupleD (consM (compM (rng1M (ret (.int 4))) fun k_172 => (eltM (ret true) (bnd (consM (ret .box) (consM (ret (iN g)) (ret []))) m_take))) (ret []))) fun d => ∃ t, d = tD t := by
  refine Wp.bc (Wp.cons ((row_draw (m := 4) (by decide) hg hg2).mono fun d ⟨w, e, h⟩ => Wp.ret ?_))
  subst e
  match w, h with
  | [a, b, c, d], _ => exact ⟨_, rfl, (a, b, c, d), rfl⟩
def cutT (F H : List (List Nat)) (i j : Nat) : T4 := ((F.getD i []).getD j 0, (H.getD i []).getD (j + 1) 0, (F.getD (i + 1) []).getD j 0, (H.getD i []).getD j 0)
theorem ix_ll {F : List (List Nat)} {i : Nat} (h : i < F.length) : ixD (.lst (F.map nL)) (iN i) = some (nL (F.getD i [])) := ix_lsts h
theorem ix_nL {w : List Nat} {i : Nat} (h : i < w.length) : ixD (nL w) (iN i) = some (iN (w.getD i 0)) := ix_lsts h
theorem len_getD {F : List (List Nat)} {m i : Nat} (h : ∀ w ∈ F, w.length = m) (hi : i < F.length) : (F.getD i []).length = m := by rw [getD_in hi]; exact h _ (List.getElem_mem _)
theorem popped {R C g : Nat} (hR : R ≤ 6) (hC : C ≤ 6) (hg : 0 < g) (hg2 : g < 100) : Wp ((bnd (compM (rng1M (op2M addD (ret (iN R)) (ret (.int 1)))) fun i_134 => (eltM (ret true) (compM (rng1M (ret (iN C))) fun j_135 => (eltM (ret true) (bnd (consM (ret .box) (consM (ret (iN g)) (ret []))) m_take))))) fun flat_120 => (bnd (compM (rng1M (ret (iN R))) fun i_132 => (eltM (ret true) (compM (rng1M (op2M addD (ret (iN C)) (ret (.int 1)))) fun j_133 => (eltM (ret true) (bnd (consM (ret .box) (consM (ret (iN g)) (ret []))) m_take))))) fun high_121 => (ownM (lstM (ret [])) fun left_122 => (forM' (rng1M (ret (iN R))) (fun (s_123 : D) i_124 => (extM s_123 (compM (rng1M (ret (iN C))) fun j_126 => (eltM (ret true) (tupM (consM (ixM (ixM (ret flat_120) (ret i_124)) (ret j_126)) (consM (ixM (ixM (ret high_121) (ret i_124)) (op2M addD (ret j_126) (ret (.int 1)))) (consM (ixM (ixM (ret flat_120) (op2M addD (ret i_124) (ret (.int 1)))) (ret j_126)) (consM (ixM (ixM (ret high_121) (ret i_124)) (ret j_126)) (ret [])))))))) fun left_125 => (ret (.nx left_125)))) left_122 fun s_127 => (popS (rng1M (ret (iN (R * C)))) s_127 (fun xs_128 k_129 => (popE xs_128 (bnd (consM (ret .box) (consM (bcM lenD (consM (ret (.lst xs_128)) (ret []))) (ret []))) m_take))) fun tiles_130 left_131 => (ret (.nx tiles_130))))))) : M Tp (Fl D Unit)) fun f => ∃ ts : List T4, f = .nx (.lst (ts.map tD)) ∧ ts.length = R * C := by
  have hRC : R * C ≤ 36 := Nat.mul_le_mul hR hC
  have p1 : ∀ m : Nat, (rng1M (op2M addD (ret (iN m)) (ret (.int 1))) : M Tp (List D)) = rng1M (ret (iN (m + 1))) := fun m => rfl
  rw [p1, p1]
  refine Wp.bnd ((rows_draw (by omega) (by omega) hg hg2).mono fun d ⟨F, e, f1, f2⟩ => ?_)
  subst e
  refine Wp.bnd ((rows_draw (by omega) (by omega) hg hg2).mono fun d ⟨H, e, h1, h2⟩ => ?_)
  subst e
  refine Wp.ownV (d := .lst (([] : List T4).map tD)) rfl rfl ?_
  have hlen : ((List.range R).flatMap fun i => (List.range C).map (cutT F H i)).length = R * C := by
    rw [flat_len_eq (n := C) fun i _ => by rw [List.length_map, List.length_range], List.length_range]
  refine Wp.forP (s1 := .lst (((List.range R).flatMap fun i => (List.range C).map (cutT F H i)).map tD)) (fun K => ?_) ?_
  · rw [rng1_ok (by omega) (by omega), rng_nat, r_forM, forL_ext (fun i => (List.range C).map (cutT F H i)) [] (by rw [List.length_nil]; omega) fun i hi ls hls => ?_, List.nil_append]
    have hi := List.mem_range.mp hi
    rw [List.length_map, List.length_range] at hls
    rw [rng1_ok (by omega) (by omega), rng_nat, comp_ok (by rw [List.length_map, List.length_range]; omega), compL_map, compL_all (fun j => tD (cutT F H i j)) fun j hj => ?_, r_bnd]
    · have e : ((List.range C).map fun j => tD (cutT F H i j)) = ((List.range C).map (cutT F H i)).map tD := by rw [List.map_map]; rfl
      rw [e, s_extL (by rw [List.length_map, List.length_map, List.length_map, List.length_range]; exact hls), List.map_append]
    · have hj := List.mem_range.mp hj
      have a1 : (i : Int) + 1 = ((i + 1 : Nat) : Int) := by omega
      have a2 : (j : Int) + 1 = ((j + 1 : Nat) : Int) := by omega
      have b1 : (F.getD i []).length = C := len_getD f2 (by omega)
      have b2 : (F.getD (i + 1) []).length = C := len_getD f2 (by omega)
      have b3 : (H.getD i []).length = C + 1 := len_getD h2 (by omega)
      have c1 := ix_ll (F := F) (i := i) (by omega)
      have c2 := ix_ll (F := F) (i := i + 1) (by omega)
      have c3 := ix_ll (F := H) (i := i) (by omega)
      have d1 := ix_nL (w := F.getD i []) (i := j) (by omega)
      have d2 := ix_nL (w := F.getD (i + 1) []) (i := j) (by omega)
      have d3 := ix_nL (w := H.getD i []) (i := j) (by omega)
      have d4 := ix_nL (w := H.getD i []) (i := j + 1) (by omega)
      rw [r_op2, r_add, r_lift, r_op2, r_add, r_lift, a1, a2]
      rw [r_ixM, c1, r_lift, r_ixM, d1, r_lift, r_ixM, c3, r_lift, r_ixM, d4, r_lift, r_ixM, c2, r_lift, r_ixM, d2, r_lift, r_ixM, d3, r_lift, r_consM, r_consM, r_consM, r_consM, r_tupM, r_tup4, r_lift, r_eltT, r_bnd]
      rfl
  · refine Wp.popS (R := fun d => ∃ t, d = tD t) (its := (List.range (R * C)).map fun k : Nat => D.int (k : Int)) (by rw [rng1_ok (by omega) (by omega), rng_nat]) (by rw [List.length_map, List.length_range, List.length_map, hlen]; omega) (by rw [List.length_map, hlen]; omega) (fun x hx => by obtain ⟨t, _, rfl⟩ := List.mem_map.mp hx; exact ⟨t, rfl⟩) (fun ys it y0 y1 => ?_) fun ys zs hl hy => ?_
    · refine Wp.popE (Wp.eq (n := takeM (ys.length : Int)) (by rw [r_consM, r_bcM, r_lenL, r_lift, r_consM, r_consM, r_bnd, r_take]) (Wp.take (by omega) (by omega) fun d hd => ⟨d, by omega, rfl, d, by omega, rfl⟩))
    · obtain ⟨ts, rfl, _⟩ := all_enc (e := tD) (Q := fun _ => True) fun y h => by obtain ⟨t, e⟩ := hy y h; exact ⟨t, e, trivial⟩
      rw [List.length_map, List.length_map, List.length_range] at hl
      exact Wp.ret ⟨ts, rfl, hl⟩
theorem forU_ok {xs : List D} {f : Unit → D → M Tp (Fl Unit Unit)} {k : Unit → M Tp (Fl Unit Unit)} {P : Fl Unit Unit → Prop} (h : ∀ x ∈ xs, f () x = ret (.nx ())) (hk : Wp (k ()) P) : Wp (forL f k xs ()) P := by
  rw [forL_unit h]; exact hk
theorem every_eq (R C : Nat) (hC : 0 < C) (ts : List T4) (n : Nat) (hn : n = R * C) : (OO n).filter (lawIs R C ts) = LL C n ts := by
  rw [LL_eq]
  refine List.filter_congr fun row hr => ?_
  rw [lay_law hC ts ((OO_mem hr).2.2.trans hn)]
theorem pl_outD {w : D} (hw : Pl 1 w) (s : Nat) : Pl 2 (outD w s) := .tup fun x hx => by
  simp only [List.mem_cons, List.not_mem_nil, or_false] at hx
  rcases hx with rfl | rfl
  · exact hw
  · exact .int _
theorem pb_outD {w : D} (hw : Pb 1 w) (s : Nat) : Pb 2 (outD w s) := .tup (fun x hx => by
  simp only [List.mem_cons, List.not_mem_nil, or_false] at hx
  rcases hx with rfl | rfl
  · exact hw
  · exact .int _) (by simp)
end Lw

namespace Lw
open PySem PySem.Spec PyProof.Rows L2 Sn
theorem start1 : (orT (cmpT neD (bnd (consM (tupM (consM (tupM (consM (ret (.int 0)) (consM (ret (.int 1)) (consM (ret (.int 0)) (consM (ret (.int 2)) (ret [])))))) (consM (tupM (consM (ret (.int 0)) (consM (ret (.int 2)) (consM (ret (.int 0)) (consM (ret (.int 1)) (ret [])))))) (ret [])))) (consM (tupM (consM (ret (.int 1)) (consM (ret (.int 2)) (ret [])))) (ret []))) m_first_laying) (tupM (consM (ret (.int 0)) (consM (ret (.int 1)) (ret []))))) (cmpT neD (bnd (consM (tupM (consM (tupM (consM (ret (.int 0)) (consM (ret (.int 1)) (consM (ret (.int 0)) (consM (ret (.int 2)) (ret [])))))) (consM (tupM (consM (ret (.int 0)) (consM (ret (.int 2)) (consM (ret (.int 0)) (consM (ret (.int 1)) (ret [])))))) (ret [])))) (consM (tupM (consM (ret (.int 2)) (consM (ret (.int 1)) (ret [])))) (ret []))) m_count_layings) (ret (.int 2))) : M Tp Bool) = ret false := by
  have f1 : m_first_laying [.tup [.tup [.int 0, .int 1, .int 0, .int 2], .tup [.int 0, .int 2, .int 0, .int 1]], .tup [.int 1, .int 2]] = _ := first_laying_ok (ts := [(0, 1, 0, 2), (0, 2, 0, 1)]) (R := 1) (C := 2) (by decide) (by decide)
  have f2 : m_count_layings [.tup [.tup [.int 0, .int 1, .int 0, .int 2], .tup [.int 0, .int 2, .int 0, .int 1]], .tup [.int 2, .int 1]] = _ := count_layings_ok (ts := [(0, 1, 0, 2), (0, 2, 0, 1)]) (R := 2) (C := 1) (by decide) (by decide)
  simp only [r_consM, r_tupM, r_tup4, r_tup2, r_lift, r_bnd]
  rw [f1, f2]
  have e1 : LL 2 [((0, 1, 0, 2) : T4), (0, 2, 0, 1)].length [(0, 1, 0, 2), (0, 2, 0, 1)] = [[0, 1], [1, 0]] := by decide +kernel
  have e2 : (LL 1 [((0, 1, 0, 2) : T4), (0, 2, 0, 1)].length [(0, 1, 0, 2), (0, 2, 0, 1)]).length = 2 := by decide +kernel
  rw [e1, e2]
  have e3 : neD (fstD [[0, 1], [1, 0]]) (.tup [.int 0, .int 1]) = some (.bl false) := by
    show neD (nT [0, 1]) (nT [0, 1]) = _
    rw [ne_pl (pl_nT _) (pl_nT _) (by decide) (by decide)]
    simp
  rw [r_cmpT, e3, r_lift, r_cmpT, r_ne]
  rfl
theorem start2 : (cmpT neD (bnd (consM (tupM (consM (tupM (consM (ret (.int 0)) (consM (ret (.int 1)) (consM (ret (.int 0)) (consM (ret (.int 2)) (ret [])))))) (consM (tupM (consM (ret (.int 0)) (consM (ret (.int 1)) (consM (ret (.int 0)) (consM (ret (.int 2)) (ret [])))))) (ret [])))) (consM (tupM (consM (ret (.int 1)) (consM (ret (.int 2)) (ret [])))) (ret []))) m_surplus_of) (tupM (consM (ret (.str "right")) (consM (ret (.int 1)) (ret [])))) : M Tp Bool) = ret false := by
  have f1 : m_surplus_of [.tup [.tup [.int 0, .int 1, .int 0, .int 2], .tup [.int 0, .int 1, .int 0, .int 2]], .tup [.int 1, .int 2]] = _ := surplus_of_ok (ts := [(0, 1, 0, 2), (0, 1, 0, 2)]) (by decide) 1 2
  simp only [r_consM, r_tupM, r_tup4, r_tup2, r_lift, r_bnd]
  rw [f1]
  have e1 : (List.range 10).filter (over [((0, 1, 0, 2) : T4), (0, 1, 0, 2)] 1 3 1) = [1, 2] := by decide +kernel
  have e2 : hdD (cand 1 2 [((0, 1, 0, 2) : T4), (0, 1, 0, 2)]) = .tup [.str "right", .int 1] := by unfold cand; rw [e1]; rfl
  have p : Pl 2 (.tup [.str "right", .int 1]) := pl_outD (w := .str "right") (.str (by decide +kernel)) 1
  rw [e2, r_cmpT, ne_pl p p (by decide) (by decide)]
  simp
theorem sizes {P : D → Prop} (q : ∀ R C, okSz R C → P (sD R C)) : Wp (ixM (lstM (consM (tupM (consM (ret (.int 1)) (consM (ret (.int 1)) (ret [])))) (consM (tupM (consM (ret (.int 1)) (consM (ret (.int 3)) (ret [])))) (consM (tupM (consM (ret (.int 2)) (consM (ret (.int 2)) (ret [])))) (consM (tupM (consM (ret (.int 3)) (consM (ret (.int 1)) (ret [])))) (consM (tupM (consM (ret (.int 2)) (consM (ret (.int 3)) (ret [])))) (consM (tupM (consM (ret (.int 3)) (consM (ret (.int 2)) (ret [])))) (ret [])))))))) (bnd (consM (ret .box) (consM (ret (.int 6)) (ret []))) m_take)) P := by
  refine Wp.ix (Wp.eq (n := ret (.lst [sD 1 1, sD 1 3, sD 2 2, sD 3 1, sD 2 3, sD 3 2])) (by simp only [r_consM, r_tupM, r_tup2, r_lstM, r_lst6, r_lift]; rfl) (Wp.ret (Wp.taken (by decide) (by decide) fun p hp => ?_)))
  refine ⟨_, atI_ok (by omega) hp, ?_⟩
  have hp : p < 6 := by omega
  have : p = 0 ∨ p = 1 ∨ p = 2 ∨ p = 3 ∨ p = 4 ∨ p = 5 := by omega
  rcases this with rfl | rfl | rfl | rfl | rfl | rfl
  · exact q 1 1 (by unfold okSz; omega)
  · exact q 1 3 (by unfold okSz; omega)
  · exact q 2 2 (by unfold okSz; omega)
  · exact q 3 1 (by unfold okSz; omega)
  · exact q 2 3 (by unfold okSz; omega)
  · exact q 3 2 (by unfold okSz; omega)
theorem sz_ok {R C : Nat} (h : okSz R C) : 0 < R ∧ 0 < C ∧ R ≤ 3 ∧ C ≤ 3 ∧ 1 ≤ R * C ∧ R * C ≤ 6 := by
  rcases h with ⟨rfl, rfl⟩ | ⟨rfl, rfl⟩ | ⟨rfl, rfl⟩ | ⟨rfl, rfl⟩ | ⟨rfl, rfl⟩ | ⟨rfl, rfl⟩ <;> decide
theorem fst_ok (E : List (List Nat)) : (ifM (cmpT neD (ret (.lst (E.map nT))) (lstM (ret []))) (ixM (ret (.lst (E.map nT))) (ret (.int 0))) (ret .non) : M Tp D) = ret (fstD E) := by
  rw [r_lstM, r_lst0, r_lift, r_cmpT, ne_nil (by decide) pl_nT, r_lift, r_bnd, r_asB, r_ifM]
  cases E with
  | nil => rfl
  | cons r rs => rw [r_ixM, r_ixL, List.map_cons, s_atC0]; rfl
theorem hd_ok (E : List D) (h : ∀ x ∈ E, Pl 2 x) : (ifM (cmpT neD (ret (.lst E)) (lstM (ret []))) (ixM (ret (.lst E)) (ret (.int 0))) (ret .non) : M Tp D) = ret (hdD E) := by
  rw [r_lstM, r_lst0, r_lift, r_cmpT, ne_pl (.lst h) (.lst (n := 0) fun x hx => by cases hx) (by decide) (by decide), r_lift, r_bnd, r_asB, r_ifM]
  cases E with
  | nil => simp [hdD]
  | cons r rs => rw [r_ixM, r_ixL, s_atC0]; simp [hdD]
theorem cand_pl (R C : Nat) (ts : List T4) : (∀ x ∈ cand R C ts, Pl 2 x) ∧ ∀ x ∈ cand R C ts, Pb 2 x := by
  constructor
  · intro x hx
    rcases List.mem_append.mp hx with hx | hx <;> (obtain ⟨s, _, rfl⟩ := List.mem_map.mp hx; exact pl_outD (.str (by decide +kernel)) s)
  · intro x hx
    rcases List.mem_append.mp hx with hx | hx <;> (obtain ⟨s, _, rfl⟩ := List.mem_map.mp hx; exact pb_outD (.str (by decide +kernel)) s)
theorem hd_pb {xs : List D} (h : ∀ x ∈ xs, Pb 2 x) : Pb 2 (hdD xs) := by
  cases xs with
  | nil => exact .non
  | cons x xs => exact h x List.mem_cons_self
theorem pb_nT (ws : List Nat) (h : ws.length < 16777216) : Pb 1 (nT ws) := .tup (fun x hx => by obtain ⟨k, _, rfl⟩ := List.mem_map.mp hx; exact .int _) (by rw [List.length_map]; exact h)
theorem fst_pb {E : List (List Nat)} (h : ∀ r ∈ E, r.length ≤ 6) : Pb 1 (fstD E) := by
  cases E with
  | nil => exact .non
  | cons r rs => exact pb_nT r (by have := h r List.mem_cons_self; omega)
theorem law_wp : Wp (bnd b_law endF) fun d => d = .bl true := by
  unfold b_law
  refine Wp.bnd (Wp.off start1 (Wp.off start2 (Wp.forN (rng1_ok (by decide) (by decide)) (fun x _ => ?_) (Wp.retF (Wp.ret (Wp.ret rfl))))))
  refine Wp.bnd (sizes fun R C hz => ?_)
  obtain ⟨z1, z2, z3, z4, z5, z6⟩ := sz_ok hz
  rw [show sD R C = .tup [iN R, iN C] from rfl, s_pat2, show (D.tup [iN R, iN C]) = sD R C from rfl]
  have em : (op2M mulWD (ret (iN R)) (ret (iN C)) : M Tp D) = ret (iN (R * C)) := by
    rw [r_op2, show mulWD (iN R) (iN C) = some (.int ((R : Int) * (C : Int))) from if_pos (mulx_ok (a := 3) (b := 3) (by omega) (by omega) (by decide)), r_lift]
    exact congrArg (fun z => ret (D.int z)) (Int.natCast_mul R C).symm
  refine Wp.parE (Wp.eq em (Wp.ret (Wp.op2 (Wp.ret (Wp.taken (by decide) (by decide) fun g0 hg => ⟨_, r_add _ _, ?_⟩)))))
  obtain ⟨g, hg1, hg4, eg⟩ : ∃ g : Nat, 0 < g ∧ g < 100 ∧ (1 : Int) + (g0 : Int) = (g : Int) := ⟨g0 + 1, by omega, by omega, by omega⟩
  rw [eg]
  refine Wp.bnd (Wp.compR (e := tD) (Q := fun _ => True) (by omega) (fun k _ => Wp.elt ((tile_draw hg1 hg4).mono fun d ⟨t, e⟩ => ⟨t, by rw [e], trivial⟩)) fun ts0 hl0 _ => ?_)
  refine Wp.ite (Wp.mono (P := fun _ => True) (Wp.cmp (Wp.taken (by decide) (by decide) fun p _ => Wp.ret ⟨_, r_gt _ _, trivial⟩)) fun t _ => Wp.mono (P := fun f => ∃ ts : List T4, f = .nx (.lst (ts.map tD)) ∧ ts.length = R * C) ?_ fun f ⟨ts, e, hts⟩ => ?_)
  · cases t with
    | true => rw [if_pos rfl]; exact popped (by omega) (by omega) hg1 hg4
    | false => rw [if_neg Bool.false_ne_true]; exact Wp.ret ⟨ts0, rfl, hl0⟩
  · subst e
    rw [r_seqN]
    refine Wp.val (v := tsD ts) (by rw [r_consM, r_bcM, r_tupL, r_lift]; rfl) ?_
    have hn : ts.length ≤ 6 := by omega
    obtain ⟨vs1, ev1, lv1, pv1⟩ := vals1_ok (ts := ts) (by omega) hn
    refine Wp.forW (Wp.it (Wp.op2 (Wp.eq ev1 (Wp.ret ((some_spoilt (L := 6) (n := 2) (m := 4) (by decide) (by decide) (by decide) (by decide) (pt_tsD (ts := ts) hn (by decide))).mono fun d ⟨ws, e, lw, pw⟩ => ?_)))))
    subst e
    refine ⟨_, addL_ok (by omega), _, .inl rfl, forU_ok (fun y hy => ?_) ?_⟩
    · rcases List.mem_append.mp hy with hy | hy
      · exact judge1 (pv1 y hy)
      · exact judge1 ((pw y hy).pb (by decide))
    · have ev : (compM (itM (bnd (consM (ret (iN (R * C))) (ret [])) m__law_orders)) fun row_170 => (eltM (valT (bnd (consM (ret (tsD ts)) (consM (ret (sD R C)) (consM (ret row_170) (ret [])))) m__law_is)) (ret row_170)) : M Tp D) = ret (.lst ((LL C ts.length ts).map nT)) := by
        rw [← every_eq R C z2 ts ts.length hts, ← hts, r_consM, r_bnd, law_orders_ok hn, r_itL, comp_ok (by
          rw [List.length_map]
          have : ∀ (m : Nat) (a : List (List Nat)) (t : Nat), RW ts.length t a → RW ts.length (t + m) (itN (fun rows => rows.flatMap (oneO ts.length)) m a) := by
            intro m
            induction m with
            | zero => intro a t h; exact h
            | succ m ih => intro a t h; rw [show t + (m + 1) = t + 1 + m by omega]; exact ih _ _ (h.step (oneO_s ts.length))
          have h0 := (this ts.length [[]] 0 ⟨by simp, fun r hr => by rw [List.mem_singleton.mp hr]; exact ⟨fun _ h => (by cases h), Nat.le_refl _⟩⟩).1
          have h1 := pow_le6 (n := ts.length) (t := 0 + ts.length) hn (by omega)
          unfold OO
          omega), compL_map, compL_if (lawIs R C ts) nT fun row hr => by
            obtain ⟨o1, o2, o3⟩ := OO_mem hr
            rw [r_consM, r_consM, r_consM, r_bnd, law_is_ok (by omega) (by omega) o2 (by omega), r_valT, r_tru_bl, r_elt], r_bnd]
      refine Wp.val ev ?_
      have hE : ∀ r ∈ LL C ts.length ts, r.Nodup ∧ (∀ x ∈ r, x < ts.length) ∧ r.length = ts.length ∧ isLay C ts r = true := fun r hr => by
        rw [LL_eq] at hr
        obtain ⟨h1, h2⟩ := List.mem_filter.mp hr
        obtain ⟨o1, o2, o3⟩ := OO_mem h1
        exact ⟨o1, o2, o3, h2⟩
      have pE : Pb 2 (.tup [fstD (LL C ts.length ts), iN (LL C ts.length ts).length]) := .tup (fun x hx => by
        simp only [List.mem_cons, List.not_mem_nil, or_false] at hx
        rcases hx with rfl | rfl
        · exact fst_pb fun r hr => by rw [(hE r hr).2.2.1]; exact hn
        · exact .int _) (by simp)
      have s1 := same60 pE (by decide)
      refine Wp.off (by
        rw [fst_ok, r_consM, r_consM, r_bnd, first_laying_ok z2 hn, r_bnd, count_layings_ok z2 hn, r_consM, r_consM, r_tupM, r_tup2, r_lift, r_consM, r_bcM, lenL_map, r_lift, r_consM, r_consM, r_tupM, r_tup2, r_lift, r_consM, r_consM, r_bnd, s1, r_valT, r_tru_bl, r_notT]
        rfl) ?_
      refine Wp.bnd (Wp.mono (P := fun d => ∃ ks : List Nat, d = nT ks ∧ ks.length = ts.length) ?_ fun d ⟨ks, e, hk⟩ => ?_)
      · have en : (cmpT neD (ret (.lst ((LL C ts.length ts).map nT))) (lstM (ret [])) : M Tp Bool) = ret (!(LL C ts.length ts).isEmpty) := by
          rw [r_lstM, r_lst0, r_lift, r_cmpT, ne_nil (by decide) pl_nT, r_lift, r_bnd, r_asB]
        rw [en, r_ifM]
        cases hem : LL C ts.length ts with
        | nil =>
          rw [if_neg (by decide)]
          exact Wp.eq (by rw [← hts]; exact trg_nat (by omega)) (Wp.ret ⟨_, rfl, List.length_range⟩)
        | cons r rs =>
          rw [if_pos (by rfl), ← hem]
          have hpos : 0 < (LL C ts.length ts).length := by rw [hem]; simp
          have hle : (LL C ts.length ts).length < 1073741824 := by
            have : ∀ (m : Nat) (a : List (List Nat)) (t : Nat), RW ts.length t a → RW ts.length (t + m) (itN (fun rows => rows.flatMap (oneL C ts.length ts)) m a) := by
              intro m
              induction m with
              | zero => intro a t h; exact h
              | succ m ih => intro a t h; rw [show t + (m + 1) = t + 1 + m by omega]; exact ih _ _ (h.step (oneL_s C ts.length ts))
            have h0 := (this ts.length [[]] 0 ⟨by simp, fun r hr => by rw [List.mem_singleton.mp hr]; exact ⟨fun _ h => (by cases h), Nat.le_refl _⟩⟩).1
            have h1 := pow_le6 (n := ts.length) (t := 0 + ts.length) hn (by omega)
            unfold LL
            omega
          refine Wp.ix (Wp.ret (Wp.eq (n := takeM ((LL C ts.length ts).length : Int)) (by rw [r_consM, r_bcM, lenL_map, r_lift, r_consM, r_consM, r_bnd, r_take]) (Wp.take (by omega) (by omega) fun p hp => ?_)))
          have hp' : p < (LL C ts.length ts).length := by omega
          refine ⟨_, ix_lsts (d := []) hp', _, rfl, ?_⟩
          rw [getD_in hp']
          exact (hE _ (List.getElem_mem _)).2.2.1
      · subst e
        rw [← hts]
        obtain ⟨vs2, ev2, lv2, pv2⟩ := vals2_ok (ks := ks) (n := ts.length) (by omega) hn hk
        refine Wp.val ev2 ?_
        have e3 : (op2M addD (ret (.lst vs2)) (lstM (consM (ret .non) (ret []))) : M Tp D) = ret (.lst (vs2 ++ [.non])) := by
          rw [r_consM, r_lstM, r_lst1, r_lift, r_op2, addL_ok (by rw [List.length_singleton]; omega), r_lift]
        refine Wp.forW (Wp.it (Wp.op2 (Wp.eq e3 (Wp.ret ((some_spoilt (L := 6) (n := 1) (m := 5) (by decide) (by decide) (by decide) (by decide) (pt_nT (ks := ks) (L := 6) (by omega))).mono fun d ⟨ws, e, lw, pw⟩ => ?_)))))
        subst e
        refine ⟨_, addL_ok (by rw [List.length_append, List.length_singleton]; omega), _, .inl rfl, forU_ok (fun y hy => ?_) ?_⟩
        · rcases List.mem_append.mp hy with hy | hy
          · rcases List.mem_append.mp hy with hy | hy
            · exact judge2 (by omega) z2 (by omega) hn hts (pv2 y hy)
            · rw [List.mem_singleton.mp hy]
              exact judge2 (k := 0) (by omega) z2 (by omega) hn hts .non
          · exact judge2 (by omega) z2 (by omega) hn hts ((pw y hy).wide (by decide))
        · refine Wp.val (v := .lst []) (by rw [r_lstM, r_lst0, r_lift]) ?_
          have e4 : (itM (tupM (consM (tupM (consM (ret (.str "right")) (consM (ret (.int 1)) (consM (ret (.int 3)) (consM (ret (iN R)) (ret [])))))) (consM (tupM (consM (ret (.str "down")) (consM (ret (.int 2)) (consM (ret (.int 0)) (consM (ret (iN C)) (ret [])))))) (ret [])))) : M Tp (List D)) = ret [.tup [.str "right", iN 1, iN 3, iN R], .tup [.str "down", iN 2, iN 0, iN C]] := by
            simp only [r_consM, r_tupM, r_tup4, r_tup2, r_lift, r_itT]
            rfl
          have p4 : ∀ (f : D → D → D → D → M Tp (Fl D D)) a b c d, pat4 f (.tup [a, b, c, d]) = f a b c d := fun _ _ _ _ _ => rfl
          have l10 : ∀ a b m : Nat, ((List.range 10).filter (over ts a b m)).length ≤ 10 := fun a b m => List.length_filter_le _ _
          refine Wp.forP (s1 := .lst (cand R C ts)) (fun K => ?_) ?_
          · rw [e4, r_forM]
            refine (forL_on (s1 := .lst ((List.range 10).filter (over ts 1 3 R) |>.map (outD (.str "right")))) ?_).trans ((forL_on (s1 := .lst (cand R C ts)) ?_).trans rfl)
            · rw [p4, due_in (by omega) (by decide) (by decide) _ _ [] (by simp), List.nil_append]
            · rw [p4, due_in (by omega) (by decide) (by decide) _ _ _ (by rw [List.length_map]; have := l10 1 3 R; omega)]
              rfl
          · obtain ⟨c1, c2⟩ := cand_pl R C ts
            have s2 := same60 (hd_pb c2) (by decide)
            have n1 : (cmpT neD (ret (.lst (cand R C ts))) (lstM (ret [])) : M Tp Bool) = ret (!(cand R C ts).isEmpty) := by
              rw [r_lstM, r_lst0, r_lift, r_cmpT, ne_pl (.lst c1) (.lst (n := 0) fun x hx => by cases hx) (by decide) (by decide), r_lift, r_bnd, r_asB]
              cases cand R C ts <;> simp
            have n2 : (cmpT neD (ret (.lst ((LL C ts.length ts).map nT))) (lstM (ret [])) : M Tp Bool) = ret (!(LL C ts.length ts).isEmpty) := by
              rw [r_lstM, r_lst0, r_lift, r_cmpT, ne_nil (by decide) pl_nT, r_lift, r_bnd, r_asB]
            refine Wp.off ?_ (Wp.ret rfl)
            rw [hd_ok _ c1, n1, n2, r_consM, r_consM, r_bnd, surplus_of_ok (by omega), r_consM, r_consM, r_bnd, s2, r_valT, r_tru_bl, r_notT, r_andT, r_orT]
            cases hem : LL C ts.length ts with
            | nil => simp
            | cons r rs =>
              obtain ⟨h1, h2, h3, h4⟩ := hE r (by rw [hem]; exact List.mem_cons_self)
              have hp := perm_range h1 h2 h3
              have hg := (isLay_iff z2 ts (h3.trans hts)).mp h4
              have hno := not_over hz hts hp hg
              have : cand R C ts = [] := by
                unfold cand
                rw [List.filter_eq_nil_iff.mpr fun s _ => by rw [(hno s).1]; decide, List.filter_eq_nil_iff.mpr fun s _ => by rw [(hno s).2]; decide]
                rfl
              rw [this]; rfl
theorem law_true : ∀ b : Tp, ∃ b', bnd b_law endF b = some (.bl true, b') := fun b => by
  obtain ⟨a, b', e, h⟩ := law_wp b
  exact ⟨b', by rw [e, h]⟩
end Lw

namespace Lw
open PySem PySem.Spec PyProof.Rows L2 Sn
theorem all_mk (hm : ∀ b : Tp, ∃ b', bnd b_law endF b = some (.bl true, b')) {l : PySem.W.OpenLaw} {w : World} {K : PySem.W.Frag} {h : Heap} {mg : Str → Option Value} {fa : Addr} (X : K.In h) (G : h.Ns mainGlobals mg) (hfa : mg "law" = some (.ref fa))
    {f_is_number : Addr} {od_is_number an_is_number : Option Addr} {sl_is_number : Array (Option Value)} {oc_is_number kV_is_number dc_is_number pm_is_number cd_is_number ct_is_number : Value}
    {f_is_tile : Addr} {od_is_tile an_is_tile : Option Addr} {sl_is_tile : Array (Option Value)} {oc_is_tile kV_is_tile dc_is_tile pm_is_tile cd_is_tile ct_is_tile : Value}
    {f_are_tiles : Addr} {od_are_tiles an_are_tiles : Option Addr} {sl_are_tiles : Array (Option Value)} {oc_are_tiles kV_are_tiles dc_are_tiles pm_are_tiles cd_are_tiles ct_are_tiles : Value}
    {f_fits_behind : Addr} {od_fits_behind an_fits_behind : Option Addr} {sl_fits_behind : Array (Option Value)} {oc_fits_behind kV_fits_behind dc_fits_behind pm_fits_behind cd_fits_behind ct_fits_behind : Value}
    {f_is_laying : Addr} {od_is_laying an_is_laying : Option Addr} {sl_is_laying : Array (Option Value)} {oc_is_laying kV_is_laying dc_is_laying pm_is_laying cd_is_laying ct_is_laying : Value}
    {f_all_layings : Addr} {od_all_layings an_all_layings : Option Addr} {sl_all_layings : Array (Option Value)} {oc_all_layings kV_all_layings dc_all_layings pm_all_layings cd_all_layings ct_all_layings : Value}
    {f_count_layings : Addr} {od_count_layings an_count_layings : Option Addr} {sl_count_layings : Array (Option Value)} {oc_count_layings kV_count_layings dc_count_layings pm_count_layings cd_count_layings ct_count_layings : Value}
    {f_first_laying : Addr} {od_first_laying an_first_laying : Option Addr} {sl_first_laying : Array (Option Value)} {oc_first_laying kV_first_laying dc_first_laying pm_first_laying cd_first_laying ct_first_laying : Value}
    {f_surplus_of : Addr} {od_surplus_of an_surplus_of : Option Addr} {sl_surplus_of : Array (Option Value)} {oc_surplus_of kV_surplus_of dc_surplus_of pm_surplus_of cd_surplus_of ct_surplus_of : Value}
    {f__law_mix : Addr} {od__law_mix an__law_mix : Option Addr} {sl__law_mix : Array (Option Value)} {oc__law_mix kV__law_mix dc__law_mix pm__law_mix cd__law_mix ct__law_mix : Value}
    {f__law_tape : Addr} {od__law_tape an__law_tape : Option Addr} {sl__law_tape : Array (Option Value)} {oc__law_tape kV__law_tape dc__law_tape pm__law_tape cd__law_tape ct__law_tape : Value}
    {f__law_take : Addr} {od__law_take an__law_take : Option Addr} {sl__law_take : Array (Option Value)} {oc__law_take kV__law_take dc__law_take pm__law_take cd__law_take ct__law_take : Value}
    {f__law_same : Addr} {od__law_same an__law_same : Option Addr} {sl__law_same : Array (Option Value)} {oc__law_same kV__law_same dc__law_same pm__law_same cd__law_same ct__law_same : Value}
    {f__law_spoilt : Addr} {od__law_spoilt an__law_spoilt : Option Addr} {sl__law_spoilt : Array (Option Value)} {oc__law_spoilt kV__law_spoilt dc__law_spoilt pm__law_spoilt cd__law_spoilt ct__law_spoilt : Value}
    {f__law_are_tiles : Addr} {od__law_are_tiles an__law_are_tiles : Option Addr} {sl__law_are_tiles : Array (Option Value)} {oc__law_are_tiles kV__law_are_tiles dc__law_are_tiles pm__law_are_tiles cd__law_are_tiles ct__law_are_tiles : Value}
    {f__law_orders : Addr} {od__law_orders an__law_orders : Option Addr} {sl__law_orders : Array (Option Value)} {oc__law_orders kV__law_orders dc__law_orders pm__law_orders cd__law_orders ct__law_orders : Value}
    {f__law_is : Addr} {od__law_is an__law_is : Option Addr} {sl__law_is : Array (Option Value)} {oc__law_is kV__law_is dc__law_is pm__law_is cd__law_is ct__law_is : Value}
    {f_law : Addr} {od_law an_law : Option Addr} {sl_law : Array (Option Value)} {oc_law kV_law dc_law pm_law cd_law ct_law : Value}
    (a_is_number : PySem.W.nsIn K mainGlobals "is_number" = some (some (.ref f_is_number))) (l_is_number : K.lookup f_is_number = some ⟨oc_is_number, od_is_number, .func (PySem.W.fnOf "is_number" "is_number" (defArgs s_is_number) (defBody s_is_number) (defScope s_is_number) .none kV_is_number dc_is_number pm_is_number an_is_number cd_is_number ct_is_number), sl_is_number⟩) (c_is_number : PySem.W.codeIn K cd_is_number "is_number" = true) (k_is_number : PySem.W.keepIn K (.ref f_is_number) = true)
    (a_is_tile : PySem.W.nsIn K mainGlobals "is_tile" = some (some (.ref f_is_tile))) (l_is_tile : K.lookup f_is_tile = some ⟨oc_is_tile, od_is_tile, .func (PySem.W.fnOf "is_tile" "is_tile" (defArgs s_is_tile) (defBody s_is_tile) (defScope s_is_tile) .none kV_is_tile dc_is_tile pm_is_tile an_is_tile cd_is_tile ct_is_tile), sl_is_tile⟩) (c_is_tile : PySem.W.codeIn K cd_is_tile "is_tile" = true) (k_is_tile : PySem.W.keepIn K (.ref f_is_tile) = true)
    (a_are_tiles : PySem.W.nsIn K mainGlobals "are_tiles" = some (some (.ref f_are_tiles))) (l_are_tiles : K.lookup f_are_tiles = some ⟨oc_are_tiles, od_are_tiles, .func (PySem.W.fnOf "are_tiles" "are_tiles" (defArgs s_are_tiles) (defBody s_are_tiles) (defScope s_are_tiles) .none kV_are_tiles dc_are_tiles pm_are_tiles an_are_tiles cd_are_tiles ct_are_tiles), sl_are_tiles⟩) (c_are_tiles : PySem.W.codeIn K cd_are_tiles "are_tiles" = true) (k_are_tiles : PySem.W.keepIn K (.ref f_are_tiles) = true)
    (a_fits_behind : PySem.W.nsIn K mainGlobals "fits_behind" = some (some (.ref f_fits_behind))) (l_fits_behind : K.lookup f_fits_behind = some ⟨oc_fits_behind, od_fits_behind, .func (PySem.W.fnOf "fits_behind" "fits_behind" (defArgs s_fits_behind) (defBody s_fits_behind) (defScope s_fits_behind) .none kV_fits_behind dc_fits_behind pm_fits_behind an_fits_behind cd_fits_behind ct_fits_behind), sl_fits_behind⟩) (c_fits_behind : PySem.W.codeIn K cd_fits_behind "fits_behind" = true) (k_fits_behind : PySem.W.keepIn K (.ref f_fits_behind) = true)
    (a_is_laying : PySem.W.nsIn K mainGlobals "is_laying" = some (some (.ref f_is_laying))) (l_is_laying : K.lookup f_is_laying = some ⟨oc_is_laying, od_is_laying, .func (PySem.W.fnOf "is_laying" "is_laying" (defArgs s_is_laying) (defBody s_is_laying) (defScope s_is_laying) .none kV_is_laying dc_is_laying pm_is_laying an_is_laying cd_is_laying ct_is_laying), sl_is_laying⟩) (c_is_laying : PySem.W.codeIn K cd_is_laying "is_laying" = true) (k_is_laying : PySem.W.keepIn K (.ref f_is_laying) = true)
    (a_all_layings : PySem.W.nsIn K mainGlobals "all_layings" = some (some (.ref f_all_layings))) (l_all_layings : K.lookup f_all_layings = some ⟨oc_all_layings, od_all_layings, .func (PySem.W.fnOf "all_layings" "all_layings" (defArgs s_all_layings) (defBody s_all_layings) (defScope s_all_layings) .none kV_all_layings dc_all_layings pm_all_layings an_all_layings cd_all_layings ct_all_layings), sl_all_layings⟩) (c_all_layings : PySem.W.codeIn K cd_all_layings "all_layings" = true) (k_all_layings : PySem.W.keepIn K (.ref f_all_layings) = true)
    (a_count_layings : PySem.W.nsIn K mainGlobals "count_layings" = some (some (.ref f_count_layings))) (l_count_layings : K.lookup f_count_layings = some ⟨oc_count_layings, od_count_layings, .func (PySem.W.fnOf "count_layings" "count_layings" (defArgs s_count_layings) (defBody s_count_layings) (defScope s_count_layings) .none kV_count_layings dc_count_layings pm_count_layings an_count_layings cd_count_layings ct_count_layings), sl_count_layings⟩) (c_count_layings : PySem.W.codeIn K cd_count_layings "count_layings" = true) (k_count_layings : PySem.W.keepIn K (.ref f_count_layings) = true)
    (a_first_laying : PySem.W.nsIn K mainGlobals "first_laying" = some (some (.ref f_first_laying))) (l_first_laying : K.lookup f_first_laying = some ⟨oc_first_laying, od_first_laying, .func (PySem.W.fnOf "first_laying" "first_laying" (defArgs s_first_laying) (defBody s_first_laying) (defScope s_first_laying) .none kV_first_laying dc_first_laying pm_first_laying an_first_laying cd_first_laying ct_first_laying), sl_first_laying⟩) (c_first_laying : PySem.W.codeIn K cd_first_laying "first_laying" = true) (k_first_laying : PySem.W.keepIn K (.ref f_first_laying) = true)
    (a_surplus_of : PySem.W.nsIn K mainGlobals "surplus_of" = some (some (.ref f_surplus_of))) (l_surplus_of : K.lookup f_surplus_of = some ⟨oc_surplus_of, od_surplus_of, .func (PySem.W.fnOf "surplus_of" "surplus_of" (defArgs s_surplus_of) (defBody s_surplus_of) (defScope s_surplus_of) .none kV_surplus_of dc_surplus_of pm_surplus_of an_surplus_of cd_surplus_of ct_surplus_of), sl_surplus_of⟩) (c_surplus_of : PySem.W.codeIn K cd_surplus_of "surplus_of" = true) (k_surplus_of : PySem.W.keepIn K (.ref f_surplus_of) = true)
    (a__law_mix : PySem.W.nsIn K mainGlobals "_law_mix" = some (some (.ref f__law_mix))) (l__law_mix : K.lookup f__law_mix = some ⟨oc__law_mix, od__law_mix, .func (PySem.W.fnOf "_law_mix" "_law_mix" (defArgs s__law_mix) (defBody s__law_mix) (defScope s__law_mix) .none kV__law_mix dc__law_mix pm__law_mix an__law_mix cd__law_mix ct__law_mix), sl__law_mix⟩) (c__law_mix : PySem.W.codeIn K cd__law_mix "_law_mix" = true) (k__law_mix : PySem.W.keepIn K (.ref f__law_mix) = true)
    (a__law_tape : PySem.W.nsIn K mainGlobals "_law_tape" = some (some (.ref f__law_tape))) (l__law_tape : K.lookup f__law_tape = some ⟨oc__law_tape, od__law_tape, .func (PySem.W.fnOf "_law_tape" "_law_tape" (defArgs s__law_tape) (defBody s__law_tape) (defScope s__law_tape) .none kV__law_tape dc__law_tape pm__law_tape an__law_tape cd__law_tape ct__law_tape), sl__law_tape⟩) (c__law_tape : PySem.W.codeIn K cd__law_tape "_law_tape" = true) (k__law_tape : PySem.W.keepIn K (.ref f__law_tape) = true)
    (a__law_take : PySem.W.nsIn K mainGlobals "_law_take" = some (some (.ref f__law_take))) (l__law_take : K.lookup f__law_take = some ⟨oc__law_take, od__law_take, .func (PySem.W.fnOf "_law_take" "_law_take" (defArgs s__law_take) (defBody s__law_take) (defScope s__law_take) .none kV__law_take dc__law_take pm__law_take an__law_take cd__law_take ct__law_take), sl__law_take⟩) (c__law_take : PySem.W.codeIn K cd__law_take "_law_take" = true) (k__law_take : PySem.W.keepIn K (.ref f__law_take) = true)
    (a__law_same : PySem.W.nsIn K mainGlobals "_law_same" = some (some (.ref f__law_same))) (l__law_same : K.lookup f__law_same = some ⟨oc__law_same, od__law_same, .func (PySem.W.fnOf "_law_same" "_law_same" (defArgs s__law_same) (defBody s__law_same) (defScope s__law_same) .none kV__law_same dc__law_same pm__law_same an__law_same cd__law_same ct__law_same), sl__law_same⟩) (c__law_same : PySem.W.codeIn K cd__law_same "_law_same" = true) (k__law_same : PySem.W.keepIn K (.ref f__law_same) = true)
    (a__law_spoilt : PySem.W.nsIn K mainGlobals "_law_spoilt" = some (some (.ref f__law_spoilt))) (l__law_spoilt : K.lookup f__law_spoilt = some ⟨oc__law_spoilt, od__law_spoilt, .func (PySem.W.fnOf "_law_spoilt" "_law_spoilt" (defArgs s__law_spoilt) (defBody s__law_spoilt) (defScope s__law_spoilt) .none kV__law_spoilt dc__law_spoilt pm__law_spoilt an__law_spoilt cd__law_spoilt ct__law_spoilt), sl__law_spoilt⟩) (c__law_spoilt : PySem.W.codeIn K cd__law_spoilt "_law_spoilt" = true) (k__law_spoilt : PySem.W.keepIn K (.ref f__law_spoilt) = true)
    (a__law_are_tiles : PySem.W.nsIn K mainGlobals "_law_are_tiles" = some (some (.ref f__law_are_tiles))) (l__law_are_tiles : K.lookup f__law_are_tiles = some ⟨oc__law_are_tiles, od__law_are_tiles, .func (PySem.W.fnOf "_law_are_tiles" "_law_are_tiles" (defArgs s__law_are_tiles) (defBody s__law_are_tiles) (defScope s__law_are_tiles) .none kV__law_are_tiles dc__law_are_tiles pm__law_are_tiles an__law_are_tiles cd__law_are_tiles ct__law_are_tiles), sl__law_are_tiles⟩) (c__law_are_tiles : PySem.W.codeIn K cd__law_are_tiles "_law_are_tiles" = true) (k__law_are_tiles : PySem.W.keepIn K (.ref f__law_are_tiles) = true)
    (a__law_orders : PySem.W.nsIn K mainGlobals "_law_orders" = some (some (.ref f__law_orders))) (l__law_orders : K.lookup f__law_orders = some ⟨oc__law_orders, od__law_orders, .func (PySem.W.fnOf "_law_orders" "_law_orders" (defArgs s__law_orders) (defBody s__law_orders) (defScope s__law_orders) .none kV__law_orders dc__law_orders pm__law_orders an__law_orders cd__law_orders ct__law_orders), sl__law_orders⟩) (c__law_orders : PySem.W.codeIn K cd__law_orders "_law_orders" = true) (k__law_orders : PySem.W.keepIn K (.ref f__law_orders) = true)
    (a__law_is : PySem.W.nsIn K mainGlobals "_law_is" = some (some (.ref f__law_is))) (l__law_is : K.lookup f__law_is = some ⟨oc__law_is, od__law_is, .func (PySem.W.fnOf "_law_is" "_law_is" (defArgs s__law_is) (defBody s__law_is) (defScope s__law_is) .none kV__law_is dc__law_is pm__law_is an__law_is cd__law_is ct__law_is), sl__law_is⟩) (c__law_is : PySem.W.codeIn K cd__law_is "_law_is" = true) (k__law_is : PySem.W.keepIn K (.ref f__law_is) = true)
    (a_law : PySem.W.nsIn K mainGlobals "law" = some (some (.ref f_law))) (l_law : K.lookup f_law = some ⟨oc_law, od_law, .func (PySem.W.fnOf "law" "law" (defArgs s_law) (defBody s_law) (defScope s_law) .none kV_law dc_law pm_law an_law cd_law ct_law), sl_law⟩) (c_law : PySem.W.codeIn K cd_law "law" = true) (k_law : PySem.W.keepIn K (.ref f_law) = true)
    (z_abs : PySem.W.nsIn K mainGlobals "abs" = some none)
    (z_all : PySem.W.nsIn K mainGlobals "all" = some none)
    (z_bool : PySem.W.nsIn K mainGlobals "bool" = some none)
    (z_int : PySem.W.nsIn K mainGlobals "int" = some none)
    (z_isinstance : PySem.W.nsIn K mainGlobals "isinstance" = some none)
    (z_len : PySem.W.nsIn K mainGlobals "len" = some none)
    (z_list : PySem.W.nsIn K mainGlobals "list" = some none)
    (z_range : PySem.W.nsIn K mainGlobals "range" = some none)
    (z_sorted : PySem.W.nsIn K mainGlobals "sorted" = some none)
    (z_str : PySem.W.nsIn K mainGlobals "str" = some none)
    (z_tuple : PySem.W.nsIn K mainGlobals "tuple" = some none)
    {t_GREATEST_SIGN : Tok} (y_GREATEST_SIGN : PySem.W.nsIn K mainGlobals "GREATEST_SIGN" = some (some (.int 9 t_GREATEST_SIGN)))
    {t_MOST_TILES : Tok} (y_MOST_TILES : PySem.W.nsIn K mainGlobals "MOST_TILES" = some (some (.int 9 t_MOST_TILES))) :
    ∃ fd : FuncData, (∀ (s : Shared) (v : Value), BindsTo s fd ⟨[v], []⟩ [("script", v)]) ∧ ∀ base : Heap, K.In base → base.Ns mainGlobals mg → FnOk l.prog w K mg base CX0 64 fa fd ["script"] (spLaw K) := by
  have e := hfa.symm.trans (PySem.W.mg_of X G a_law)
  cases e
  have F_is_number := fun_mk (st := s_is_number) l_is_number c_is_number k_is_number
  have F_is_tile := fun_mk (st := s_is_tile) l_is_tile c_is_tile k_is_tile
  have F_are_tiles := fun_mk (st := s_are_tiles) l_are_tiles c_are_tiles k_are_tiles
  have F_fits_behind := fun_mk (st := s_fits_behind) l_fits_behind c_fits_behind k_fits_behind
  have F_is_laying := fun_mk (st := s_is_laying) l_is_laying c_is_laying k_is_laying
  have F_all_layings := fun_mk (st := s_all_layings) l_all_layings c_all_layings k_all_layings
  have F_count_layings := fun_mk (st := s_count_layings) l_count_layings c_count_layings k_count_layings
  have F_first_laying := fun_mk (st := s_first_laying) l_first_laying c_first_laying k_first_laying
  have F_surplus_of := fun_mk (st := s_surplus_of) l_surplus_of c_surplus_of k_surplus_of
  have F__law_mix := fun_mk (st := s__law_mix) l__law_mix c__law_mix k__law_mix
  have F__law_tape := fun_mk (st := s__law_tape) l__law_tape c__law_tape k__law_tape
  have F__law_take := fun_mk (st := s__law_take) l__law_take c__law_take k__law_take
  have F__law_same := fun_mk (st := s__law_same) l__law_same c__law_same k__law_same
  have F__law_spoilt := fun_mk (st := s__law_spoilt) l__law_spoilt c__law_spoilt k__law_spoilt
  have F__law_are_tiles := fun_mk (st := s__law_are_tiles) l__law_are_tiles c__law_are_tiles k__law_are_tiles
  have F__law_orders := fun_mk (st := s__law_orders) l__law_orders c__law_orders k__law_orders
  have F__law_is := fun_mk (st := s__law_is) l__law_is c__law_is k__law_is
  have F_law := fun_mk (st := s_law) l_law c_law k_law
  have z_abs := PySem.W.mg_none_of X G z_abs
  have z_all := PySem.W.mg_none_of X G z_all
  have z_bool := PySem.W.mg_none_of X G z_bool
  have z_int := PySem.W.mg_none_of X G z_int
  have z_isinstance := PySem.W.mg_none_of X G z_isinstance
  have z_len := PySem.W.mg_none_of X G z_len
  have z_list := PySem.W.mg_none_of X G z_list
  have z_range := PySem.W.mg_none_of X G z_range
  have z_sorted := PySem.W.mg_none_of X G z_sorted
  have z_str := PySem.W.mg_none_of X G z_str
  have z_tuple := PySem.W.mg_none_of X G z_tuple
  have c_GREATEST_SIGN := PySem.W.mg_of X G y_GREATEST_SIGN
  have c_MOST_TILES := PySem.W.mg_of X G y_MOST_TILES
  refine ⟨PySem.W.fnOf "law" "law" (defArgs s_law) (defBody s_law) (defScope s_law) .none kV_law dc_law pm_law an_law cd_law ct_law, fun s v => .of_eq rfl, fun base _ _ => ?_⟩
  have b_load := F__law_mix.binds (ps := ["number"]) fun _ _ _ _ _ _ us hl => match us, hl with | [_], _ => rfl
  have b_box := F__law_tape.binds (ps := ["script"]) fun _ _ _ _ _ _ us hl => match us, hl with | [_], _ => rfl
  have b_draw := F__law_take.binds (ps := ["tape", "many"]) fun _ _ _ _ _ _ us hl => match us, hl with | [_, _], _ => rfl
  have h__law_take : HasF (S := Tp) ⟨l.prog, w, K, mg, base⟩ 2 "_law_take" 2 m_take := ⟨_, _, _, PySem.W.mg_of X G a__law_take, k__law_take, b_draw, ok_take (k := 0) F__law_take F__law_mix b_load (PySem.W.mg_of X G a__law_mix) z_len z_int⟩
  have h_is_number := h_is_number (P := l.prog) (w := w) (base := base) F_is_number (PySem.W.mg_of X G a_is_number) z_bool z_int z_isinstance
  have h_is_tile := h_is_tile (P := l.prog) (w := w) (base := base) F_is_tile (PySem.W.mg_of X G a_is_tile) z_all z_isinstance z_len z_tuple c_GREATEST_SIGN h_is_number
  have h_are_tiles := h_are_tiles (P := l.prog) (w := w) (base := base) F_are_tiles (PySem.W.mg_of X G a_are_tiles) z_all z_isinstance z_len z_tuple c_MOST_TILES h_is_tile
  have h_fits_behind := h_fits_behind (P := l.prog) (w := w) (base := base) F_fits_behind (PySem.W.mg_of X G a_fits_behind) z_len
  have h_is_laying := h_is_laying (P := l.prog) (w := w) (base := base) F_is_laying (PySem.W.mg_of X G a_is_laying) z_all z_isinstance z_len z_list z_range z_sorted z_tuple h_is_number h_fits_behind
  have h_all_layings := h_all_layings (P := l.prog) (w := w) (base := base) F_all_layings (PySem.W.mg_of X G a_all_layings) z_len z_range h_fits_behind
  have h_count_layings := h_count_layings (P := l.prog) (w := w) (base := base) F_count_layings (PySem.W.mg_of X G a_count_layings) z_len h_all_layings
  have h_first_laying := h_first_laying (P := l.prog) (w := w) (base := base) F_first_laying (PySem.W.mg_of X G a_first_laying) h_all_layings
  have h_surplus_of := h_surplus_of (P := l.prog) (w := w) (base := base) F_surplus_of (PySem.W.mg_of X G a_surplus_of) z_abs z_len z_range c_GREATEST_SIGN
  have h__law_same := h__law_same (P := l.prog) (w := w) (base := base) F__law_same (PySem.W.mg_of X G a__law_same) z_all z_bool z_int z_isinstance z_len z_list z_range z_str z_tuple 60
  have h__law_spoilt := h__law_spoilt (P := l.prog) (w := w) (base := base) F__law_spoilt (PySem.W.mg_of X G a__law_spoilt) z_int z_isinstance z_len z_tuple h__law_take 60
  have h__law_are_tiles := h__law_are_tiles (P := l.prog) (w := w) (base := base) F__law_are_tiles (PySem.W.mg_of X G a__law_are_tiles) z_all z_bool z_int z_isinstance z_len z_tuple
  have h__law_orders := h__law_orders (P := l.prog) (w := w) (base := base) F__law_orders (PySem.W.mg_of X G a__law_orders) z_range
  have h__law_is := h__law_is (P := l.prog) (w := w) (base := base) F__law_is (PySem.W.mg_of X G a__law_is) z_range
  exact h_law (P := l.prog) (w := w) (base := base) F_law z_all z_bool z_int z_isinstance z_len z_list z_range z_sorted z_tuple h_count_layings h_first_laying h_surplus_of h__law_take h__law_spoilt h__law_are_tiles h_are_tiles h__law_same h__law_is h_is_laying h__law_orders (ok_tape (k := 0) F__law_tape z_len z_list) k__law_tape b_box (PySem.W.mg_of X G a__law_tape) hm
end Lw
open PySem PySem.W PyProof.Rows
set_option maxHeartbeats 0 in
theorem PySem.Challenge.cw_albumsfilled_k65_whole_tiles_laid_holds : PySem.Challenge.rw_albumsfilled_k65_whole_tiles_laid.Holds := by
  w_on; o_law; k_head; (case hw => w_witness2)
  k_fill
  refine L2.walk_of (l := PySem.Challenge.rw_albumsfilled_k65_whole_tiles_laid) (n := 63) (k := 64) (x := "script") (CX := fun _ => L2.CX0) (sp := fun w => Sn.spLaw _) rfl (by decide) rfl ⟨rfl, by decide, by decide⟩ (fun w h Y => PySem.W.kIn_of Y) ?F (fun _ H a ns hl hO hS => ⟨a, ns, rfl, hS, hl, Sn.Sz.only hO, fun _ => rfl⟩) (fun _ _ _ _ _ h => h)
  case F =>
    intro w mg fa h KX G hmg
    refine' Lw.all_mk Lw.law_true KX G hmg ?a_is_number ?l_is_number ?c_is_number ?k_is_number ?a_is_tile ?l_is_tile ?c_is_tile ?k_is_tile ?a_are_tiles ?l_are_tiles ?c_are_tiles ?k_are_tiles ?a_fits_behind ?l_fits_behind ?c_fits_behind ?k_fits_behind ?a_is_laying ?l_is_laying ?c_is_laying ?k_is_laying ?a_all_layings ?l_all_layings ?c_all_layings ?k_all_layings ?a_count_layings ?l_count_layings ?c_count_layings ?k_count_layings ?a_first_laying ?l_first_laying ?c_first_laying ?k_first_laying ?a_surplus_of ?l_surplus_of ?c_surplus_of ?k_surplus_of ?a__law_mix ?l__law_mix ?c__law_mix ?k__law_mix ?a__law_tape ?l__law_tape ?c__law_tape ?k__law_tape ?a__law_take ?l__law_take ?c__law_take ?k__law_take ?a__law_same ?l__law_same ?c__law_same ?k__law_same ?a__law_spoilt ?l__law_spoilt ?c__law_spoilt ?k__law_spoilt ?a__law_are_tiles ?l__law_are_tiles ?c__law_are_tiles ?k__law_are_tiles ?a__law_orders ?l__law_orders ?c__law_orders ?k__law_orders ?a__law_is ?l__law_is ?c__law_is ?k__law_is ?a_law ?l_law ?c_law ?k_law ?z_abs ?z_all ?z_bool ?z_int ?z_isinstance ?z_len ?z_list ?z_range ?z_sorted ?z_str ?z_tuple ?y_GREATEST_SIGN ?y_MOST_TILES
    (case a_is_number => k_is); (case l_is_number => k_is); (case c_is_number => k_is); (case k_is_number => k_is); (case a_is_tile => k_is); (case l_is_tile => k_is); (case c_is_tile => k_is); (case k_is_tile => k_is); (case a_are_tiles => k_is); (case l_are_tiles => k_is); (case c_are_tiles => k_is); (case k_are_tiles => k_is); (case a_fits_behind => k_is); (case l_fits_behind => k_is); (case c_fits_behind => k_is); (case k_fits_behind => k_is); (case a_is_laying => k_is); (case l_is_laying => k_is); (case c_is_laying => k_is); (case k_is_laying => k_is); (case a_all_layings => k_is); (case l_all_layings => k_is); (case c_all_layings => k_is); (case k_all_layings => k_is); (case a_count_layings => k_is); (case l_count_layings => k_is); (case c_count_layings => k_is); (case k_count_layings => k_is); (case a_first_laying => k_is); (case l_first_laying => k_is); (case c_first_laying => k_is); (case k_first_laying => k_is); (case a_surplus_of => k_is); (case l_surplus_of => k_is); (case c_surplus_of => k_is); (case k_surplus_of => k_is); (case a__law_mix => k_is); (case l__law_mix => k_is); (case c__law_mix => k_is); (case k__law_mix => k_is); (case a__law_tape => k_is); (case l__law_tape => k_is); (case c__law_tape => k_is); (case k__law_tape => k_is); (case a__law_take => k_is); (case l__law_take => k_is); (case c__law_take => k_is); (case k__law_take => k_is); (case a__law_same => k_is); (case l__law_same => k_is); (case c__law_same => k_is); (case k__law_same => k_is); (case a__law_spoilt => k_is); (case l__law_spoilt => k_is); (case c__law_spoilt => k_is); (case k__law_spoilt => k_is); (case a__law_are_tiles => k_is); (case l__law_are_tiles => k_is); (case c__law_are_tiles => k_is); (case k__law_are_tiles => k_is); (case a__law_orders => k_is); (case l__law_orders => k_is); (case c__law_orders => k_is); (case k__law_orders => k_is); (case a__law_is => k_is); (case l__law_is => k_is); (case c__law_is => k_is); (case k__law_is => k_is); (case a_law => k_is); (case l_law => k_is); (case c_law => k_is); (case k_law => k_is); (case z_abs => k_is); (case z_all => k_is); (case z_bool => k_is); (case z_int => k_is); (case z_isinstance => k_is); (case z_len => k_is); (case z_list => k_is); (case z_range => k_is); (case z_sorted => k_is); (case z_str => k_is); (case z_tuple => k_is); (case y_GREATEST_SIGN => k_is); (case y_MOST_TILES => k_is)
