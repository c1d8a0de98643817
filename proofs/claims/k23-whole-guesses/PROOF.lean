import PyProof.Rows.All
import Wide.All
import OpenK.AllK
import Wide.FinOn
import HandS.ForMost
import HandS.TupAny
import HandS.IsInst
import HandS.Deep
import HandS.Flow
import HandS.Words
import HandS.TupLe
import HandS.TupMul
import HandS.Zip
import HandS.Style
import HandS.Text
import HandS.RaiseMore
import HandS.SetFor
import HandS.More
import HandS.SortInts
import KE.SortData
import KE.DataMinMax
import KE.GoesEnum
import HandS.Wide
import HandS.WideBits
import HandS.Conv
import HandS.TupSets
import PySem.Challenge.RW_albumsfilled_k23_whole_guesses_of_weight
set_option Elab.async false
set_option linter.all false
set_option maxRecDepth 100000
namespace Sn
open PySem PySem.Spec PyProof.Rows L2

/-! ### data, computations -/
inductive D where
  | non | bl (b : Bool) | int (i : Int) | str (x : Str) | tup (xs : List D) | lst (xs : List D) | dct (kvs : List (D × D)) | box

def M (S : Type) (α : Type) : Type := S → Option (α × S)
section
variable {S α β γ : Type}
def ret (a : α) : M S α := fun s => some (a, s)
def stuck : M S α := fun _ => none
def bnd (m : M S α) (k : α → M S β) : M S β := fun s => match m s with
  | none => none
  | some (a, s') => k a s'
theorem bnd_some {m : M S α} {k : α → M S β} {s : S} {r : β × S} (h : bnd m k s = some r) : ∃ a s', m s = some (a, s') ∧ k a s' = some r := by
  unfold bnd at h
  cases e : m s with
  | none => rw [e] at h; cases h
  | some p => obtain ⟨a, s'⟩ := p; rw [e] at h; exact ⟨a, s', rfl, h⟩
theorem ret_some {a b : α} {s s' : S} (h : (ret a : M S α) s = some (b, s')) : b = a ∧ s' = s := by
  have h' : some (a, s) = some (b, s') := h
  cases h'
  exact ⟨rfl, rfl⟩
theorem stuck_some {s : S} {r : α × S} (h : (stuck : M S α) s = some r) : False := by cases (show (none : Option (α × S)) = some r from h)
theorem bnd_ret (a : α) (k : α → M S β) : bnd (ret a) k = k a := rfl
theorem bnd_stuck (k : α → M S β) : bnd stuck k = stuck := rfl
theorem bnd_bnd (m : M S α) (k : α → M S β) (l : β → M S γ) : bnd (bnd m k) l = bnd m fun a => bnd (k a) l := by
  funext s
  unfold bnd
  cases m s with
  | none => rfl
  | some p => rfl
theorem bnd_id (m : M S α) : bnd m ret = m := by
  funext s
  unfold bnd
  cases m s with
  | none => rfl
  | some p => rfl
theorem bnd_ite {c : Prop} [Decidable c] (m n : M S α) (k : α → M S β) : bnd (if c then m else n) k = if c then bnd m k else bnd n k := by
  split <;> rfl
end

/-- the law's box: how a state of it lies in the heap -/
class BoxS (S : Type) where
  R : S → Addr → Addr → Hp → Prop
  there : ∀ {st β γ H}, R st β γ H → (∃ o, H β = some o) ∧ ∃ o, H γ = some o
  congr : ∀ {st β γ H H'}, R st β γ H → H' β = H β → H' γ = H γ → R st β γ H'

structure Wd where
  β : Addr
  γ : Addr
def Wd.bx (W : Wd) (a : Addr) : Prop := a = W.β ∨ a = W.γ

def keyD : Key → D
  | .inl i => .int i
  | .inr x => .str x

/-! ### how data lies in a heap that stays as it is -/
/-- a tuple: tracked, or an object of the module -/
def TupAt (K : PySem.W.Frag) (Z : Hp) (a : Addr) (vs : List V) : Prop :=
  Z a = some (.tup vs) ∨ ∃ (o : Obj) (its : Array Value) (n : Nat), K.lookup a = some o ∧ o.cls = .type "tuple" ∧ o.data = .seq its n ∧ its.size ≤ sizeLine ∧ Vals vs its.toList
mutual
inductive Rep (K : PySem.W.Frag) (β : Addr) (Z : Hp) : D → V → Prop
  | non : Rep K β Z .non .non
  | bl (b : Bool) : Rep K β Z (.bl b) (.bl b)
  | int (i : Int) : Rep K β Z (.int i) (.int i)
  | str (x : Str) : Rep K β Z (.str x) (.str x)
  | box : Rep K β Z .box (.ref β)
  | tup {a : Addr} {vs : List V} {ds : List D} : TupAt K Z a vs → RepL K β Z ds vs → Rep K β Z (.tup ds) (.ref a)
  | lst {a : Addr} {vs : List V} {ds : List D} : Z a = some (.lst vs) → RepL K β Z ds vs → Rep K β Z (.lst ds) (.ref a)
  | dK {a : Addr} {kvs : List (Key × V)} {ds : List (D × D)} : Z a = some (.dK kvs) → RepK K β Z ds kvs → Rep K β Z (.dct ds) (.ref a)
  | dT {a : Addr} {kvs : List (List Key × V)} {ds : List (D × D)} : Z a = some (.dT kvs) → RepT K β Z ds kvs → Rep K β Z (.dct ds) (.ref a)
inductive RepL (K : PySem.W.Frag) (β : Addr) (Z : Hp) : List D → List V → Prop
  | nil : RepL K β Z [] []
  | cons {d : D} {v : V} {ds : List D} {vs : List V} : Rep K β Z d v → RepL K β Z ds vs → RepL K β Z (d :: ds) (v :: vs)
inductive RepK (K : PySem.W.Frag) (β : Addr) (Z : Hp) : List (D × D) → List (Key × V) → Prop
  | nil : RepK K β Z [] []
  | cons {k : Key} {d : D} {v : V} {ds : List (D × D)} {vs : List (Key × V)} : Rep K β Z d v → RepK K β Z ds vs → RepK K β Z ((keyD k, d) :: ds) ((k, v) :: vs)
inductive RepT (K : PySem.W.Frag) (β : Addr) (Z : Hp) : List (D × D) → List (List Key × V) → Prop
  | cons {k : List Key} {d : D} {v : V} {ds : List (D × D)} {vs : List (List Key × V)} : Rep K β Z d v → RepT K β Z ds vs → RepT K β Z ((.tup (k.map keyD), d) :: ds) ((k, v) :: vs)
end

def Sub (Z Z' : Hp) : Prop := ∀ a o, Z a = some o → Z' a = some o
theorem Sub.refl (Z : Hp) : Sub Z Z := fun _ _ h => h
theorem Sub.trans {Z Z1 Z2 : Hp} (h : Sub Z Z1) (g : Sub Z1 Z2) : Sub Z Z2 := fun a o e => g a o (h a o e)
theorem Sub.tupAt {K : PySem.W.Frag} {Z Z' : Hp} {a : Addr} {vs : List V} (s : Sub Z Z') (h : TupAt K Z a vs) : TupAt K Z' a vs := h.elim (fun h => .inl (s _ _ h)) .inr
theorem Sub.sqT {K : PySem.W.Frag} {Z Z' : Hp} {a : Addr} {vs : List V} (s : Sub Z Z') (h : TupAt K Z a vs) : SqT K Z' a vs := h.elim (fun h => .inl (.inl (s _ _ h))) .inr
theorem Sub.sqTT {K : PySem.W.Frag} {Z Z' : Hp} {a : Addr} {vs : List V} (s : Sub Z Z') (h : SqT K Z a vs) : SqT K Z' a vs := by
  rcases h with (h | ⟨o, h⟩) | h
  · exact .inl (.inl (s _ _ h))
  · exact .inl (.inr ⟨o, s _ _ h⟩)
  · exact .inr h
theorem Sub.sqL {K : PySem.W.Frag} {Z Z' : Hp} {a : Addr} {vs : List V} (s : Sub Z Z') (h : SqL K Z a vs) : SqL K Z' a vs := by
  rcases h with (h | ⟨o, h⟩) | h
  · exact .inl (.inl (s _ _ h))
  · exact .inl (.inr ⟨o, s _ _ h⟩)
  · exact .inr h

section
variable {K : PySem.W.Frag} {β : Addr} {Z Z' : Hp}
mutual
theorem Rep.mono (s : Sub Z Z') : ∀ {d : D} {v : V}, Rep K β Z d v → Rep K β Z' d v
  | _, _, .non => .non
  | _, _, .bl b => .bl b
  | _, _, .int i => .int i
  | _, _, .str x => .str x
  | _, _, .box => .box
  | _, _, .tup h r => .tup (s.tupAt h) (RepL.mono s r)
  | _, _, .lst h r => .lst (s _ _ h) (RepL.mono s r)
  | _, _, .dK h r => .dK (s _ _ h) (RepK.mono s r)
  | _, _, .dT h r => .dT (s _ _ h) (RepT.mono s r)
theorem RepL.mono (s : Sub Z Z') : ∀ {d : List D} {v : List V}, RepL K β Z d v → RepL K β Z' d v
  | _, _, .nil => .nil
  | _, _, .cons h r => .cons (Rep.mono s h) (RepL.mono s r)
theorem RepK.mono (s : Sub Z Z') : ∀ {d : List (D × D)} {v : List (Key × V)}, RepK K β Z d v → RepK K β Z' d v
  | _, _, .nil => .nil
  | _, _, .cons h r => .cons (Rep.mono s h) (RepK.mono s r)
theorem RepT.mono (s : Sub Z Z') : ∀ {d : List (D × D)} {v : List (List Key × V)}, RepT K β Z d v → RepT K β Z' d v
  | _, _, .cons h r => .cons (Rep.mono s h) (RepT.mono s r)
end
theorem RepL.length : ∀ {ds : List D} {vs : List V}, RepL K β Z ds vs → ds.length = vs.length
  | _, _, .nil => rfl
  | _, _, .cons _ r => by rw [List.length_cons, List.length_cons, RepL.length r]
theorem RepL.append : ∀ {ds es : List D} {vs us : List V}, RepL K β Z ds vs → RepL K β Z es us → RepL K β Z (ds ++ es) (vs ++ us)
  | _, _, _, _, .nil, s => s
  | _, _, _, _, .cons h r, s => .cons h (RepL.append r s)
theorem RepL.get : ∀ {ds : List D} {vs : List V} {i : Nat} {d : D}, RepL K β Z ds vs → ds[i]? = some d → ∃ v, vs[i]? = some v ∧ Rep K β Z d v
  | _, _, _, _, .nil, e => by simp at e
  | _, _, 0, _, .cons h _, e => by simp at e; subst e; exact ⟨_, rfl, h⟩
  | _, _, i + 1, d, .cons _ r, e => by
    obtain ⟨v, h1, h2⟩ := RepL.get (i := i) (d := d) r (by simpa using e)
    exact ⟨v, by simpa using h1, h2⟩
theorem RepL.get' : ∀ {ds : List D} {vs : List V} {i : Nat} {v : V}, RepL K β Z ds vs → vs[i]? = some v → ∃ d, ds[i]? = some d ∧ Rep K β Z d v
  | _, _, _, _, .nil, e => by simp at e
  | _, _, 0, _, .cons h _, e => by simp at e; subst e; exact ⟨_, rfl, h⟩
  | _, _, i + 1, d, .cons _ r, e => by
    obtain ⟨v, h1, h2⟩ := RepL.get' (i := i) (v := d) r (by simpa using e)
    exact ⟨v, by simpa using h1, h2⟩
theorem RepL.take : ∀ {ds : List D} {vs : List V} (n : Nat), RepL K β Z ds vs → RepL K β Z (ds.take n) (vs.take n)
  | _, _, 0, _ => .nil
  | _, _, _ + 1, .nil => .nil
  | _, _, n + 1, .cons h r => .cons h (RepL.take n r)
theorem RepL.drop : ∀ {ds : List D} {vs : List V} (n : Nat), RepL K β Z ds vs → RepL K β Z (ds.drop n) (vs.drop n)
  | _, _, 0, r => r
  | _, _, _ + 1, .nil => .nil
  | _, _, n + 1, .cons _ r => RepL.drop n r
theorem RepL.set {d : D} {v : V} (q : Rep K β Z d v) : ∀ {ds : List D} {vs : List V} (n : Nat), RepL K β Z ds vs → RepL K β Z (ds.set n d) (vs.set n v)
  | _, _, _, .nil => .nil
  | _, _, 0, .cons _ r => .cons q r
  | _, _, n + 1, .cons h r => .cons h (RepL.set q n r)
theorem RepL.erase : ∀ {ds : List D} {vs : List V} (n : Nat), RepL K β Z ds vs → RepL K β Z (ds.eraseIdx n) (vs.eraseIdx n)
  | _, _, _, .nil => .nil
  | _, _, 0, .cons _ r => r
  | _, _, n + 1, .cons h r => .cons h (RepL.erase n r)
theorem RepL.rev : ∀ {ds : List D} {vs : List V}, RepL K β Z ds vs → RepL K β Z ds.reverse vs.reverse
  | _, _, .nil => .nil
  | _, _, .cons h r => by rw [List.reverse_cons, List.reverse_cons]; exact (RepL.rev r).append (.cons h .nil)
end

/-- the outermost list or dict may be one that changes later -/
def Rep1 (K : PySem.W.Frag) (β : Addr) (Z H : Hp) (d : D) (v : V) : Prop :=
  match d with
  | .lst ds => ∃ a vs, v = .ref a ∧ H a = some (.lst vs) ∧ RepL K β Z ds vs
  | .dct ds => ∃ a, v = .ref a ∧ ((∃ kvs, H a = some (.dK kvs) ∧ RepK K β Z ds kvs) ∨ ∃ kvs, H a = some (.dT kvs) ∧ RepT K β Z ds kvs)
  | d => Rep K β Z d v
def isMut : D → Bool
  | .lst _ => true
  | .dct _ => true
  | _ => false
section
variable {K : PySem.W.Frag} {β : Addr} {Z Z' H H' : Hp}
theorem Rep.one {d : D} {v : V} (s : Sub Z H) (r : Rep K β Z d v) : Rep1 K β Z H d v := by
  cases d with
  | lst ds => cases r with | lst h r => exact ⟨_, _, rfl, s _ _ h, r⟩
  | dct ds => cases r with
    | dK h r => exact ⟨_, rfl, .inl ⟨_, s _ _ h, r⟩⟩
    | dT h r => exact ⟨_, rfl, .inr ⟨_, s _ _ h, r⟩⟩
  | _ => exact r
theorem Rep1.mono {d : D} {v : V} (s : Sub Z Z') (t : ∀ a, v = .ref a → ∀ o, H a = some o → H' a = some o) (r : Rep1 K β Z H d v) : Rep1 K β Z' H' d v := by
  cases d with
  | lst ds => obtain ⟨a, vs, rfl, h, r⟩ := r; exact ⟨a, vs, rfl, t a rfl _ h, r.mono s⟩
  | dct ds =>
    obtain ⟨a, rfl, ⟨kvs, h, r⟩ | ⟨kvs, h, r⟩⟩ := r
    · exact ⟨a, rfl, .inl ⟨kvs, t a rfl _ h, r.mono s⟩⟩
    · exact ⟨a, rfl, .inr ⟨kvs, t a rfl _ h, r.mono s⟩⟩
  | _ => exact Rep.mono s r
theorem Rep1.rep {d : D} {v : V} (r : Rep1 K β Z H d v) (s : ∀ a, v = .ref a → isMut d = true → Z a = H a) : Rep K β Z d v := by
  cases d with
  | lst ds => obtain ⟨a, vs, rfl, h, r⟩ := r; exact .lst ((s a rfl rfl).trans h) r
  | dct ds =>
    obtain ⟨a, rfl, ⟨kvs, h, r⟩ | ⟨kvs, h, r⟩⟩ := r
    · exact .dK ((s a rfl rfl).trans h) r
    · exact .dT ((s a rfl rfl).trans h) r
  | _ => exact r
end

/-! ### what is known of the slots -/
inductive En where
  | frz (d : D) | own (d : D)
abbrev SCx := List (Option En)
/-- slot i holds an own list or dict at a -/
def ownA (Γ : SCx) (σ : L2.St) (a : Addr) : Prop := ∃ (i : Nat) (d : D), Γ[i]? = some (some (En.own d)) ∧ σ[i]? = some (some (V.ref a))

/-- no list and no tuple is longer than the line -/
def Sz (H : Hp) : Prop := ∀ (a : Addr) (vs : List V), H a = some (.lst vs) ∨ H a = some (.tup vs) → vs.length ≤ sizeLine
def SzO : HO → Prop
  | .lst vs => vs.length ≤ sizeLine
  | .tup vs => vs.length ≤ sizeLine
  | _ => True
theorem Sz.upd {H : Hp} {p : Addr} {o : HO} (h : Sz H) (q : SzO o) : Sz (L2.upd H p o) := fun a vs hr => by
  by_cases e : a = p
  · subst e
    rcases hr with hr | hr <;> (rw [upd_same] at hr; cases hr; exact q)
  · rw [upd_ne e] at hr
    exact h a vs hr
theorem Sz.tup {K : PySem.W.Frag} {H : Hp} {a : Addr} {vs : List V} (h : Sz H) (q : TupAt K H a vs) : vs.length ≤ sizeLine := by
  rcases q with q | ⟨o, its, n, _, _, _, hz, r⟩
  · exact h a vs (.inr q)
  · have e := r.length
    simp only [Array.length_toList] at e
    omega
theorem Sz.lst {H : Hp} {a : Addr} {vs : List V} (h : Sz H) (q : H a = some (.lst vs)) : vs.length ≤ sizeLine := h a vs (.inl q)
structure SR {S : Type} [BoxS S] (K : PySem.W.Frag) (W : Wd) (Γ : SCx) (σ : L2.St) (Z H : Hp) (st : S) : Prop where
  ln : σ.length = Γ.length
  sz : Sz H
  box : BoxS.R st W.β W.γ H
  zh : ∀ a o, Z a = some o → H a = some o ∧ ¬ W.bx a
  frz : ∀ (i : Nat) (d : D), Γ[i]? = some (some (En.frz d)) → ∃ v, σ[i]? = some (some v) ∧ Rep K W.β Z d v
  own : ∀ (i : Nat) (d : D), Γ[i]? = some (some (En.own d)) → ∃ a, σ[i]? = some (some (V.ref a)) ∧ Z a = none ∧ ¬ W.bx a ∧ isMut d = true ∧ Rep1 K W.β Z H d (.ref a)
  dis : ∀ (i j : Nat) (d e : D) (a : Addr), Γ[i]? = some (some (En.own d)) → Γ[j]? = some (some (En.own e)) → σ[i]? = some (some (V.ref a)) → σ[j]? = some (some (V.ref a)) → i = j

/-- what an expression may do: new objects, the box -/
structure Stp (W : Wd) (Z H Z' H' : Hp) : Prop where
  zz : Sub Z Z'
  zh : ∀ a o, Z' a = some o → H' a = some o ∧ ¬ W.bx a
  hh : ∀ a o, H a = some o → ¬ W.bx a → H' a = some o
  nw : ∀ a o, Z' a = some o → Z a = some o ∨ H a = none
  sz : Sz H → Sz H'
section
variable {S : Type} [BoxS S] {K : PySem.W.Frag} {W : Wd} {Γ Γ' : SCx} {σ σ' : L2.St} {Z H Z' H' Z1 H1 Z2 H2 : Hp} {st st' : S}
theorem Stp.refl (zh : ∀ a o, Z a = some o → H a = some o ∧ ¬ W.bx a) : Stp W Z H Z H := ⟨Sub.refl _, zh, fun _ _ h _ => h, fun _ _ h => .inl h, id⟩
theorem Stp.trans (s : Stp W Z H Z1 H1) (t : Stp W Z1 H1 Z2 H2) : Stp W Z H Z2 H2 where
  zz := s.zz.trans t.zz
  zh := t.zh
  hh := fun a o h n => t.hh a o (s.hh a o h n) n
  nw := fun a o h => by
    rcases t.nw a o h with q | q
    · exact s.nw a o q
    · cases e : H a with
      | none => exact .inr rfl
      | some u =>
        have nb : ¬ W.bx a := (t.zh a o h).2
        rw [s.hh a u e nb] at q; cases q
  sz := fun h => t.sz (s.sz h)
theorem SR.refl (r : SR K W Γ σ Z H st) : Stp W Z H Z H := Stp.refl r.zh
theorem SR.sub (r : SR K W Γ σ Z H st) : Sub Z H := fun a o h => (r.zh a o h).1
theorem Stp.sub (r : Stp W Z H Z' H') : Sub Z' H' := fun a o h => (r.zh a o h).1
theorem BoxS.bxThere (r : BoxS.R st W.β W.γ H) {a : Addr} (h : H a = none) : ¬ W.bx a := fun q => by
  obtain ⟨⟨o, e1⟩, ⟨u, e2⟩⟩ := BoxS.there r
  rcases q with q | q
  · rw [q, e1] at h; cases h
  · rw [q, e2] at h; cases h
/-- behind an expression all slots stand as they stood -/
theorem SR.step (r : SR K W Γ σ Z H st) (s : Stp W Z H Z' H') (b : BoxS.R st' W.β W.γ H') : SR K W Γ σ Z' H' st' where
  ln := r.ln
  sz := s.sz r.sz
  box := b
  zh := s.zh
  frz := fun i d h => by
    obtain ⟨v, e, q⟩ := r.frz i d h
    exact ⟨v, e, q.mono s.zz⟩
  own := fun i d h => by
    obtain ⟨a, e, z, n, mu, q⟩ := r.own i d h
    have hx : ∃ o, H a = some o := by
      cases d with
      | lst ds => obtain ⟨b, vs, eb, h, _⟩ := q; cases eb; exact ⟨_, h⟩
      | dct ds =>
        obtain ⟨b, eb, ⟨kvs, h, _⟩ | ⟨kvs, h, _⟩⟩ := q
        · cases eb; exact ⟨_, h⟩
        · cases eb; exact ⟨_, h⟩
      | _ => cases mu
    refine ⟨a, e, ?_, n, mu, q.mono s.zz fun b eb o h => ?_⟩
    · cases q' : Z' a with
      | none => rfl
      | some o =>
        rcases s.nw a o q' with w | w
        · rw [z] at w; cases w
        · obtain ⟨o, ho⟩ := hx; rw [ho] at w; cases w
    · cases eb; exact s.hh _ o h n
  dis := r.dis
theorem SR.ownThere (r : SR K W Γ σ Z H st) {a : Addr} (h : ownA Γ σ a) : ∃ o, H a = some o := by
  obtain ⟨i, d, h1, h2⟩ := h
  obtain ⟨b, e, z, n, mu, q⟩ := r.own i d h1
  rw [h2] at e; cases e
  cases d with
  | lst ds => obtain ⟨b, vs, eb, h, _⟩ := q; cases eb; exact ⟨_, h⟩
  | dct ds =>
    obtain ⟨b, eb, ⟨kvs, h, _⟩ | ⟨kvs, h, _⟩⟩ := q
    · cases eb; exact ⟨_, h⟩
    · cases eb; exact ⟨_, h⟩
  | _ => cases mu
end
/-- a new object laid, frozen -/
theorem upd_get {H : Hp} {p a : Addr} {o u : HO} (h : upd H p o a = some u) : (a = p ∧ u = o) ∨ (a ≠ p ∧ H a = some u) := by
  by_cases e : a = p
  · subst e; rw [upd_same] at h; cases h; exact .inl ⟨rfl, rfl⟩
  · rw [upd_ne e] at h; exact .inr ⟨e, h⟩
theorem upd_none {H : Hp} {p a : Addr} {o u : HO} (n : H p = none) (h : H a = some u) : upd H p o a = some u := by
  rw [upd_ne (ne_of_none h n)]; exact h
section
variable {S : Type} [BoxS S] {W : Wd} {Z H : Hp} {st : S} {p : Addr} {o : HO}
theorem z_none (zh : ∀ a o, Z a = some o → H a = some o ∧ ¬ W.bx a) (n : H p = none) : Z p = none := by
  cases e : Z p with
  | none => rfl
  | some u => rw [(zh p u e).1] at n; cases n
/-- .. frozen at once -/
theorem Stp.layZ (zh : ∀ a o, Z a = some o → H a = some o ∧ ¬ W.bx a) (b : BoxS.R st W.β W.γ H) (n : H p = none) (so : SzO o) : Stp W Z H (upd Z p o) (upd H p o) where
  zz := fun a u h => upd_none (z_none zh n) h
  zh := fun a u h => by
    rcases upd_get h with ⟨rfl, rfl⟩ | ⟨e, h⟩
    · exact ⟨upd_same, BoxS.bxThere b n⟩
    · exact ⟨by rw [upd_ne e]; exact (zh a u h).1, (zh a u h).2⟩
  hh := fun a u h _ => upd_none n h
  nw := fun a u h => by
    rcases upd_get h with ⟨rfl, rfl⟩ | ⟨e, h⟩
    · exact .inr n
    · exact .inl h
  sz := fun h => h.upd so
/-- .. not frozen -/
theorem Stp.layH (zh : ∀ a o, Z a = some o → H a = some o ∧ ¬ W.bx a) (n : H p = none) (so : SzO o) : Stp W Z H Z (upd H p o) where
  zz := Sub.refl _
  zh := fun a u h => ⟨upd_none n (zh a u h).1, (zh a u h).2⟩
  hh := fun a u h _ => upd_none n h
  nw := fun a u h => .inl h
  sz := fun h => h.upd so
theorem box_lay (b : BoxS.R st W.β W.γ H) (n : H p = none) : BoxS.R st W.β W.γ (upd H p o) := by
  have q := BoxS.bxThere b n
  exact BoxS.congr b (upd_ne fun e => q (.inl e.symm)) (upd_ne fun e => q (.inr e.symm))
end
end Sn

namespace Sn
open PySem PySem.Spec PyProof.Rows L2

/-! ### contexts -/
structure Glob where
  P : Program
  w : World
  K : PySem.W.Frag
  mg : Str → Option Value
  base : Heap
/-- where the text stands: the def's slots, the scope, the level of calls -/
structure Stat where
  G : Glob
  N : List Str
  sc : Scope
  k : Nat
  fn : Str → Bool
structure CtxP (C : Stat) (X : Cx) : Prop where
  prog : X.prog = C.G.P
  w : X.w = C.G.w
  K : X.K = C.G.K
  mg : X.mg = C.G.mg
  base : X.base = C.G.base
  N : X.N = C.N
  sc : X.env.scope = C.sc
  nd : C.N.Nodup
  calm : X.calm = true
  room : Room C.k X.A
  xe : X.xe = fun _ _ => False
  fn : ∀ x, C.fn x = true → X.fn x = true
theorem CtxP.glob {C : Stat} {X : Cx} (h : CtxP C X) {x : Str} (g : C.sc.names.lookup x = some .globalImplicit) : Gl X x := by
  show X.env.scope.names.lookup x = _
  rw [h.sc]; exact g
theorem CtxP.none {C : Stat} {X : Cx} (h : CtxP C X) {x : Str} (g : C.G.mg x = none) : X.mg x = none := by rw [h.mg]; exact g
theorem CtxP.units {C : Stat} {X : Cx} (h : CtxP C X) : X.A.units + 65 < cLine := by have := h.room.un; omega

/-! ### the reading that any expression has -/
def tU (X : Cx) (e : Expr) : TE := fun σ H Q => ∀ (pins : List (Addr × Obj)) (s : Shared), Inv X pins σ H s → wpAny (model X.prog X.w) X.A (eval e X.env) (EP X pins σ Q) X.xe s
theorem peU {X : Cx} {e : Expr} : PE X e (tU X e) := ⟨fun pins s _ _ _ I h => h pins s I⟩
theorem tU_of {X : Cx} {e : Expr} {t : TE} {σ : L2.St} {H : Hp} {Q : VK} (h : PE X e t) (q : t σ H Q) : tU X e σ H Q := fun pins s I => h.run pins s σ H Q I q
def tUT (X : Cx) (e : Expr) : TT := fun σ H Q => ∀ (pins : List (Addr × Obj)) (s : Shared), Inv X pins σ H s → wpAny (model X.prog X.w) X.A (isTrue e X.env (eval e X.env)) (TP X pins σ Q) X.xe s
theorem ptU {X : Cx} {e : Expr} : PT X e (tUT X e) := ⟨fun pins s _ _ _ I h => h pins s I⟩
theorem tUT_of {X : Cx} {e : Expr} {t : TT} {σ : L2.St} {H : Hp} {Q : Bool → Hp → Prop} (h : PT X e t) (q : t σ H Q) : tUT X e σ H Q := fun pins s I => h.run pins s σ H Q I q
def tUW (X : Cx) (e : Expr) : TT := fun σ H Q => ∀ (whole : Sem Value) (pins : List (Addr × Obj)) (s : Shared), Inv X pins σ H s → wpAny (model X.prog X.w) X.A (isTrue e X.env whole) (TP X pins σ Q) X.xe s
theorem pwU {X : Cx} {e : Expr} : PW X e (tUW X e) := ⟨fun wh pins s _ _ _ I h => h wh pins s I⟩
theorem tUW_of {X : Cx} {e : Expr} {t : TT} {σ : L2.St} {H : Hp} {Q : Bool → Hp → Prop} (h : PW X e t) (q : t σ H Q) : tUW X e σ H Q := fun wh pins s I => h.run wh pins s σ H Q I q
def tUA (X : Cx) (es : List Expr) : TA := fun σ H Q => ∀ (pos : Pos) (pins : List (Addr × Obj)) (s : Shared), Inv X pins σ H s → wpAny (model X.prog X.w) X.A (spliced (backTo pos (starEach es X.env))) (AP X pins σ Q) X.xe s
theorem paU {X : Cx} {es : List Expr} : PA X es (tUA X es) := ⟨fun pos pins s _ _ _ I h => h pos pins s I⟩
theorem tUA_of {X : Cx} {es : List Expr} {t : TA} {σ : L2.St} {H : Hp} {Q : List V → Hp → Prop} (h : PA X es t) (q : t σ H Q) : tUA X es σ H Q := fun pos pins s I => h.run pos pins s σ H Q I q
def rU (X : Cx) (f : Value → Value → Sem Value) : R2 := fun x y H Q => ∀ (pins : List (Addr × Obj)) (s : Shared) (σ : L2.St) (v u : Value), Inv X pins σ H s → RelV x v → RelV y u → wpAny (model X.prog X.w) X.A (f v u) (EP X pins σ Q) X.xe s
theorem opU {X : Cx} {f : Value → Value → Sem Value} : OpR X f (rU X f) := fun pins s σ H x y v u Q I rx ry h => h pins s σ v u I rx ry
theorem rU_of {X : Cx} {f : Value → Value → Sem Value} {r : R2} {x y : V} {H : Hp} {Q : VK} (h : OpR X f r) (q : r x y H Q) : rU X f x y H Q := fun pins s σ v u I rx ry => h pins s σ H x y v u Q I rx ry q
def cU (X : Cx) (f : Value) : List V → Hp → VK → Prop := fun xs H Q => ∀ (pins : List (Addr × Obj)) (s : Shared) (σ : L2.St) (us : List Value), Inv X pins σ H s → Vals xs us → wpAny (model X.prog X.w) X.A (call f us) (EP X pins σ Q) X.xe s
theorem crU {X : Cx} {f : Value} : CallR X f (cU X f) := fun pins s σ H xs us Q I r h => h pins s σ us I r
theorem cU_of {X : Cx} {f : Value} {r : List V → Hp → VK → Prop} {xs : List V} {H : Hp} {Q : VK} (h : CallR X f r) (q : r xs H Q) : cU X f xs H Q := fun pins s σ us I rx => h pins s σ H xs us Q I rx q

/-! ### judgements -/
inductive Md where
  | E | V | N
  deriving DecidableEq
def Res (K : PySem.W.Frag) (W : Wd) (md : Md) (H Z' H' : Hp) (d : D) (v : V) : Prop :=
  match md with
  | .E => Rep K W.β Z' d v
  | .V => Rep1 K W.β Z' H' d v ∧ ∀ a, v = .ref a → isMut d = true → ¬ W.bx a
  | .N => Rep1 K W.β Z' H' d v ∧ ∀ a, v = .ref a → isMut d = true → H a = none ∧ Z' a = none ∧ ¬ W.bx a
section
variable {S : Type} [BoxS S] {K : PySem.W.Frag} {W : Wd} {Γ : SCx} {σ : L2.St} {H Z' H' Z2 H2 : Hp} {d : D} {v : V} {st st' : S}
theorem Res.view {md : Md} (r : Res K W md H Z' H' d v) (zh : ∀ a o, Z' a = some o → H' a = some o ∧ ¬ W.bx a) : Res K W .V H Z' H' d v := by
  cases md with
  | E =>
    refine ⟨Rep.one (fun a o h => (zh a o h).1) r, fun a e mu => ?_⟩
    subst e
    cases d with
    | lst ds => cases r with | lst h _ => exact (zh _ _ h).2
    | dct ds => cases r with
      | dK h _ => exact (zh _ _ h).2
      | dT h _ => exact (zh _ _ h).2
    | _ => cases mu
  | V => exact r
  | N => exact ⟨r.1, fun a e mu => (r.2 a e mu).2.2⟩
theorem Res.stp {md : Md} (r : Res K W md H Z' H' d v) (s : Stp W Z' H' Z2 H2) : Res K W md H Z2 H2 d v := by
  cases md with
  | E => exact Rep.mono s.zz r
  | V =>
    refine ⟨?_, r.2⟩
    by_cases mu : isMut d = true
    · exact r.1.mono s.zz fun a e o h => s.hh a o h (r.2 a e mu)
    · cases d with
      | lst ds => exact absurd rfl mu
      | dct ds => exact absurd rfl mu
      | _ => exact Rep.mono s.zz r.1
  | N =>
    refine ⟨?_, fun a e mu => ?_⟩
    · by_cases mu : isMut d = true
      · exact r.1.mono s.zz fun a e o h => s.hh a o h (r.2 a e mu).2.2
      · cases d with
        | lst ds => exact absurd rfl mu
        | dct ds => exact absurd rfl mu
        | _ => exact Rep.mono s.zz r.1
    · obtain ⟨q1, q2, q3⟩ := r.2 a e mu
      refine ⟨q1, ?_, q3⟩
      cases q : Z2 a with
      | none => rfl
      | some o =>
        rcases s.nw a o q with w | w
        · rw [q2] at w; cases w
        · subst e
          obtain ⟨q4, _⟩ := r
          cases d with
          | lst ds => obtain ⟨b, vs, eb, hb, _⟩ := q4; cases eb; rw [hb] at w; cases w
          | dct ds =>
            obtain ⟨b, eb, ⟨kvs, h, _⟩ | ⟨kvs, h, _⟩⟩ := q4
            · cases eb; rw [h] at w; cases w
            · cases eb; rw [h] at w; cases w
          | _ => cases mu
theorem fresh_back {Z H Z1 H1 : Hp} {a : Addr} (b : BoxS.R st W.β W.γ H) (b1 : BoxS.R st' W.β W.γ H1) (s : Stp W Z H Z1 H1) (n : H1 a = none) : H a = none := by
  have nb := BoxS.bxThere b1 n
  cases e : H a with
  | none => rfl
  | some o => rw [s.hh a o e nb] at n; cases n
theorem Res.back {md : Md} {Z H0 : Hp} (r : Res K W md H Z2 H2 d v) (b : BoxS.R st W.β W.γ H0) (b1 : BoxS.R st' W.β W.γ H) (s : Stp W Z H0 Z' H) : Res K W md H0 Z2 H2 d v := by
  cases md with
  | E => exact r
  | V => exact r
  | N => exact ⟨r.1, fun a e mu => ⟨fresh_back b b1 s (r.2 a e mu).1, (r.2 a e mu).2⟩⟩
end

/-- the expression e, where Γ is known of the slots, does what m says -/
def Ok {S : Type} [BoxS S] (md : Md) (C : Stat) (Γ : SCx) (e : Expr) (m : M S D) : Prop :=
  ∀ X, CtxP C X → ∀ (W : Wd) (σ : L2.St) (Z H : Hp) (st : S) (d : D) (st' : S) (Q : VK), SR X.K W Γ σ Z H st → m st = some (d, st') →
    (∀ v Z' H', Stp W Z H Z' H' → BoxS.R st' W.β W.γ H' → Res X.K W md H Z' H' d v → Q v H') → tU X e σ H Q
def OkT {S : Type} [BoxS S] (C : Stat) (Γ : SCx) (e : Expr) (m : M S Bool) : Prop :=
  ∀ X, CtxP C X → ∀ (W : Wd) (σ : L2.St) (Z H : Hp) (st : S) (d : Bool) (st' : S) (Q : Bool → Hp → Prop), SR X.K W Γ σ Z H st → m st = some (d, st') →
    (∀ Z' H', Stp W Z H Z' H' → BoxS.R st' W.β W.γ H' → Q d H') → tUT X e σ H Q
def OkW {S : Type} [BoxS S] (C : Stat) (Γ : SCx) (e : Expr) (m : M S Bool) : Prop :=
  ∀ X, CtxP C X → ∀ (W : Wd) (σ : L2.St) (Z H : Hp) (st : S) (d : Bool) (st' : S) (Q : Bool → Hp → Prop), SR X.K W Γ σ Z H st → m st = some (d, st') →
    (∀ Z' H', Stp W Z H Z' H' → BoxS.R st' W.β W.γ H' → Q d H') → tUW X e σ H Q
def ResL (K : PySem.W.Frag) (W : Wd) (mds : List Md) (H Z' H' : Hp) (ds : List D) (vs : List V) : Prop :=
  match mds, ds, vs with
  | [], [], [] => True
  | md :: mds, d :: ds, v :: vs => Res K W md H Z' H' d v ∧ ResL K W mds H Z' H' ds vs
  | _, _, _ => False
/-- arguments from the left -/
def OkA {S : Type} [BoxS S] (mds : List Md) (C : Stat) (Γ : SCx) (es : List Expr) (m : M S (List D)) : Prop :=
  ∀ X, CtxP C X → ∀ (W : Wd) (σ : L2.St) (Z H : Hp) (st : S) (ds : List D) (st' : S) (Q : List V → Hp → Prop), SR X.K W Γ σ Z H st → m st = some (ds, st') →
    (∀ vs Z' H', Stp W Z H Z' H' → BoxS.R st' W.β W.γ H' → ResL X.K W mds H Z' H' ds vs → Q vs H') → tUA X es σ H Q

section
variable {S : Type} [BoxS S] {C : Stat} {Γ : SCx} {e a b : Expr} {es : List Expr} {m ma mb : M S D} {md : Md} {pos : Pos}
theorem Ok.view (h : Ok md C Γ e m) : Ok .V C Γ e m := fun X hX W σ Z H st d st' Q r hm q =>
  h X hX W σ Z H st d st' Q r hm fun v Z' H' s b r' => q v Z' H' s b (r'.view s.zh)
/-- a new list is frozen -/
theorem Ok.frz (h : Ok .N C Γ e m) : Ok .E C Γ e m := fun X hX W σ Z H st d st' Q r hm q => by
  refine h X hX W σ Z H st d st' Q r hm fun v Z' H' s b r' => ?_
  by_cases mu : isMut d = true
  · have hv : ∃ a, v = .ref a := by
      obtain ⟨q4, _⟩ := r'
      cases d with
      | lst ds => obtain ⟨b, vs, eb, _⟩ := q4; exact ⟨b, eb⟩
      | dct ds => obtain ⟨b, eb, _⟩ := q4; exact ⟨b, eb⟩
      | _ => cases mu
    obtain ⟨p, rfl⟩ := hv
    obtain ⟨q1, q2, q3⟩ := r'.2 p rfl mu
    have hp : ∃ o, H' p = some o := by
      obtain ⟨q4, _⟩ := r'
      cases d with
      | lst ds => obtain ⟨b, vs, eb, hb, _⟩ := q4; cases eb; exact ⟨_, hb⟩
      | dct ds =>
        obtain ⟨b, eb, ⟨kvs, h, _⟩ | ⟨kvs, h, _⟩⟩ := q4
        · cases eb; exact ⟨_, h⟩
        · cases eb; exact ⟨_, h⟩
      | _ => cases mu
    obtain ⟨o, ho⟩ := hp
    have sz : Sub Z' (upd Z' p o) := fun a u h => upd_none q2 h
    refine q (.ref p) (upd Z' p o) H' ⟨s.zz.trans sz, fun a u h => ?_, s.hh, fun a u h => ?_, s.sz⟩ b ?_
    · rcases upd_get h with ⟨rfl, rfl⟩ | ⟨_, h⟩
      · exact ⟨ho, q3⟩
      · exact s.zh a u h
    · rcases upd_get h with ⟨rfl, rfl⟩ | ⟨_, h⟩
      · exact .inr q1
      · exact s.nw a u h
    · refine Rep1.rep (Z := upd Z' p o) (H := H') (r'.1.mono sz fun _ _ _ h => h) fun a ea _ => ?_
      cases ea
      rw [upd_same, ho]
  · refine q v Z' H' s b ?_
    have := r'.1
    cases d with
    | lst ds => exact absurd rfl mu
    | dct ds => exact absurd rfl mu
    | _ => exact this
theorem Ok.nil : OkA (S := S) [] C Γ [] (ret []) := fun X hX W σ Z H st d st' Q r hm q => by
  obtain ⟨rfl, rfl⟩ := ret_some hm
  exact tUA_of pa_nil (q [] Z H r.refl r.box trivial)
/-- not a starred one -/
def plainArg : Expr → Bool
  | .Starred _ _ => false
  | _ => true
theorem starEach_plain (env : Env) (h : plainArg e = true) : starEach (e :: es) env = (false, eval e env) :: starEach es env := by
  cases e <;> first | rfl | cases h
theorem ResL.stp {K : PySem.W.Frag} {W : Wd} {H Z' H' Z2 H2 : Hp} (s : Stp W Z' H' Z2 H2) : ∀ {mds : List Md} {ds : List D} {vs : List V}, ResL K W mds H Z' H' ds vs → ResL K W mds H Z2 H2 ds vs
  | [], [], [], _ => trivial
  | _ :: _, _ :: _, _ :: _, ⟨h, r⟩ => ⟨h.stp s, ResL.stp s r⟩
  | [], [], _ :: _, h => h.elim
  | [], _ :: _, _, h => h.elim
  | _ :: _, [], _, h => h.elim
  | _ :: _, _ :: _, [], h => h.elim
theorem ResL.back {K : PySem.W.Frag} {W : Wd} {st st' : S} {H H0 Z Z' Z2 H2 : Hp} (b : BoxS.R st W.β W.γ H0) (b1 : BoxS.R st' W.β W.γ H) (s : Stp W Z H0 Z' H) : ∀ {mds : List Md} {ds : List D} {vs : List V}, ResL K W mds H Z2 H2 ds vs → ResL K W mds H0 Z2 H2 ds vs
  | [], [], [], _ => trivial
  | _ :: _, _ :: _, _ :: _, ⟨h, r⟩ => ⟨h.back b b1 s, ResL.back b b1 s r⟩
  | [], [], _ :: _, h => h.elim
  | [], _ :: _, _, h => h.elim
  | _ :: _, [], _, h => h.elim
  | _ :: _, _ :: _, [], h => h.elim
theorem Ok.cons {mds : List Md} {mr : M S (List D)} (ha : Ok md C Γ e m) (hr : OkA mds C Γ es mr) (hp : plainArg e = true := by rfl) : OkA (md :: mds) C Γ (e :: es) (bnd m fun x => bnd mr fun xs => ret (x :: xs)) :=
  fun X hX W σ Z H st ds st' Q r hm q => by
  obtain ⟨x, st1, h1, hm_1⟩ := bnd_some hm
  obtain ⟨xs, st2, h2, hm_2⟩ := bnd_some hm_1
  obtain ⟨rfl, rfl⟩ := ret_some hm_2
  refine tUA_of (pa_cons peU paU (starEach_plain _ hp)) ?_
  refine ha X hX W σ Z H st x st1 _ r h1 fun v Z1 H1 s1 b1 r1 => ?_
  refine hr X hX W σ Z1 H1 st1 xs _ _ (r.step s1 b1) h2 fun vs Z2 H2 s2 b2 r2 => ?_
  exact q _ Z2 H2 (s1.trans s2) b2 ⟨r1.stp s2, r2.back r.box b1 s1⟩
/-- two operands -/
theorem Ok.two {mda mdb : Md} (ha : Ok mda C Γ a ma) (hb : Ok mdb C Γ b mb) {X : Cx} (hX : CtxP C X) {W : Wd} {σ : L2.St} {Z H : Hp} {st st1 st2 : S} {x y : D} {R : V → V → Hp → Prop}
    (r : SR X.K W Γ σ Z H st) (h1 : ma st = some (x, st1)) (h2 : mb st1 = some (y, st2))
    (q : ∀ vx vy Z2 H2, Stp W Z H Z2 H2 → BoxS.R st2 W.β W.γ H2 → Res X.K W mda H Z2 H2 x vx → Res X.K W mdb H Z2 H2 y vy → R vx vy H2) : tU X a σ H fun vx H1 => tU X b σ H1 fun vy H2 => R vx vy H2 := by
  refine ha X hX W σ Z H st x st1 _ r h1 fun v Z1 H1 s1 b1 r1 => ?_
  refine hb X hX W σ Z1 H1 st1 y _ _ (r.step s1 b1) h2 fun u Z2 H2 s2 b2 r2 => ?_
  exact q _ _ Z2 H2 (s1.trans s2) b2 (r1.stp s2) (r2.back r.box b1 s1)
end

/-! ### operations by data -/
def lift {S : Type} (o : Option D) : M S D := fun s => o.map fun d => (d, s)
theorem lift_some {S : Type} {o : Option D} {s s' : S} {d : D} (h : lift o s = some (d, s')) : o = some d ∧ s' = s := by
  unfold lift at h
  cases o with
  | none => cases h
  | some x => simp only [Option.map_some, Option.some.injEq, Prod.mk.injEq] at h; exact ⟨by rw [h.1], h.2.symm⟩
/-- an operation of two values: g says what it makes of data -/
def Op2 (C : Stat) (f : Value → Value → Sem Value) (g : D → D → Option D) : Prop :=
  ∀ X, CtxP C X → ∀ {S : Type} [BoxS S] (W : Wd) (Z H : Hp) (st : S) (x y : V) (dx dy d : D) (Q : VK), (∀ a o, Z a = some o → H a = some o ∧ ¬ W.bx a) → Sz H → BoxS.R st W.β W.γ H →
    Rep1 X.K W.β Z H dx x → Rep1 X.K W.β Z H dy y → g dx dy = some d →
    (∀ v Z' H', Stp W Z H Z' H' → BoxS.R st W.β W.γ H' → Res X.K W .N H Z' H' d v → Q v H') → rU X f x y H Q
/-- a call of a built-in by data -/
def OpL (C : Stat) (f : Value) (g : List D → Option D) : Prop :=
  ∀ X, CtxP C X → ∀ {S : Type} [BoxS S] (W : Wd) (Z H : Hp) (st : S) (xs : List V) (dxs : List D) (d : D) (Q : VK), (∀ a o, Z a = some o → H a = some o ∧ ¬ W.bx a) → Sz H → BoxS.R st W.β W.γ H →
    ResL X.K W (dxs.map fun _ => Md.V) H Z H dxs xs → g dxs = some d →
    (∀ v Z' H', Stp W Z H Z' H' → BoxS.R st W.β W.γ H' → Res X.K W .N H Z' H' d v → Q v H') → cU X f xs H Q
section
variable {S : Type} [BoxS S] {C : Stat} {Γ : SCx} {e a b c : Expr} {es : List Expr} {m ma mb mc : M S D} {md : Md} {pos : Pos}
theorem Ok.op {op : Operator} {g : D → D → Option D} (ho : Op2 C (binaryOp op) g) (ha : Ok .V C Γ a ma) (hb : Ok .V C Γ b mb) : Ok .N C Γ (.BinOp a op b pos) (bnd ma fun x => bnd mb fun y => lift (g x y)) :=
  fun X hX W σ Z H st d st' Q r hm q => by
  obtain ⟨x, st1, h1, hm_3⟩ := bnd_some hm
  obtain ⟨y, st2, h2, hm_4⟩ := bnd_some hm_3
  obtain ⟨hg, rfl⟩ := lift_some hm_4
  refine tU_of (pe_op opU peU peU) (Ok.two ha hb hX r h1 h2 fun vx vy Z2 H2 s2 b2 r1 r2 => ?_)
  exact ho X hX W Z2 H2 _ vx vy x y d Q s2.zh (s2.sz r.sz) b2 r1.1 r2.1 hg fun v Z' H' s' b' r' => q v Z' H' (s2.trans s') b' (r'.back r.box b2 s2)
theorem Ok.cmp {op : CmpOp} {g : D → D → Option D} (ho : Op2 C (compareOp op) g) (ha : Ok .V C Γ a ma) (hb : Ok .V C Γ b mb) (hm : behindInMarks op b = false := by rfl) : Ok .N C Γ (.Compare a [op] [b] pos) (bnd ma fun x => bnd mb fun y => lift (g x y)) :=
  fun X hX W σ Z H st d st' Q r hm' q => by
  obtain ⟨x, st1, h1, kk1⟩ := bnd_some hm'
  obtain ⟨y, st2, h2, kk2⟩ := bnd_some kk1
  obtain ⟨hg, rfl⟩ := lift_some kk2
  refine tU_of (pe_cmpR opU peU peU hm) (Ok.two ha hb hX r h1 h2 fun vx vy Z2 H2 s2 b2 r1 r2 => ?_)
  exact ho X hX W Z2 H2 _ vx vy x y d Q s2.zh (s2.sz r.sz) b2 r1.1 r2.1 hg fun v Z' H' s' b' r' => q v Z' H' (s2.trans s') b' (r'.back r.box b2 s2)
/-- what is a bool -/
def asB {S : Type} : D → M S Bool
  | .bl b => ret b
  | _ => stuck
theorem asB_some {d : D} {s s' : S} {b : Bool} (h : asB d s = some (b, s')) : d = .bl b ∧ s' = s := by
  cases d with
  | bl c => obtain ⟨rfl, rfl⟩ := ret_some h; exact ⟨rfl, rfl⟩
  | _ => exact (stuck_some (S := S) (α := Bool) (s := s) h).elim
theorem OkT.cmp {op : CmpOp} {g : D → D → Option D} (ho : Op2 C (compareOp op) g) (ha : Ok .V C Γ a ma) (hb : Ok .V C Γ b mb) (hm : behindInMarks op b = false := by rfl) : OkT C Γ (.Compare a [op] [b] pos) (bnd ma fun x => bnd mb fun y => bnd (lift (g x y)) asB) :=
  fun X hX W σ Z H st d st' Q r hm' q => by
  obtain ⟨x, st1, h1, kk3⟩ := bnd_some hm'
  obtain ⟨y, st2, h2, kk4⟩ := bnd_some kk3
  obtain ⟨z, st3, h3, kk5⟩ := bnd_some kk4
  obtain ⟨hg, rfl⟩ := lift_some h3
  obtain ⟨rfl, rfl⟩ := asB_some kk5
  refine tUT_of (pt_cmpR opU peU peU hm) (Ok.two ha hb hX r h1 h2 fun vx vy Z2 H2 s2 b2 r1 r2 => ?_)
  refine ho X hX W Z2 H2 _ vx vy x y _ _ s2.zh (s2.sz r.sz) b2 r1.1 r2.1 hg fun v Z' H' s' b' r' => ?_
  cases r'.1
  exact ⟨d, rfl, q Z' H' (s2.trans s') b'⟩
/-- a chain of two comparisons -/
theorem Ok.chain {op op' : CmpOp} {g g' : D → D → Option D} (ho : Op2 C (compareOp op) g) (ho' : Op2 C (compareOp op') g') (ha : Ok .V C Γ a ma) (hb : Ok .V C Γ b mb) (hc : Ok .V C Γ c mc) (hm : lastMarks [op, op'] [b, c] = false := by with_unfolding_all rfl) :
    Ok .N C Γ (.Compare a [op, op'] [b, c] pos) (bnd ma fun x => bnd mb fun y => bnd (bnd (lift (g x y)) asB) fun t => if t = true then bnd mc fun z => lift (g' y z) else ret (.bl false)) :=
  fun X hX W σ Z H st d st' Q r hm' q => by
  obtain ⟨x, st1, h1, kk6⟩ := bnd_some hm'
  obtain ⟨y, st2, h2, kk7⟩ := bnd_some kk6
  obtain ⟨t, st3, h3, kk8⟩ := bnd_some kk7
  obtain ⟨z, st4, h4, h3_5⟩ := bnd_some h3
  obtain ⟨hg, rfl⟩ := lift_some h4
  obtain ⟨rfl, rfl⟩ := asB_some h3_5
  refine tU_of (pe_chain opU opU peU peU peU hm) (Ok.two ha hb hX r h1 h2 fun vx vy Z2 H2 s2 b2 r1 r2 => ?_)
  refine ho X hX W Z2 H2 _ vx vy x y _ _ s2.zh (s2.sz r.sz) b2 r1.1 r2.1 hg fun v Z3 H3 s3 b3 r3 => ?_
  cases r3.1
  refine ⟨t, rfl, ?_⟩
  have s23 := s2.trans s3
  cases t with
  | false =>
    rw [if_neg Bool.false_ne_true] at kk8 ⊢
    obtain ⟨rfl, rfl⟩ := ret_some kk8
    exact q _ Z3 H3 s23 b3 ⟨.bl false, fun a e => nomatch e⟩
  | true =>
    rw [if_pos rfl] at kk8 ⊢
    obtain ⟨z, st5, h5, kk9⟩ := bnd_some kk8
    obtain ⟨hg', rfl⟩ := lift_some kk9
    refine hc X hX W σ Z3 H3 _ z _ _ (r.step s23 b3) h5 fun vz Z4 H4 s4 b4 r4 => ?_
    have s24 := s23.trans s4
    exact ho' X hX W Z4 H4 _ vy vz y z d Q s24.zh (s24.sz r.sz) b4 ((r2.stp s3).stp s4).1 r4.1 hg' fun v Z' H' s' b' r' => q v Z' H' (s24.trans s') b' (r'.back r.box b4 s24)
theorem OkT.chain {op op' : CmpOp} {g g' : D → D → Option D} (ho : Op2 C (compareOp op) g) (ho' : Op2 C (compareOp op') g') (ha : Ok .V C Γ a ma) (hb : Ok .V C Γ b mb) (hc : Ok .V C Γ c mc) (hm : lastMarks [op, op'] [b, c] = false := by with_unfolding_all rfl) :
    OkT C Γ (.Compare a [op, op'] [b, c] pos) (bnd ma fun x => bnd mb fun y => bnd (bnd (lift (g x y)) asB) fun t => if t = true then bnd mc fun z => bnd (lift (g' y z)) asB else ret false) :=
  fun X hX W σ Z H st d st' Q r hm' q => by
  obtain ⟨x, st1, h1, kk10⟩ := bnd_some hm'
  obtain ⟨y, st2, h2, kk11⟩ := bnd_some kk10
  obtain ⟨t, st3, h3, kk12⟩ := bnd_some kk11
  obtain ⟨z, st4, h4, h3_6⟩ := bnd_some h3
  obtain ⟨hg, rfl⟩ := lift_some h4
  obtain ⟨rfl, rfl⟩ := asB_some h3_6
  refine tUT_of (pt_chain opU opU peU peU peU hm) (Ok.two ha hb hX r h1 h2 fun vx vy Z2 H2 s2 b2 r1 r2 => ?_)
  refine ho X hX W Z2 H2 _ vx vy x y _ _ s2.zh (s2.sz r.sz) b2 r1.1 r2.1 hg fun v Z3 H3 s3 b3 r3 => ?_
  cases r3.1
  refine ⟨t, rfl, ?_⟩
  have s23 := s2.trans s3
  cases t with
  | false =>
    rw [if_neg Bool.false_ne_true] at kk12 ⊢
    obtain ⟨rfl, rfl⟩ := ret_some kk12
    exact ⟨false, rfl, q Z3 H3 s23 b3⟩
  | true =>
    rw [if_pos rfl] at kk12 ⊢
    obtain ⟨z, st5, h5, kk13⟩ := bnd_some kk12
    obtain ⟨w, st6, h6, kk14⟩ := bnd_some kk13
    obtain ⟨hg', rfl⟩ := lift_some h6
    obtain ⟨rfl, rfl⟩ := asB_some kk14
    refine hc X hX W σ Z3 H3 _ z _ _ (r.step s23 b3) h5 fun vz Z4 H4 s4 b4 r4 => ?_
    have s24 := s23.trans s4
    refine ho' X hX W Z4 H4 _ vy vz y z _ _ s24.zh (s24.sz r.sz) b4 ((r2.stp s3).stp s4).1 r4.1 hg' fun v Z' H' s' b' r' => ?_
    cases r'.1
    exact ⟨d, rfl, q Z' H' (s24.trans s') b'⟩
/-! ### names, constants -/
theorem Ok.var {i : Nat} {x : Str} {d : D} (hN : C.N[i]? = some x) (hv : Vis C.sc x) (hg : Γ[i]? = some (some (.frz d))) (hd : (x == ("__debug__" : Str)) = false := by decide) (hcd : (x == ("__classdict__" : Str)) = false := by decide) : Ok (S := S) .E C Γ (.Name x pos) (ret d) :=
  fun X hX W σ Z H st d' st' Q r hm q => by
  obtain ⟨rfl, rfl⟩ := ret_some hm
  obtain ⟨v, e, rv⟩ := r.frz i _ hg
  exact tU_of (pe_var (by rw [hX.N]; exact hN) (by rw [hX.sc]; exact hv) hd hcd) ⟨v, e, q v Z H r.refl r.box rv⟩
theorem Ok.own {i : Nat} {x : Str} {d : D} (hN : C.N[i]? = some x) (hv : Vis C.sc x) (hg : Γ[i]? = some (some (.own d))) (hd : (x == ("__debug__" : Str)) = false := by decide) (hcd : (x == ("__classdict__" : Str)) = false := by decide) : Ok (S := S) .V C Γ (.Name x pos) (ret d) :=
  fun X hX W σ Z H st d' st' Q r hm q => by
  obtain ⟨rfl, rfl⟩ := ret_some hm
  obtain ⟨a, e, z, n, mu, rv⟩ := r.own i _ hg
  exact tU_of (pe_var (by rw [hX.N]; exact hN) (by rw [hX.sc]; exact hv) hd hcd) ⟨_, e, q _ Z H r.refl r.box ⟨rv, fun b eb _ => by cases eb; exact n⟩⟩
theorem Ok.int {i : Int} {j} : Ok (S := S) .E C Γ (.Constant (.int i) j pos) (ret (.int i)) := fun X hX W σ Z H st d' st' Q r hm q => by
  obtain ⟨rfl, rfl⟩ := ret_some hm
  exact tU_of pe_int (q _ Z H r.refl r.box (.int i))
theorem Ok.bl {i : Bool} {j} : Ok (S := S) .E C Γ (.Constant (.bool i) j pos) (ret (.bl i)) := fun X hX W σ Z H st d' st' Q r hm q => by
  obtain ⟨rfl, rfl⟩ := ret_some hm
  exact tU_of pe_bl (q _ Z H r.refl r.box (.bl i))
theorem Ok.non {j} : Ok (S := S) .E C Γ (.Constant .none j pos) (ret .non) := fun X hX W σ Z H st d' st' Q r hm q => by
  obtain ⟨rfl, rfl⟩ := ret_some hm
  exact tU_of pe_non (q _ Z H r.refl r.box .non)
theorem Ok.str {x : Str} {j} : Ok (S := S) .E C Γ (.Constant (.str x) j pos) (ret (.str x)) := fun X hX W σ Z H st d' st' Q r hm q => by
  obtain ⟨rfl, rfl⟩ := ret_some hm
  exact tU_of pe_str (q _ Z H r.refl r.box (.str x))
/-- a constant of the module: an int or a text -/
theorem Ok.cint {x : Str} {i : Int} {t : Tok} (hg : C.sc.names.lookup x = some .globalImplicit) (hm : C.G.mg x = some (.int i t)) (hd : (x == ("__debug__" : Str)) = false := by decide) : Ok (S := S) .E C Γ (.Name x pos) (ret (.int i)) := fun X hX W σ Z H st d' st' Q r hm' q => by
  obtain ⟨rfl, rfl⟩ := ret_some hm'
  exact tU_of (pe_glob (v := .int i) (hX.glob hg) (by rw [hX.mg]; exact hm) ⟨t, rfl⟩ hd) (q _ Z H r.refl r.box (.int i))
theorem Ok.cstr {x y : Str} {t : Tok} (hg : C.sc.names.lookup x = some .globalImplicit) (hm : C.G.mg x = some (.str y t)) (hd : (x == ("__debug__" : Str)) = false := by decide) : Ok (S := S) .E C Γ (.Name x pos) (ret (.str y)) := fun X hX W σ Z H st d' st' Q r hm' q => by
  obtain ⟨rfl, rfl⟩ := ret_some hm'
  exact tU_of (pe_glob (v := .str y) (hX.glob hg) (by rw [hX.mg]; exact hm) ⟨t, rfl⟩ hd) (q _ Z H r.refl r.box (.str y))
/-! ### tuples and lists written out -/
theorem ResL.E_repL {K : PySem.W.Frag} {W : Wd} {H Z' H' : Hp} : ∀ {ds : List D} {vs : List V} {mds : List Md}, (∀ md ∈ mds, md = Md.E) → ResL K W mds H Z' H' ds vs → RepL K W.β Z' ds vs
  | [], [], [], _, _ => .nil
  | d :: ds, v :: vs, md :: mds, hE, ⟨h, r⟩ => by
    have e := hE md List.mem_cons_self
    subst e
    exact .cons h (ResL.E_repL (fun m hm => hE m (List.mem_cons_of_mem _ hm)) r)
  | [], [], _ :: _, _, h => h.elim
  | [], _ :: _, [], _, h => h.elim
  | [], _ :: _, _ :: _, _, h => h.elim
  | _ :: _, [], [], _, h => h.elim
  | _ :: _, [], _ :: _, _, h => h.elim
  | _ :: _, _ :: _, [], _, h => h.elim
def tupD (ds : List D) : Option D := if ds.length ≤ sizeLine then some (.tup ds) else none
def lstD (ds : List D) : Option D := if ds.length ≤ sizeLine then some (.lst ds) else none
theorem tupD_some {ds : List D} {d : D} (h : tupD ds = some d) : ds.length ≤ sizeLine ∧ d = .tup ds := by
  unfold tupD at h
  split at h
  · cases h; exact ⟨by assumption, rfl⟩
  · cases h
theorem lstD_some {ds : List D} {d : D} (h : lstD ds = some d) : ds.length ≤ sizeLine ∧ d = .lst ds := by
  unfold lstD at h
  split at h
  · cases h; exact ⟨by assumption, rfl⟩
  · cases h
theorem Ok.tup {mds : List Md} {mr : M S (List D)} {x1} (hr : OkA mds C Γ es mr) (hE : ∀ md ∈ mds, md = Md.E := by decide) : Ok .E C Γ (.Tuple es x1 pos) (bnd mr fun xs => lift (tupD xs)) := fun X hX W σ Z H st d st' Q r hm q => by
  obtain ⟨xs, st1, h1, hm_7⟩ := bnd_some hm
  obtain ⟨hg, rfl⟩ := lift_some hm_7
  obtain ⟨hl, rfl⟩ := tupD_some hg
  refine tU_of (pe_tup paU) (hr X hX W σ Z H st xs _ _ r h1 fun vs Z1 H1 s1 b1 r1 => ?_)
  have rl := ResL.E_repL hE r1
  refine ⟨by rw [← rl.length]; exact hl, fun p hp => ?_⟩
  have hl' : vs.length ≤ sizeLine := by rw [← rl.length]; exact hl
  have s2 := Stp.layZ (o := .tup vs) s1.zh b1 hp hl'
  exact q _ _ _ (s1.trans s2) (box_lay b1 hp) (.tup (.inl upd_same) (rl.mono s2.zz))
theorem Ok.lst {mds : List Md} {mr : M S (List D)} (hr : OkA mds C Γ es mr) (hE : ∀ md ∈ mds, md = Md.E := by decide) : Ok .N C Γ (.List es pos) (bnd mr fun xs => lift (lstD xs)) := fun X hX W σ Z H st d st' Q r hm q => by
  obtain ⟨xs, st1, h1, hm_8⟩ := bnd_some hm
  obtain ⟨hg, rfl⟩ := lift_some hm_8
  obtain ⟨hl, rfl⟩ := lstD_some hg
  refine tU_of (pe_lst paU) (hr X hX W σ Z H st xs _ _ r h1 fun vs Z1 H1 s1 b1 r1 => ?_)
  have rl := ResL.E_repL hE r1
  refine ⟨by rw [← rl.length]; exact hl, fun p hp => ?_⟩
  have hl' : vs.length ≤ sizeLine := by rw [← rl.length]; exact hl
  have s2 := Stp.layH (o := .lst vs) s1.zh hp hl'
  refine q _ _ _ (s1.trans s2) (box_lay b1 hp) ⟨⟨p, vs, rfl, upd_same, rl⟩, fun a e _ => ?_⟩
  cases e
  exact ⟨fresh_back r.box b1 s1 hp, z_none s1.zh hp, BoxS.bxThere b1 hp⟩
/-! ### truth, and, or, not, if -/
def truD : D → Option Bool
  | .non => some false
  | .bl b => some b
  | .int i => some (i != 0)
  | .str x => if x.length ≤ sizeLine then some ((x.length : Int) != 0) else none
  | .tup xs => some (!xs.isEmpty)
  | .lst xs => some (!xs.isEmpty)
  | _ => none
def truM {S : Type} (d : D) : M S Bool := fun s => (truD d).map fun b => (b, s)
theorem truM_some {d : D} {s s' : S} {b : Bool} (h : truM d s = some (b, s')) : truD d = some b ∧ s' = s := by
  unfold truM at h
  cases e : truD d with
  | none => rw [e] at h; cases h
  | some x => rw [e] at h; simp only [Option.map_some, Option.some.injEq, Prod.mk.injEq] at h; exact ⟨by rw [h.1], h.2.symm⟩
theorem isEmpty_len {α β : Type} {xs : List α} {ys : List β} (h : xs.length = ys.length) : xs.isEmpty = ys.isEmpty := by
  cases xs <;> cases ys <;> first | rfl | (simp at h)
theorem truV_of {K : PySem.W.Frag} {W : Wd} {Z H : Hp} {d : D} {v : V} {b : Bool} (sz : Sub Z H) (r : Rep1 K W.β Z H d v) (h : truD d = some b) : TruV K v H b := by
  cases d with
  | non => cases r; cases h; rfl
  | bl c => cases r; cases h; rfl
  | int i => cases r; cases h; rfl
  | str x =>
    cases r
    have h' : (if x.length ≤ sizeLine then some ((x.length : Int) != 0) else none) = some b := h
    split at h'
    · cases h'; exact ⟨by assumption, rfl⟩
    · cases h'
  | tup xs => cases r with | tup hq rl => cases h; exact .inr (.inl ⟨_, sz.sqT hq, by rw [isEmpty_len rl.length]⟩)
  | lst xs =>
    obtain ⟨a, vs, rfl, ha, rl⟩ := r
    cases h
    exact .inl ⟨vs, .inl (.inl ha), by rw [isEmpty_len rl.length]⟩
  | dct xs => cases h
  | box => cases h
theorem OkT.val (ha : Ok .V C Γ a ma) (he : ∀ (env : Env) whole, isTrue a env whole = (do let v ← whole; standAt a.pos; holding [v] (truthy v)) := by intros; rfl) : OkT C Γ a (bnd ma truM) := fun X hX W σ Z H st d st' Q r hm q => by
  obtain ⟨x, st1, h1, hm_9⟩ := bnd_some hm
  obtain ⟨hg, rfl⟩ := truM_some hm_9
  refine tUT_of (pt_truth peU (he _)) (ha X hX W σ Z H st x _ _ r h1 fun v Z1 H1 s1 b1 r1 => ?_)
  exact ⟨d, truV_of s1.sub r1.1 hg, q Z1 H1 s1 b1⟩
theorem OkT.not {n : M S Bool} (ha : OkT C Γ a n) : OkT C Γ (.UnaryOp .Not a pos) (bnd n fun b => ret (!b)) := fun X hX W σ Z H st d st' Q r hm q => by
  obtain ⟨x, st1, h1, hm_10⟩ := bnd_some hm
  obtain ⟨rfl, rfl⟩ := ret_some hm_10
  exact tUT_of (pt_not ptU) (ha X hX W σ Z H st x _ _ r h1 fun Z1 H1 s1 b1 => q Z1 H1 s1 b1)
theorem OkW.pt {n : M S Bool} (h : OkW C Γ e n) : OkT C Γ e n := fun X hX W σ Z H st d st' Q r hm q => fun pins s I => h X hX W σ Z H st d st' Q r hm q _ pins s I
theorem OkW.and1 {n : M S Bool} (h : OkT C Γ a n) : OkW C Γ (.BoolOp .And [a] pos) n := fun X hX W σ Z H st d st' Q r hm q => tUW_of (pw_and1 ptU) (h X hX W σ Z H st d st' Q r hm q)
theorem OkW.or1 {n : M S Bool} (h : OkT C Γ a n) : OkW C Γ (.BoolOp .Or [a] pos) n := fun X hX W σ Z H st d st' Q r hm q => tUW_of (pw_or1 ptU) (h X hX W σ Z H st d st' Q r hm q)
theorem OkW.and {n k : M S Bool} (h : OkT C Γ a n) (hr : OkW C Γ (.BoolOp .And (b :: es) pos) k) : OkW C Γ (.BoolOp .And (a :: b :: es) pos) (bnd n fun t => if t = true then k else ret false) := fun X hX W σ Z H st d st' Q r hm q => by
  obtain ⟨t, st1, h1, hm_11⟩ := bnd_some hm
  refine tUW_of (pw_and ptU pwU) (h X hX W σ Z H st t _ _ r h1 fun Z1 H1 s1 b1 => ?_)
  cases t with
  | true => exact hr X hX W σ Z1 H1 st1 d st' Q (r.step s1 b1) hm_11 fun Z2 H2 s2 b2 => q Z2 H2 (s1.trans s2) b2
  | false =>
    rw [if_neg Bool.false_ne_true] at hm_11 ⊢
    obtain ⟨rfl, rfl⟩ := ret_some hm_11
    exact q Z1 H1 s1 b1
theorem OkW.or {n k : M S Bool} (h : OkT C Γ a n) (hr : OkW C Γ (.BoolOp .Or (b :: es) pos) k) : OkW C Γ (.BoolOp .Or (a :: b :: es) pos) (bnd n fun t => if t = true then ret true else k) := fun X hX W σ Z H st d st' Q r hm q => by
  obtain ⟨t, st1, h1, hm_12⟩ := bnd_some hm
  refine tUW_of (pw_or ptU pwU) (h X hX W σ Z H st t _ _ r h1 fun Z1 H1 s1 b1 => ?_)
  cases t with
  | false => exact hr X hX W σ Z1 H1 st1 d st' Q (r.step s1 b1) hm_12 fun Z2 H2 s2 b2 => q Z2 H2 (s1.trans s2) b2
  | true =>
    rw [if_pos rfl] at hm_12 ⊢
    obtain ⟨rfl, rfl⟩ := ret_some hm_12
    exact q Z1 H1 s1 b1
/-- as values -/
theorem Ok.one {op} (h : Ok md C Γ a ma) : Ok md C Γ (.BoolOp op [a] pos) ma := fun X hX W σ Z H st d st' Q r hm q => tU_of (pe_one peU) (h X hX W σ Z H st d st' Q r hm q)
theorem Ok.and (h : Ok .V C Γ a ma) (hr : Ok md C Γ (.BoolOp .And (b :: es) pos) mb) (hmd : md = .E ∨ md = .N := by first | exact Or.inl rfl | exact Or.inr rfl) : Ok md C Γ (.BoolOp .And (a :: b :: es) pos) (bnd (bnd ma asB) fun t => if t = true then mb else ret (.bl false)) := fun X hX W σ Z H st d st' Q r hm q => by
  obtain ⟨t, st1, h1, hm_13⟩ := bnd_some hm
  obtain ⟨x, st2, h2, h1_14⟩ := bnd_some h1
  obtain ⟨rfl, rfl⟩ := asB_some h1_14
  refine tU_of (pe_and peU peU) (h X hX W σ Z H st _ _ _ r h2 fun v Z1 H1 s1 b1 r1 => ?_)
  cases r1.1
  refine ⟨t, rfl, ?_⟩
  cases t with
  | true => exact hr X hX W σ Z1 H1 _ d st' Q (r.step s1 b1) hm_13 fun v Z2 H2 s2 b2 r2 => q v Z2 H2 (s1.trans s2) b2 (r2.back r.box b1 s1)
  | false =>
    rw [if_neg Bool.false_ne_true] at hm_13 ⊢
    obtain ⟨rfl, rfl⟩ := ret_some hm_13
    refine q _ Z1 H1 s1 b1 ?_
    rcases hmd with rfl | rfl
    · exact .bl false
    · exact ⟨.bl false, fun _ e => nomatch e⟩
theorem Ok.or (h : Ok .V C Γ a ma) (hr : Ok md C Γ (.BoolOp .Or (b :: es) pos) mb) (hmd : md = .E ∨ md = .N := by first | exact Or.inl rfl | exact Or.inr rfl) : Ok md C Γ (.BoolOp .Or (a :: b :: es) pos) (bnd (bnd ma asB) fun t => if t = true then ret (.bl true) else mb) := fun X hX W σ Z H st d st' Q r hm q => by
  obtain ⟨t, st1, h1, hm_15⟩ := bnd_some hm
  obtain ⟨x, st2, h2, h1_16⟩ := bnd_some h1
  obtain ⟨rfl, rfl⟩ := asB_some h1_16
  refine tU_of (pe_or peU peU) (h X hX W σ Z H st _ _ _ r h2 fun v Z1 H1 s1 b1 r1 => ?_)
  cases r1.1
  refine ⟨t, rfl, ?_⟩
  cases t with
  | false => exact hr X hX W σ Z1 H1 _ d st' Q (r.step s1 b1) hm_15 fun v Z2 H2 s2 b2 r2 => q v Z2 H2 (s1.trans s2) b2 (r2.back r.box b1 s1)
  | true =>
    rw [if_pos rfl] at hm_15 ⊢
    obtain ⟨rfl, rfl⟩ := ret_some hm_15
    refine q _ Z1 H1 s1 b1 ?_
    rcases hmd with rfl | rfl
    · exact .bl true
    · exact ⟨.bl true, fun _ e => nomatch e⟩
theorem Ok.not (h : Ok .V C Γ a ma) : Ok .E C Γ (.UnaryOp .Not a pos) (bnd (bnd ma truM) fun t => ret (.bl (!t))) := fun X hX W σ Z H st d st' Q r hm q => by
  obtain ⟨t, st1, h1, hm_17⟩ := bnd_some hm
  obtain ⟨x, st2, h2, h1_18⟩ := bnd_some h1
  obtain ⟨ht, rfl⟩ := truM_some h1_18
  obtain ⟨rfl, rfl⟩ := ret_some hm_17
  refine tU_of (pe_notT peU) (h X hX W σ Z H st _ _ _ r h2 fun v Z1 H1 s1 b1 r1 => ?_)
  exact ⟨t, truV_of s1.sub r1.1 ht, q _ Z1 H1 s1 b1 (.bl _)⟩
theorem Ok.neg (h : Ok .V C Γ a ma) : Ok .E C Γ (.UnaryOp .USub a pos) (bnd ma fun x => lift (match x with | .int i => some (.int (-i)) | _ => none)) := fun X hX W σ Z H st d st' Q r hm q => by
  obtain ⟨x, st1, h1, hm_19⟩ := bnd_some hm
  obtain ⟨ht, rfl⟩ := lift_some hm_19
  refine tU_of (pe_un un_neg peU) (h X hX W σ Z H st _ _ _ r h1 fun v Z1 H1 s1 b1 r1 => ?_)
  cases x with
  | int i => cases r1.1; cases ht; exact ⟨i, rfl, q _ Z1 H1 s1 b1 (.int _)⟩
  | _ => cases ht
theorem Ok.ife {n : M S Bool} (hc : OkT C Γ c n) (ha : Ok md C Γ a ma) (hb : Ok md C Γ b mb) : Ok md C Γ (.IfExp c a b pos) (bnd n fun t => if t = true then ma else mb) := fun X hX W σ Z H st d st' Q r hm q => by
  obtain ⟨t, st1, h1, hm_20⟩ := bnd_some hm
  refine tU_of (pe_ifExp ptU peU peU) (hc X hX W σ Z H st _ _ _ r h1 fun Z1 H1 s1 b1 => ?_)
  cases t with
  | true => exact ha X hX W σ Z1 H1 _ d st' Q (r.step s1 b1) hm_20 fun v Z2 H2 s2 b2 r2 => q v Z2 H2 (s1.trans s2) b2 (r2.back r.box b1 s1)
  | false => exact hb X hX W σ Z1 H1 _ d st' Q (r.step s1 b1) hm_20 fun v Z2 H2 s2 b2 r2 => q v Z2 H2 (s1.trans s2) b2 (r2.back r.box b1 s1)
end
end Sn

namespace Sn
open PySem PySem.Spec PyProof.Rows L2

def tUS (X : Cx) (ss : List Stmt) : TS := fun D σ H => ∀ (pins : List (Addr × Obj)) (s : Shared), Inv X pins σ H s → wpAny (model X.prog X.w) X.A (execs ss X.env) (SP X pins D) X.xe s
theorem pssU {X : Cx} {ss : List Stmt} : PSs X ss (tUS X ss) := ⟨fun pins s _ _ _ I h => h pins s I⟩
theorem tUS_of {X : Cx} {ss : List Stmt} {t : TS} {σ : L2.St} {H : Hp} {D : Ends} (h : PSs X ss t) (q : t D σ H) : tUS X ss D σ H := fun pins s I => h.run pins s σ H D I q
def tUG (X : Cx) (tg : Expr) : TG := fun v σ H Q => ∀ (pins : List (Addr × Obj)) (s : Shared) (u : Value), Inv X pins σ H s → RelV v u → wpAny (model X.prog X.w) X.A (assign tg X.env u) (fun _ s' => ∃ σ' H', Inv X pins σ' H' s' ∧ Q σ' H') X.xe s
theorem pgU {X : Cx} {tg : Expr} : PG X tg (tUG X tg) := ⟨fun pins s _ _ _ u _ I r h => h pins s u I r⟩
theorem tUG_of {X : Cx} {tg : Expr} {t : TG} {v : V} {σ : L2.St} {H : Hp} {Q : L2.St → Hp → Prop} (h : PG X tg t) (q : t v σ H Q) : tUG X tg v σ H Q := fun pins s u I r => h.run pins s σ H v u Q I r q
def tUI (X : Cx) (tg iter : Expr) : TI := fun σ H R => ∀ (pins : List (Addr × Obj)) (s : Shared), Inv X pins σ H s →
  wpAny (model X.prog X.w) X.A (eval iter X.env) (fun v s1 => wpAny (model X.prog X.w) X.A (pyIter v) (PIE X pins σ tg R) X.xe s1) X.xe s
theorem piU {X : Cx} {tg iter : Expr} : PI X tg iter (tUI X tg iter) := ⟨fun pins s _ _ _ I h => h pins s I⟩
theorem tUI_of {X : Cx} {tg iter : Expr} {t : TI} {σ : L2.St} {H : Hp} {R : It → Hp → Prop} (h : PI X tg iter t) (q : t σ H R) : tUI X tg iter σ H R := fun pins s I => h.run pins s σ H R I q

/-! ### the slots change -/
section
variable {S : Type} [BoxS S] {K : PySem.W.Frag} {W : Wd} {Γ Γ' : SCx} {σ σ' : L2.St} {Z H Z' H' Z1 H1 : Hp} {st st' : S} {i : Nat} {d : D} {v : V}
theorem set_cases {α : Type} {l : List α} {i j : Nat} {x y : α} (h : (l.set i x)[j]? = some y) : (j = i ∧ y = x ∧ i < l.length) ∨ (j ≠ i ∧ l[j]? = some y) := by
  by_cases e : i = j
  · subst e
    by_cases hl : i < l.length
    · rw [List.getElem?_set_self hl] at h; cases h; exact .inl ⟨rfl, rfl, hl⟩
    · rw [List.getElem?_eq_none (by simpa using hl)] at h; cases h
  · rw [List.getElem?_set_ne e] at h; exact .inr ⟨fun z => e z.symm, h⟩
theorem SR.setF (r : SR K W Γ σ Z H st) (q : Rep K W.β Z d v) : SR K W (Γ.set i (some (.frz d))) (σ.set i (some v)) Z H st where
  ln := by rw [List.length_set, List.length_set]; exact r.ln
  sz := r.sz
  box := r.box
  zh := r.zh
  frz := fun j e h => by
    rcases set_cases h with ⟨rfl, he, hl⟩ | ⟨hn, h⟩
    · cases he
      exact ⟨v, List.getElem?_set_self (by rw [r.ln]; exact hl), q⟩
    · rw [List.getElem?_set_ne (Ne.symm hn)]; exact r.frz j e h
  own := fun j e h => by
    rcases set_cases h with ⟨rfl, he, hl⟩ | ⟨hn, h⟩
    · cases he
    · rw [List.getElem?_set_ne (Ne.symm hn)]; exact r.own j e h
  dis := fun j k e f a h1 h2 h3 h4 => by
    rcases set_cases h1 with ⟨rfl, he, hl⟩ | ⟨hn, h1⟩
    · cases he
    · rcases set_cases h2 with ⟨rfl, he, hl⟩ | ⟨hm, h2⟩
      · cases he
      · rw [List.getElem?_set_ne (Ne.symm hn)] at h3
        rw [List.getElem?_set_ne (Ne.symm hm)] at h4
        exact r.dis j k e f a h1 h2 h3 h4
theorem own_setF {a : Addr} (h : ownA (Γ.set i (some (.frz d))) (σ.set i (some v)) a) : ownA Γ σ a := by
  obtain ⟨j, e, h1, h2⟩ := h
  rcases set_cases h1 with ⟨rfl, he, hl⟩ | ⟨hn, h1⟩
  · cases he
  · rw [List.getElem?_set_ne (Ne.symm hn)] at h2
    exact ⟨j, e, h1, h2⟩
theorem SR.setO {p : Addr} (r : SR K W Γ σ Z H st) (mu : isMut d = true) (q : Rep1 K W.β Z H d (.ref p)) (z : Z p = none) (nb : ¬ W.bx p) (no : ¬ ownA Γ σ p) : SR K W (Γ.set i (some (.own d))) (σ.set i (some (.ref p))) Z H st where
  ln := by rw [List.length_set, List.length_set]; exact r.ln
  sz := r.sz
  box := r.box
  zh := r.zh
  frz := fun j e h => by
    rcases set_cases h with ⟨rfl, he, hl⟩ | ⟨hn, h⟩
    · cases he
    · rw [List.getElem?_set_ne (Ne.symm hn)]; exact r.frz j e h
  own := fun j e h => by
    rcases set_cases h with ⟨rfl, he, hl⟩ | ⟨hn, h⟩
    · cases he
      exact ⟨p, List.getElem?_set_self (by rw [r.ln]; exact hl), z, nb, mu, q⟩
    · rw [List.getElem?_set_ne (Ne.symm hn)]; exact r.own j e h
  dis := fun j k e f a h1 h2 h3 h4 => by
    rcases set_cases h1 with ⟨ej, he, hl⟩ | ⟨hn, g1⟩
    · rcases set_cases h2 with ⟨ek, he', hl'⟩ | ⟨hm, g2⟩
      · rw [ej, ek]
      · rw [ej, List.getElem?_set_self (by rw [r.ln]; exact hl)] at h3
        cases h3
        rw [List.getElem?_set_ne (Ne.symm hm)] at h4
        exact (no ⟨k, f, g2, h4⟩).elim
    · rcases set_cases h2 with ⟨ek, he', hl'⟩ | ⟨hm, g2⟩
      · rw [ek, List.getElem?_set_self (by rw [r.ln]; exact hl')] at h4
        cases h4
        rw [List.getElem?_set_ne (Ne.symm hn)] at h3
        exact (no ⟨j, e, g1, h3⟩).elim
      · rw [List.getElem?_set_ne (Ne.symm hn)] at h3
        rw [List.getElem?_set_ne (Ne.symm hm)] at h4
        exact r.dis j k e f a g1 g2 h3 h4
theorem own_setO {a p : Addr} (h : ownA (Γ.set i (some (.own d))) (σ.set i (some (.ref p))) a) : ownA Γ σ a ∨ a = p := by
  obtain ⟨j, e, h1, h2⟩ := h
  rcases set_cases h1 with ⟨rfl, he, hl⟩ | ⟨hn, h1⟩
  · by_cases hs : j < σ.length
    · rw [List.getElem?_set_self hs] at h2
      cases h2
      exact .inr rfl
    · rw [List.getElem?_eq_none (by simpa using hs)] at h2; cases h2
  · rw [List.getElem?_set_ne (Ne.symm hn)] at h2
    exact .inl ⟨j, e, h1, h2⟩
/-- the object of an own slot changes -/
theorem SR.mut {p : Addr} {o : HO} {d' : D} (r : SR K W Γ σ Z H st) (h0 : Γ[i]? = some (some (En.own d))) (hp : σ[i]? = some (some (V.ref p))) (mu : isMut d' = true) (q : Rep1 K W.β Z (upd H p o) d' (.ref p)) (so : SzO o) :
    SR K W (Γ.set i (some (.own d'))) σ Z (upd H p o) st := by
  obtain ⟨p', e', z, nb, _, _⟩ := r.own i d h0
  rw [hp] at e'; cases e'
  have np : ∀ a u, Z a = some u → a ≠ p := fun a u h e => by rw [e, z] at h; cases h
  refine ⟨by rw [List.length_set]; exact r.ln, r.sz.upd so, BoxS.congr r.box (upd_ne fun e => nb (.inl e.symm)) (upd_ne fun e => nb (.inr e.symm)), fun a u h => ⟨by rw [upd_ne (np a u h)]; exact (r.zh a u h).1, (r.zh a u h).2⟩, fun j e h => ?_, fun j e h => ?_, fun j k e f a h1 h2 h3 h4 => ?_⟩
  · rcases set_cases h with ⟨rfl, he, hl⟩ | ⟨hn, h⟩
    · cases he
    · exact r.frz j e h
  · rcases set_cases h with ⟨rfl, he, hl⟩ | ⟨hn, h⟩
    · cases he
      exact ⟨p, hp, z, nb, mu, q⟩
    · obtain ⟨a, ea, za, na, ma, qa⟩ := r.own j e h
      refine ⟨a, ea, za, na, ma, qa.mono (Sub.refl _) fun b eb u hb => ?_⟩
      cases eb
      rw [upd_ne (fun z => hn (r.dis j i e d a h h0 ea (by rw [z]; exact hp)))]
      exact hb
  · have g : ∀ (j : Nat) (e : D), (Γ.set i (some (En.own d')))[j]? = some (some (En.own e)) → ∃ e', Γ[j]? = some (some (En.own e')) := fun j e h => by
      rcases set_cases h with ⟨rfl, he, hl⟩ | ⟨hn, h⟩
      · exact ⟨d, h0⟩
      · exact ⟨e, h⟩
    obtain ⟨e', h1'⟩ := g j e h1
    obtain ⟨f', h2'⟩ := g k f h2
    exact r.dis j k e' f' a h1' h2' h3 h4
theorem own_mut {d' : D} {a : Addr} (h0 : Γ[i]? = some (some (En.own d))) (h : ownA (Γ.set i (some (.own d'))) σ a) : ownA Γ σ a := by
  obtain ⟨j, e, h1, h2⟩ := h
  rcases set_cases h1 with ⟨rfl, he, hl⟩ | ⟨hn, h1⟩
  · exact ⟨j, d, h0, h2⟩
  · exact ⟨j, e, h1, h2⟩
/-- less is known -/
def Wk (Γ Γ' : SCx) : Prop := Γ'.length = Γ.length ∧ ∀ (i : Nat) (e : En), Γ'[i]? = some (some e) → Γ[i]? = some (some e)
def maskOut : List Bool → SCx → SCx
  | b :: bs, e :: es => (if b then e else none) :: maskOut bs es
  | [], es => es
  | _ :: _, [] => []
theorem wk_mask : ∀ {bs : List Bool} {Γ : SCx}, Wk Γ (maskOut bs Γ)
  | [], Γ => ⟨by cases Γ <;> rfl, fun i e h => by cases Γ <;> exact h⟩
  | b :: bs, [] => ⟨rfl, fun i e h => by simp [maskOut] at h⟩
  | b :: bs, x :: es => by
    obtain ⟨h1, h2⟩ := wk_mask (bs := bs) (Γ := es)
    refine ⟨by simp only [maskOut, List.length_cons]; rw [h1], fun i e h => ?_⟩
    cases i with
    | zero =>
      have h' : (if b then x else none) = some e := by simpa [maskOut] using h
      cases b with
      | true => rw [if_pos rfl] at h'; subst h'; simp
      | false => cases h'
    | succ i =>
      have h' : (maskOut bs es)[i]? = some (some e) := by simpa [maskOut] using h
      simpa using h2 i e h'
theorem SR.wk (r : SR K W Γ σ Z H st) (k : Wk Γ Γ') : SR K W Γ' σ Z H st :=
  ⟨by rw [k.1]; exact r.ln, r.sz, r.box, r.zh, fun i d h => r.frz i d (k.2 i _ h), fun i d h => r.own i d (k.2 i _ h), fun i j d e a h1 h2 => r.dis i j d e a (k.2 i _ h1) (k.2 j _ h2)⟩
theorem own_wk (k : Wk Γ Γ') {a : Addr} (h : ownA Γ' σ a) : ownA Γ σ a := by
  obtain ⟨i, d, h1, h2⟩ := h
  exact ⟨i, d, k.2 i _ h1, h2⟩
/-- an own list is never changed any more -/
theorem SR.freeze (r : SR K W Γ σ Z H st) (h0 : Γ[i]? = some (some (En.own d))) : ∃ p o, σ[i]? = some (some (V.ref p)) ∧ ownA Γ σ p ∧ Z p = none ∧ H p = some o ∧ SR K W (Γ.set i (some (.frz d))) σ (upd Z p o) H st ∧ Rep K W.β (upd Z p o) d (.ref p) := by
  obtain ⟨p, hp, z, nb, mu, q⟩ := r.own i d h0
  have hx : ∃ o, H p = some o := r.ownThere ⟨i, d, h0, hp⟩
  obtain ⟨o, ho⟩ := hx
  have sz : Sub Z (upd Z p o) := fun a u h => upd_none z h
  have rq : Rep K W.β (upd Z p o) d (.ref p) := Rep1.rep (H := H) (q.mono sz fun _ _ _ h => h) fun a e _ => by cases e; rw [upd_same, ho]
  refine ⟨p, o, hp, ⟨i, d, h0, hp⟩, z, ho, ⟨by rw [List.length_set]; exact r.ln, r.sz, r.box, fun a u h => ?_, fun j e h => ?_, fun j e h => ?_, fun j k e f a h1 h2 h3 h4 => ?_⟩, rq⟩
  · rcases upd_get h with ⟨rfl, rfl⟩ | ⟨_, h⟩
    · exact ⟨ho, nb⟩
    · exact r.zh a u h
  · rcases set_cases h with ⟨rfl, he, hl⟩ | ⟨hn, h⟩
    · cases he; exact ⟨_, hp, rq⟩
    · obtain ⟨v, ev, rv⟩ := r.frz j e h
      exact ⟨v, ev, rv.mono sz⟩
  · rcases set_cases h with ⟨rfl, he, hl⟩ | ⟨hn, h⟩
    · cases he
    · obtain ⟨a, ea, za, na, ma, qa⟩ := r.own j e h
      refine ⟨a, ea, ?_, na, ma, qa.mono sz fun _ _ _ h => h⟩
      rw [upd_ne (fun z' => hn (r.dis j i e d a h h0 ea (by rw [z']; exact hp)))]
      exact za
  · rcases set_cases h1 with ⟨rfl, he, hl⟩ | ⟨hn, h1⟩
    · cases he
    · rcases set_cases h2 with ⟨rfl, he, hl⟩ | ⟨hm, h2⟩
      · cases he
      · exact r.dis j k e f a h1 h2 h3 h4
theorem own_freeze {a : Addr} (h : ownA (Γ.set i (some (.frz d))) σ a) : ownA Γ σ a := by
  obtain ⟨j, e, h1, h2⟩ := h
  rcases set_cases h1 with ⟨rfl, he, hl⟩ | ⟨hn, h1⟩
  · cases he
  · exact ⟨j, e, h1, h2⟩
end

/-! ### blocks -/
structure Tg (τ l : Type) where
  nx : τ → SCx
  lp : l → SCx
inductive Fl (τ l : Type) where
  | nx (s : τ) | rt (d : D) | bk (s : l) | ct (s : l)
/-- what a block may do -/
structure BSt (W : Wd) (Γ : SCx) (σ : L2.St) (Z H Z' H' : Hp) : Prop where
  zz : Sub Z Z'
  hh : ∀ a o, H a = some o → ¬ W.bx a → ¬ ownA Γ σ a → H' a = some o
  nw : ∀ a o, Z' a = some o → Z a = some o ∨ H a = none ∨ ownA Γ σ a
  sz : Sz H → Sz H'
def OwLe (Γ : SCx) (σ : L2.St) (H : Hp) (Γ' : SCx) (σ' : L2.St) : Prop := ∀ a, ownA Γ' σ' a → ownA Γ σ a ∨ H a = none
def FlOk {S : Type} [BoxS S] {τ l : Type} (K : PySem.W.Frag) (W : Wd) (Γ : SCx) (σ : L2.St) (Z H : Hp) (T : Tg τ l) (f : Fl τ l) (st' : S) (D : Ends) : Prop :=
  match f with
  | .nx s => ∀ σ' Z' H', SR K W (T.nx s) σ' Z' H' st' → BSt W Γ σ Z H Z' H' → OwLe Γ σ H (T.nx s) σ' → D.nx σ' H'
  | .ct s => ∀ σ' Z' H', SR K W (T.lp s) σ' Z' H' st' → BSt W Γ σ Z H Z' H' → OwLe Γ σ H (T.lp s) σ' → D.ct σ' H'
  | .bk s => ∀ σ' Z' H', SR K W (T.lp s) σ' Z' H' st' → BSt W Γ σ Z H Z' H' → OwLe Γ σ H (T.lp s) σ' → D.bk σ' H'
  | .rt d => ∀ v Z' H', (∀ a o, Z' a = some o → H' a = some o ∧ ¬ W.bx a) → BoxS.R st' W.β W.γ H' → BSt W Γ σ Z H Z' H' → Rep K W.β Z' d v → D.rt v H'
def OkB {S : Type} [BoxS S] {τ l : Type} (C : Stat) (Γ : SCx) (ss : List Stmt) (T : Tg τ l) (m : M S (Fl τ l)) : Prop :=
  ∀ X, CtxP C X → ∀ (W : Wd) (σ : L2.St) (Z H : Hp) (st : S) (f : Fl τ l) (st' : S) (D : Ends), SR X.K W Γ σ Z H st → m st = some (f, st') → FlOk X.K W Γ σ Z H T f st' D → tUS X ss D σ H

section
variable {S : Type} [BoxS S] {K : PySem.W.Frag} {W : Wd} {Γ Γ1 : SCx} {σ σ1 : L2.St} {Z H Z1 H1 Z2 H2 : Hp} {st st' : S} {τ l : Type}
theorem Stp.bst (s : Stp W Z H Z1 H1) : BSt W Γ σ Z H Z1 H1 := ⟨s.zz, fun a o h n _ => s.hh a o h n, fun a o h => (s.nw a o h).elim .inl fun q => .inr (.inl q), s.sz⟩
theorem BSt.refl : BSt W Γ σ Z H Z H := ⟨Sub.refl _, fun _ _ h _ _ => h, fun _ _ h => .inl h, id⟩
theorem OwLe.refl : OwLe Γ σ H Γ σ := fun _ h => .inl h
theorem BSt.trans (nb : ∀ a o, Z2 a = some o → ¬ W.bx a) (s : BSt W Γ σ Z H Z1 H1) (w : OwLe Γ σ H Γ1 σ1) (t : BSt W Γ1 σ1 Z1 H1 Z2 H2) : BSt W Γ σ Z H Z2 H2 where
  zz := s.zz.trans t.zz
  hh := fun a o h n no => t.hh a o (s.hh a o h n no) n fun q => by
    rcases w a q with q | q
    · exact no q
    · rw [h] at q; cases q
  nw := fun a o h => by
    rcases t.nw a o h with q | q | q
    · exact s.nw a o q
    · cases e : H a with
      | none => exact .inr (.inl rfl)
      | some u =>
        by_cases no : ownA Γ σ a
        · exact .inr (.inr no)
        · rw [s.hh a u e (nb a o h) no] at q; cases q
    · rcases w a q with q | q
      · exact .inr (.inr q)
      · exact .inr (.inl q)
  sz := fun h => t.sz (s.sz h)
theorem OwLe.trans {Γ2 : SCx} {σ2 : L2.St} (s : BSt W Γ σ Z H Z1 H1) (w : OwLe Γ σ H Γ1 σ1) (t : OwLe Γ1 σ1 H1 Γ2 σ2) (nb : ∀ a, ownA Γ2 σ2 a → ¬ W.bx a) : OwLe Γ σ H Γ2 σ2 := fun a h => by
  rcases t a h with q | q
  · exact w a q
  · cases e : H a with
    | none => exact .inr rfl
    | some u =>
      by_cases no : ownA Γ σ a
      · exact .inl no
      · rw [s.hh a u e (nb a h) no] at q; cases q
theorem SR.ownNb (r : SR K W Γ σ Z H st) {a : Addr} (h : ownA Γ σ a) : ¬ W.bx a := by
  obtain ⟨i, d, h1, h2⟩ := h
  obtain ⟨b, e, z, n, mu, q⟩ := r.own i d h1
  rw [h2] at e; cases e
  exact n
/-- behind a first part -/
theorem FlOk.after {T : Tg τ l} {f : Fl τ l} {D : Ends} (s : BSt W Γ σ Z H Z1 H1) (w : OwLe Γ σ H Γ1 σ1) (h : FlOk K W Γ σ Z H T f st' D) : FlOk K W Γ1 σ1 Z1 H1 T f st' D := by
  cases f with
  | nx x => exact fun σ' Z' H' r t u => h σ' Z' H' r (s.trans (fun a o e => (r.zh a o e).2) w t) (w.trans s u fun a => r.ownNb)
  | ct x => exact fun σ' Z' H' r t u => h σ' Z' H' r (s.trans (fun a o e => (r.zh a o e).2) w t) (w.trans s u fun a => r.ownNb)
  | bk x => exact fun σ' Z' H' r t u => h σ' Z' H' r (s.trans (fun a o e => (r.zh a o e).2) w t) (w.trans s u fun a => r.ownNb)
  | rt d => exact fun v Z' H' zh b t r => h v Z' H' zh b (s.trans (fun a o e => (zh a o e).2) w t) r
end

section
variable {S : Type} [BoxS S] {C : Stat} {Γ Γ' : SCx} {e a b c : Expr} {rest body : List Stmt} {m : M S D} {pos : Pos} {τ l τ' l' : Type} {T : Tg τ l} {i : Nat} {x : Str}
theorem OkB.nil {s : τ} (k : Wk Γ (T.nx s)) : OkB (S := S) C Γ [] T (ret (.nx s)) := fun X hX W σ Z H st f st' D r hm q => by
  obtain ⟨rfl, rfl⟩ := ret_some hm
  exact tUS_of pss_nil (q σ Z H (r.wk k) BSt.refl fun a h => .inl (own_wk k h))
theorem OkB.cont {s : l} (k : Wk Γ (T.lp s)) : OkB (S := S) C Γ (.Continue pos :: rest) T (ret (.ct s)) := fun X hX W σ Z H st f st' D r hm q => by
  obtain ⟨rfl, rfl⟩ := ret_some hm
  exact tUS_of (pss_cons ps_continue pssU) (q σ Z H (r.wk k) BSt.refl fun a h => .inl (own_wk k h))
theorem OkB.brk {s : l} (k : Wk Γ (T.lp s)) : OkB (S := S) C Γ (.Break pos :: rest) T (ret (.bk s)) := fun X hX W σ Z H st f st' D r hm q => by
  obtain ⟨rfl, rfl⟩ := ret_some hm
  exact tUS_of (pss_cons ps_break pssU) (q σ Z H (r.wk k) BSt.refl fun a h => .inl (own_wk k h))
theorem OkB.ret (he : Ok .E C Γ e m) : OkB C Γ (.Return (some e) pos :: rest) T (bnd m fun d => ret (.rt d)) := fun X hX W σ Z H st f st' D r hm q => by
  obtain ⟨d, st1, h1, hm1⟩ := bnd_some hm
  obtain ⟨rfl, rfl⟩ := ret_some hm1
  refine tUS_of (pss_cons (ps_ret peU) pssU) (he X hX W σ Z H st d _ _ r h1 fun v Z' H' s b r' => ?_)
  exact q v Z' H' s.zh b s.bst r'
theorem OkB.retN : OkB (S := S) C Γ (.Return none pos :: rest) T (Sn.ret (.rt .non)) := fun X hX W σ Z H st f st' D r hm q => by
  obtain ⟨rfl, rfl⟩ := ret_some hm
  exact tUS_of (pss_cons ps_retN pssU) (q _ Z H r.zh r.box BSt.refl .non)
/-- an own list is never changed any more -/
theorem OkB.freeze {d : D} {ss : List Stmt} {mb : M S (Fl τ l)} (i : Nat) (h0 : Γ[i]? = some (some (.own d))) (hb : OkB C (Γ.set i (some (.frz d))) ss T mb) : OkB C Γ ss T mb := fun X hX W σ Z H st f st' D r hm q => by
  obtain ⟨p, o, hp, ow, z, ho, r', rq⟩ := r.freeze h0
  have s : BSt W Γ σ Z H (upd Z p o) H := ⟨fun a u h => upd_none z h, fun _ _ h _ _ => h, fun a u h => by
    rcases upd_get h with ⟨rfl, rfl⟩ | ⟨_, h⟩
    · exact .inr (.inr ow)
    · exact .inl h, id⟩
  exact hb X hX W σ (upd Z p o) H st f st' D r' hm (q.after s fun a h => .inl (own_freeze h))
theorem store_hyp {X : Cx} (hX : CtxP C X) (h : C.fn x = true ∨ C.sc.names.lookup x = some .local) : X.fn x = true ∨ X.env.scope.names.lookup x = some .local := by
  rcases h with h | h
  · exact .inl (hX.fn x h)
  · exact .inr (by rw [hX.sc]; exact h)
theorem sw_cell {elt : Expr} {gs : List Comprehension} {scope sc : Scope} {p py : Pos} {y : Str} {ln : Nat} {env : Env} (he : env.scope = sc) (hy : sc.names.lookup y = some .cell) : swapsWith (.ListComp elt gs scope p) (some (.Name y py)) ln env = pure false := by
  have ky : env.kindOf y = some .cell := by show env.scope.names.lookup y = _; rw [he]; exact hy
  unfold swapsWith
  simp only [ky]
  cases env.blockKind == .function <;> rfl
/-- name = e -/
theorem OkB.set {k : D → M S (Fl τ l)} {pos' : Pos} (hN : C.N[i]? = some x) (hx : Loc C.sc x) (hf : C.fn x = true ∨ C.sc.names.lookup x = some .local) (he : Ok .E C Γ e m) (hb : ∀ d, OkB C (Γ.set i (some (.frz d))) rest T (k d))
    (hs : ∀ env : Env, env.scope = C.sc → swapsWith e (some (.Name x pos')) pos.line env = pure false := by intro _ _; rfl) : OkB C Γ (.Assign [.Name x pos'] e pos :: rest) T (bnd m k) := fun X hX W σ Z H st f st' D r hm q => by
  obtain ⟨d, st1, h1, hm1⟩ := bnd_some hm
  refine tUS_of (pss_cons (ps_set (i := i) (by rw [hX.N]; exact hX.nd) (by rw [hX.N]; exact hN) (by rw [hX.sc]; exact hx) peU (hs _ hX.sc) (store_hyp hX hf)) pssU) ?_
  refine he X hX W σ Z H st d st1 _ r h1 fun v Z1 H1 s1 b1 r1 => ?_
  exact hb d X hX W (σ.set i (some v)) Z1 H1 st1 f st' D ((r.step s1 b1).setF r1) hm1 (q.after s1.bst fun a h => .inl (own_setF h))
/-- .. a new list, to be changed -/
theorem OkB.setO {k : D → M S (Fl τ l)} {pos' : Pos} (hN : C.N[i]? = some x) (hx : Loc C.sc x) (hf : C.fn x = true ∨ C.sc.names.lookup x = some .local) (he : Ok .N C Γ e m) (hb : ∀ d, OkB C (Γ.set i (some (.own d))) rest T (k d))
    (hs : ∀ env : Env, env.scope = C.sc → swapsWith e (some (.Name x pos')) pos.line env = pure false := by intro _ _; rfl) : OkB C Γ (.Assign [.Name x pos'] e pos :: rest) T (bnd m fun d => if isMut d = true then k d else stuck) := fun X hX W σ Z H st f st' D r hm q => by
  obtain ⟨d, st1, h1, hm1⟩ := bnd_some hm
  by_cases mu : isMut d = true
  · rw [if_pos mu] at hm1
    refine tUS_of (pss_cons (ps_set (i := i) (by rw [hX.N]; exact hX.nd) (by rw [hX.N]; exact hN) (by rw [hX.sc]; exact hx) peU (hs _ hX.sc) (store_hyp hX hf)) pssU) ?_
    refine he X hX W σ Z H st d st1 _ r h1 fun v Z1 H1 s1 b1 r1 => ?_
    have hv : ∃ p, v = .ref p := by
      obtain ⟨q4, _⟩ := r1
      cases d with
      | lst ds => obtain ⟨b, vs, eb, _⟩ := q4; exact ⟨b, eb⟩
      | dct ds => obtain ⟨b, eb, _⟩ := q4; exact ⟨b, eb⟩
      | _ => cases mu
    obtain ⟨p, rfl⟩ := hv
    obtain ⟨f1, f2, f3⟩ := r1.2 p rfl mu
    have no : ¬ ownA Γ σ p := fun h => by
      obtain ⟨o, ho⟩ := r.ownThere h
      rw [f1] at ho; cases ho
    refine hb d X hX W (σ.set i (some (.ref p))) Z1 H1 st1 f st' D ((r.step s1 b1).setO mu r1.1 f2 f3 no) hm1 (q.after s1.bst fun a h => ?_)
    rcases own_setO h with h | rfl
    · exact .inl h
    · exact .inr f1
  · rw [if_neg mu] at hm1; exact (stuck_some hm1).elim
/-- what follows an inner block -/
def seqF {S : Type} {τ l τ' : Type} (f : Fl τ' l) (k : τ' → M S (Fl τ l)) : M S (Fl τ l) :=
  match f with
  | .nx s => k s
  | .rt d => Sn.ret (.rt d)
  | .bk s => Sn.ret (.bk s)
  | .ct s => Sn.ret (.ct s)
theorem OkB.ite {n : M S Bool} {A B : List Stmt} {Γj : τ' → SCx} {mA mB : M S (Fl τ' l)} {k : τ' → M S (Fl τ l)} (hc : OkT C Γ c n) (hA : OkB C Γ A ⟨Γj, T.lp⟩ mA) (hB : OkB C Γ B ⟨Γj, T.lp⟩ mB) (hk : ∀ s, OkB C (Γj s) rest T (k s)) :
    OkB C Γ (.If c A B pos :: rest) T (bnd n fun t => bnd (if t = true then mA else mB) fun f => seqF f k) := fun X hX W σ Z H st f st' D r hm q => by
  obtain ⟨t, st1, h1, hm1⟩ := bnd_some hm
  obtain ⟨g, st2, h2, hm2⟩ := bnd_some hm1
  refine tUS_of (pss_cons (ps_if ptU pssU pssU) pssU) ?_
  refine hc X hX W σ Z H st t st1 _ r h1 fun Z1 H1 s1 b1 => ?_
  have r1 := r.step s1 b1
  have q1 : FlOk X.K W Γ σ Z1 H1 T f st' D := q.after s1.bst OwLe.refl
  have inner : FlOk X.K W Γ σ Z1 H1 ⟨Γj, T.lp⟩ g st2 { D with nx := tUS X rest D } := by
    cases g with
    | nx s => exact fun σ' Z' H' r' s' w' => hk s X hX W σ' Z' H' st2 f st' D r' hm2 (q1.after s' w')
    | rt d => obtain ⟨rfl, rfl⟩ := ret_some hm2; exact q1
    | bk s => obtain ⟨rfl, rfl⟩ := ret_some hm2; exact q1
    | ct s => obtain ⟨rfl, rfl⟩ := ret_some hm2; exact q1
  cases t with
  | true => exact hA X hX W σ Z1 H1 st1 g st2 _ r1 h2 inner
  | false => exact hB X hX W σ Z1 H1 st1 g st2 _ r1 h2 inner

/-! ### targets -/
def TgOk (C : Stat) (Γ : SCx) (tg : Expr) (d : D) (Γ' : SCx) (vs : List Nat) : Prop :=
  ∀ X, CtxP C X → ∀ {S : Type} [BoxS S] (W : Wd) (σ : L2.St) (Z H : Hp) (st : S) (v : V) (Q : L2.St → Hp → Prop), SR X.K W Γ σ Z H st → Rep X.K W.β Z d v →
    (∀ σ', SR X.K W Γ' σ' Z H st → (∀ ws : List Nat, (∀ i ∈ vs, i ∈ ws) → wipe σ' ws = wipe σ ws) → (∀ a, ownA Γ' σ' a → ownA Γ σ a) → Q σ' H) → tUG X tg v σ H Q
def TgsOk (C : Stat) (Γ : SCx) (tgs : List Expr) (ds : List D) (Γ' : SCx) (vs : List Nat) : Prop :=
  match tgs, ds with
  | [], [] => Γ' = Γ ∧ vs = []
  | t :: ts, d :: ds => ∃ Γ1 v1 v2, TgOk C Γ t d Γ1 v1 ∧ TgsOk C Γ1 ts ds Γ' v2 ∧ vs = v1 ++ v2
  | _, _ => False
theorem wipe_set {σ : L2.St} {i : Nat} {o : Option V} : ∀ {ws : List Nat}, i ∈ ws → wipe (σ.set i o) ws = wipe σ ws
  | [], h => by cases h
  | w :: ws, h => by
    show (wipe (σ.set i o) ws).set w none = (wipe σ ws).set w none
    by_cases hi : i ∈ ws
    · rw [wipe_set hi]
    · have e : w = i := by
        rcases List.mem_cons.mp h with h | h
        · exact h.symm
        · exact absurd h hi
      subst e
      clear h
      have g : ∀ (us : List Nat), w ∉ us → wipe (σ.set w o) us = (wipe σ us).set w o := by
        intro us
        induction us with
        | nil => intro _; rfl
        | cons u us ih =>
          intro hu
          show (wipe (σ.set w o) us).set u none = ((wipe σ us).set u none).set w o
          rw [ih fun z => hu (List.mem_cons_of_mem _ z)]
          exact List.set_comm _ _ (fun z => hu (z ▸ List.mem_cons_self))
      rw [g ws hi, List.set_set]
theorem TgOk.name {d : D} (hN : C.N[i]? = some x) (hx : Loc C.sc x) (hf : C.fn x = true ∨ C.sc.names.lookup x = some .local) : TgOk C Γ (.Name x pos) d (Γ.set i (some (.frz d))) [i] := fun X hX S _ W σ Z H st v Q r rv q =>
  tUG_of (pg_name (i := i) (by rw [hX.N]; exact hX.nd) (by rw [hX.N]; exact hN) (by rw [hX.sc]; exact hx) (store_hyp hX hf)) (q _ (r.setF rv) (fun ws h => wipe_set (h i (by simp))) fun a h => own_setF h)
def tUGs (X : Cx) (tgs : List Expr) : TGs := fun vs σ H Q => ∀ (pins : List (Addr × Obj)) (s : Shared) (us : List Value), Inv X pins σ H s → Vals vs us → wpAny (model X.prog X.w) X.A (assignInOrder ((assignEach tgs X.env).map (·.2)) us) (fun _ s' => ∃ σ' H', Inv X pins σ' H' s' ∧ Q σ' H') X.xe s
theorem pgsU {X : Cx} {tgs : List Expr} : PGs X tgs (tUGs X tgs) := ⟨fun pins s _ _ _ us _ I r h => h pins s us I r⟩
theorem tUGs_of {X : Cx} {tgs : List Expr} {t : TGs} {vs : List V} {σ : L2.St} {H : Hp} {Q : L2.St → Hp → Prop} (h : PGs X tgs t) (q : t vs σ H Q) : tUGs X tgs vs σ H Q := fun pins s us I r => h.run pins s σ H vs us Q I r q
/-- a target that is a name or a tuple of such -/
def plainTg : Expr → Bool
  | .Name _ _ => true
  | .Tuple es _ _ => !es.isEmpty
  | _ => false
theorem each_plain (env : Env) {t : Expr} {ts : List Expr} (h : plainTg t = true) : (assignEach (t :: ts) env) = (false, assign t env) :: assignEach ts env := by
  cases t <;> first | rfl | cases h
theorem TgsOk.run {X : Cx} (hX : CtxP C X) {W : Wd} : ∀ {tgs : List Expr} {ds : List D} {Γ Γ' : SCx} {vs : List Nat} {us : List V} {σ : L2.St} {Z H : Hp} {st : S} {Q : L2.St → Hp → Prop}, (tgs.all plainTg = true) → TgsOk C Γ tgs ds Γ' vs → SR X.K W Γ σ Z H st → RepL X.K W.β Z ds us →
    (∀ σ', SR X.K W Γ' σ' Z H st → (∀ ws : List Nat, (∀ i ∈ vs, i ∈ ws) → wipe σ' ws = wipe σ ws) → (∀ a, ownA Γ' σ' a → ownA Γ σ a) → Q σ' H) → tUGs X tgs us σ H Q
  | [], [], _, _, _, _, _, _, _, _, _, _, h, r, rl, q => by
    obtain ⟨rfl, rfl⟩ := h
    cases rl
    exact tUGs_of pgs_nil ⟨rfl, q _ r (fun _ _ => rfl) fun _ h => h⟩
  | t :: ts, d :: ds, _, _, _, _, σ, _, _, _, _, hp, h, r, rl, q => by
    obtain ⟨Γ1, v1, v2, h1, h2, rfl⟩ := h
    cases rl with
    | cons rd rs =>
      rw [List.all_cons, Bool.and_eq_true] at hp
      refine tUGs_of (pgs_cons pgU pgsU (by rw [each_plain _ hp.1]; rfl)) ⟨_, _, rfl, ?_⟩
      refine h1 X hX W σ _ _ _ _ _ r rd fun σ1 r1 w1 o1 => ?_
      refine TgsOk.run hX hp.2 h2 r1 rs fun σ2 r2 w2 o2 => ?_
      exact q σ2 r2 (fun ws hw => (w2 ws fun i hi => hw i (List.mem_append_right _ hi)).trans (w1 ws fun i hi => hw i (List.mem_append_left _ hi))) fun a h => o1 a (o2 a h)
  | [], _ :: _, _, _, _, _, _, _, _, _, _, _, h, _, _, _ => h.elim
  | _ :: _, [], _, _, _, _, _, _, _, _, _, _, h, _, _, _ => h.elim
theorem each_len (env : Env) : ∀ {ts : List Expr}, ts.all plainTg = true → (assignEach ts env).length = ts.length ∧ (assignEach ts env).findIdx? (·.1) = none
  | [], _ => ⟨rfl, rfl⟩
  | t :: ts, h => by
    rw [List.all_cons, Bool.and_eq_true] at h
    obtain ⟨h1, h2⟩ := each_len env h.2
    rw [each_plain _ h.1]
    refine ⟨by rw [List.length_cons, List.length_cons, h1], ?_⟩
    rw [List.findIdx?_cons, h2]
    rfl
theorem TgsOk.len : ∀ {tgs : List Expr} {ds : List D} {Γ Γ' : SCx} {vs : List Nat}, TgsOk C Γ tgs ds Γ' vs → tgs.length = ds.length
  | [], [], _, _, _, _ => rfl
  | t :: ts, d :: ds, _, _, _, ⟨_, _, _, _, h, _⟩ => by rw [List.length_cons, List.length_cons, TgsOk.len h]
  | [], _ :: _, _, _, _, h => h.elim
  | _ :: _, [], _, _, _, h => h.elim
theorem TgOk.tup {tgs : List Expr} {ds : List D} {vs : List Nat} {k : Nat} (h : TgsOk C Γ tgs ds Γ' vs) (hp : tgs.all plainTg = true) : TgOk C Γ (.Tuple tgs k pos) (.tup ds) Γ' vs := fun X hX S _ W σ Z H st v Q r rv q => by
  cases rv with
  | tup hq rl =>
    refine tUG_of (pg_tup (n := tgs.length) hX.calm pgsU (each_len _ hp).1 (each_len _ hp).2) ⟨_, _, rfl, r.sub.sqT hq, ?_, TgsOk.run hX hp h r rl q⟩
    rw [← rl.length, h.len]
/-- data bound to targets, then what K says of what is known and of the rest -/
def BindOk {α : Type} (C : Stat) (Γ : SCx) (tgs : List Expr) (ds : List D) (Wp : Nat → Prop) (K : SCx → M S α → Prop) (m : M S α) : Prop :=
  (∀ st, m st = none) ∨ ∃ Γ' vs, TgsOk C Γ tgs ds Γ' vs ∧ (∀ i ∈ vs, Wp i) ∧ K Γ' m
def pat2 {S α : Type} (f : D → D → M S α) : D → M S α
  | .tup [a, b] => f a b
  | _ => stuck
def pat3 {S α : Type} (f : D → D → D → M S α) : D → M S α
  | .tup [a, b, c] => f a b c
  | _ => stuck
def pat4 {S α : Type} (f : D → D → D → D → M S α) : D → M S α
  | .tup [a, b, c, d] => f a b c d
  | _ => stuck
section
variable {α : Type} {tgs : List Expr} {ds : List D} {Wp : Nat → Prop} {KK : SCx → M S α → Prop} {mm : M S α}
theorem BindOk.nil (h : KK Γ mm) : BindOk C Γ [] [] Wp KK mm := .inr ⟨Γ, [], ⟨rfl, rfl⟩, (fun _ h => nomatch h), h⟩
theorem BindOk.name {d : D} (hN : C.N[i]? = some x) (hx : Loc C.sc x) (hf : C.fn x = true ∨ C.sc.names.lookup x = some .local) (h : BindOk C (Γ.set i (some (.frz d))) tgs ds Wp KK mm) (hw : Wp i := by first | exact True.intro | decide) : BindOk C Γ (.Name x pos :: tgs) (d :: ds) Wp KK mm := by
  rcases h with h | ⟨Γ', vs, h1, h3, h2⟩
  · exact .inl h
  · exact .inr ⟨Γ', _, ⟨_, _, _, TgOk.name hN hx hf, h1, rfl⟩, (fun j hj => by
      rcases List.mem_append.mp hj with hj | hj
      · rw [List.mem_singleton.mp hj]; exact hw
      · exact h3 j hj), h2⟩
theorem BindOk.tupN {es : List Expr} {ts : List D} {k : Nat} (hp : es.all plainTg = true) (hl : es.length = ts.length) (h : BindOk C Γ (es ++ tgs) (ts ++ ds) Wp KK mm) : BindOk C Γ (.Tuple es k pos :: tgs) (.tup ts :: ds) Wp KK mm := by
  rcases h with h | ⟨Γ', vs, h1, h3, h2⟩
  · exact .inl h
  · have split : ∀ (es : List Expr) (ts : List D) (Γ : SCx) (vs : List Nat), es.length = ts.length → TgsOk C Γ (es ++ tgs) (ts ++ ds) Γ' vs → ∃ Γ1 v1 v2, TgsOk C Γ es ts Γ1 v1 ∧ TgsOk C Γ1 tgs ds Γ' v2 ∧ vs = v1 ++ v2 := by
      intro es
      induction es with
      | nil =>
        intro ts Γ vs hl h
        cases ts with
        | nil => exact ⟨Γ, [], vs, ⟨rfl, rfl⟩, h, rfl⟩
        | cons _ _ => cases hl
      | cons e es ih =>
        intro ts Γ vs hl h
        cases ts with
        | nil => cases hl
        | cons t ts =>
          obtain ⟨Γ1, v1, v2, g1, g2, rfl⟩ := h
          obtain ⟨Γ2, w1, w2, k1, k2, rfl⟩ := ih ts Γ1 v2 (by simpa using hl) g2
          exact ⟨Γ2, v1 ++ w1, w2, ⟨Γ1, v1, w1, g1, k1, rfl⟩, k2, by rw [List.append_assoc]⟩
    obtain ⟨Γ1, v1, v2, k1, k2, rfl⟩ := split es ts Γ vs hl h1
    exact .inr ⟨Γ', _, ⟨Γ1, v1, v2, TgOk.tup k1 hp, k2, rfl⟩, h3, h2⟩
theorem BindOk.tup2 {t1 t2 : Expr} {k : Nat} {d : D} {f : D → D → M S α} (hp : [t1, t2].all plainTg = true) (h : ∀ a b, BindOk C Γ (t1 :: t2 :: tgs) (a :: b :: ds) Wp KK (f a b)) : BindOk C Γ (.Tuple [t1, t2] k pos :: tgs) (d :: ds) Wp KK (pat2 f d) := by
  cases d with
  | tup xs =>
    match xs with
    | [a, b] => exact BindOk.tupN (ts := [a, b]) hp rfl (h a b)
    | [] => exact .inl fun _ => rfl
    | [_] => exact .inl fun _ => rfl
    | _ :: _ :: _ :: _ => exact .inl fun _ => rfl
  | _ => exact .inl fun _ => rfl
theorem BindOk.tup3 {t1 t2 t3 : Expr} {k : Nat} {d : D} {f : D → D → D → M S α} (hp : [t1, t2, t3].all plainTg = true) (h : ∀ a b c, BindOk C Γ (t1 :: t2 :: t3 :: tgs) (a :: b :: c :: ds) Wp KK (f a b c)) : BindOk C Γ (.Tuple [t1, t2, t3] k pos :: tgs) (d :: ds) Wp KK (pat3 f d) := by
  cases d with
  | tup xs =>
    match xs with
    | [a, b, c] => exact BindOk.tupN (ts := [a, b, c]) hp rfl (h a b c)
    | [] => exact .inl fun _ => rfl
    | [_] => exact .inl fun _ => rfl
    | [_, _] => exact .inl fun _ => rfl
    | _ :: _ :: _ :: _ :: _ => exact .inl fun _ => rfl
  | _ => exact .inl fun _ => rfl
theorem BindOk.tup4 {t1 t2 t3 t4 : Expr} {k : Nat} {d : D} {f : D → D → D → D → M S α} (hp : [t1, t2, t3, t4].all plainTg = true) (h : ∀ a b c e, BindOk C Γ (t1 :: t2 :: t3 :: t4 :: tgs) (a :: b :: c :: e :: ds) Wp KK (f a b c e)) : BindOk C Γ (.Tuple [t1, t2, t3, t4] k pos :: tgs) (d :: ds) Wp KK (pat4 f d) := by
  cases d with
  | tup xs =>
    match xs with
    | [a, b, c, e] => exact BindOk.tupN (ts := [a, b, c, e]) hp rfl (h a b c e)
    | [] => exact .inl fun _ => rfl
    | [_] => exact .inl fun _ => rfl
    | [_, _] => exact .inl fun _ => rfl
    | [_, _, _] => exact .inl fun _ => rfl
    | _ :: _ :: _ :: _ :: _ :: _ => exact .inl fun _ => rfl
  | _ => exact .inl fun _ => rfl
end
/-- a, b = e -/
theorem OkB.unpack {tg : Expr} {k : D → M S (Fl τ l)} (he : Ok .E C Γ e m) (hb : ∀ d, BindOk C Γ [tg] [d] (fun _ => True) (fun Γ' n => OkB C Γ' rest T n) (k d))
    (hs : ∀ env : Env, swapsWithSole [tg] e pos.line env = pure false := by intro _; rfl) (hw : ∀ env : Env, swappedStores [tg] e env = pure none := by intro _; rfl) (h1 : ∀ env : Env, (assignEach [tg] env).map (·.2) = [assign tg env] := by intro _; rfl) :
    OkB C Γ (.Assign [tg] e pos :: rest) T (bnd m k) := fun X hX W σ Z H st f st' D r hm q => by
  obtain ⟨d, st1, h2, hm1⟩ := bnd_some hm
  refine tUS_of (pss_cons (ps_asg peU pgU (hs _) (hw _) (h1 _)) pssU) ?_
  refine he X hX W σ Z H st d st1 _ r h2 fun v Z1 H1 s1 b1 r1 => ?_
  rcases hb d with hb | ⟨Γ', vs, ⟨Γ1, v1, v2, t1, ⟨e1, _⟩, _⟩, _, hb⟩
  · rw [hb st1] at hm1; cases hm1
  · subst e1
    refine t1 X hX W σ Z1 H1 st1 v _ (r.step s1 b1) r1 fun σ' r' w' o' => ?_
    exact hb X hX W σ' Z1 H1 st1 f st' D r' hm1 (q.after s1.bst fun a h => .inl (o' a h))
end

/-! ### what is walked -/
def Yld (K : PySem.W.Frag) (W : Wd) (J : It) (xs : List D) (A : Addr → Prop) (Z H : Hp) : Prop :=
  (∀ a, A a → (∃ o, H a = some o) ∧ ¬ W.bx a) ∧
  ∀ {S : Type} [BoxS S] (i : Nat) (Z2 H2 : Hp) (st : S), Sub Z Z2 → (∀ a o, Z2 a = some o → H2 a = some o ∧ ¬ W.bx a) → (∀ a o, A a → H a = some o → H2 a = some o) → Sz H2 → BoxS.R st W.β W.γ H2 →
    (xs.length ≤ i → J.stop i H2) ∧ ∀ d, xs[i]? = some d → J.go i H2 ∧ ∀ x H3, J.yld i H2 x H3 → ∃ Z3, Stp W Z2 H2 Z3 H3 ∧ BoxS.R st W.β W.γ H3 ∧ Rep K W.β Z3 d x
def OkI {S : Type} [BoxS S] (b : Bool) (C : Stat) (Γ : SCx) (tg iter : Expr) (m : M S (List D)) : Prop :=
  ∀ X, CtxP C X → ∀ (W : Wd) (σ : L2.St) (Z H : Hp) (st : S) (xs : List D) (st' : S) (R : It → Hp → Prop), SR X.K W Γ σ Z H st → m st = some (xs, st') →
    (∀ J A Z' H', Stp W Z H Z' H' → BoxS.R st' W.β W.γ H' → Yld X.K W J xs A Z' H' → (b = true → ∀ a, A a → ¬ ownA Γ σ a ∧ (Z' a ≠ none ∨ H a = none)) → R J H') → tUI X tg iter σ H R
section
variable {S : Type} [BoxS S] {τ l : Type}
def forL {S : Type} {τ τ' l' : Type} (f : τ → D → M S (Fl τ τ)) (k : τ → M S (Fl τ' l')) : List D → τ → M S (Fl τ' l')
  | [], s => k s
  | x :: xs, s => bnd (f s x) fun fl => match fl with
    | .nx s' => forL f k xs s'
    | .ct s' => forL f k xs s'
    | .bk s' => k s'
    | .rt d => Sn.ret (.rt d)
variable {C : Stat} {Γ Γ' : SCx} {e a b c tg iter : Expr} {rest body : List Stmt} {pos : Pos} {T : Tg τ l}
theorem OkB.forR {τ' : Type} {Γl : τ' → SCx} {mi : M S (List D)} {f : τ' → D → M S (Fl τ' τ')} {k : τ' → M S (Fl τ l)} {s0 : τ'} (hi : OkI true C Γ tg iter mi) (h0 : Wk Γ (Γl s0))
    (hb : ∀ s d, BindOk C (Γl s) [tg] [d] (fun _ => True) (fun Γ' n => OkB C Γ' body ⟨Γl, Γl⟩ n) (f s d)) (hk : ∀ s, OkB C (Γl s) rest T (k s))
    (hs : ∀ (env : Env) x, foldedSetIterable iter env x = pure x := by intro _ _; rfl) : OkB C Γ (.For tg iter body [] pos :: rest) T (bnd mi fun xs => forL f k xs s0) := fun X hX W σ Z H st fl st' D r hm q => by
  obtain ⟨xs, st1, h1, hm1⟩ := bnd_some hm
  refine tUS_of (pss_cons (ps_for (by rw [hX.xe]; exact PassesOwn.never) hX.calm piU pgU pssU (hs _)) pssU) ?_
  refine hi X hX W σ Z H st xs st1 _ r h1 fun J A Z1 H1 s1 b1 y1 dj => ?_
  have r1 := (r.step s1 b1).wk h0
  refine ⟨fun i n σ' H' => ∃ s Z' st2, n = xs.length - i ∧ i ≤ xs.length ∧ SR X.K W (Γl s) σ' Z' H' st2 ∧ BSt W Γ σ Z H Z' H' ∧ OwLe Γ σ H (Γl s) σ' ∧ Sub Z1 Z' ∧ (∀ a o, A a → H1 a = some o → H' a = some o) ∧ (∀ a, ownA (Γl s) σ' a → ¬ A a) ∧ forL f k (xs.drop i) s st2 = some (fl, st'),
    ⟨xs.length, s0, Z1, st1, by omega, Nat.zero_le _, r1, s1.bst, fun a h => .inl (own_wk h0 h), Sub.refl _, fun _ _ _ h => h, fun a h ha => (dj rfl a ha).1 (own_wk h0 h), hm1⟩, ?_⟩
  rintro i n σ2 H2 ⟨s, Z2, st2, rfl, hi, r2, bs2, ow2, sz2, ka2, na2, run2⟩
  have yy := y1.2 i Z2 H2 st2 sz2 r2.zh ka2 r2.sz r2.box
  by_cases hlt : i < xs.length
  · have hd : xs[i]? = some xs[i] := List.getElem?_eq_getElem hlt
    rw [List.drop_eq_getElem_cons hlt] at run2
    obtain ⟨g, st3, h3, run3⟩ := bnd_some (show bnd (f s xs[i]) _ st2 = some (fl, st') from run2)
    obtain ⟨go, yl⟩ := yy.2 _ hd
    refine .inr ⟨go, fun σ' H' => ∃ s Z' st3, SR X.K W (Γl s) σ' Z' H' st3 ∧ BSt W Γ σ Z H Z' H' ∧ OwLe Γ σ H (Γl s) σ' ∧ Sub Z1 Z' ∧ (∀ a o, A a → H1 a = some o → H' a = some o) ∧ (∀ a, ownA (Γl s) σ' a → ¬ A a) ∧ forL f k (xs.drop (i + 1)) s st3 = some (fl, st'), fun σ' H' hN => ?_, fun x H3 hy => ?_⟩
    · obtain ⟨s', Z', st3, q1, q2, q3, q4, q5, q6, q7⟩ := hN
      exact ⟨xs.length - (i + 1), by omega, s', Z', st3, rfl, hlt, q1, q2, q3, q4, q5, q6, q7⟩
    · obtain ⟨Z3, s3, b3, rx⟩ := yl x H3 hy
      have r3 := r2.step s3 b3
      have bs3 : BSt W Γ σ Z H Z3 H3 := bs2.trans (fun a o h => (s3.zh a o h).2) ow2 (Γ1 := Γl s) (σ1 := σ2) s3.bst
      have ka3 : ∀ a o, A a → H1 a = some o → H3 a = some o := fun a o ha h => s3.hh a o (ka2 a o ha h) (y1.1 a ha).2
      rcases hb s xs[i] with hb | ⟨Γ', vs, ⟨Γ1, v1, v2, t1, ⟨e1, _⟩, _⟩, _, hb⟩
      · rw [hb st2] at h3; cases h3
      · subst e1
        refine t1 X hX W σ2 Z3 H3 st2 x _ r3 rx fun σ3 r4 w4 o4 => ?_
        -- the body
        have fin : ∀ {s' : τ'} {σ' : L2.St} {Z' H' : Hp}, SR X.K W (Γl s') σ' Z' H' st3 → BSt W Γ' σ3 Z3 H3 Z' H' → OwLe Γ' σ3 H3 (Γl s') σ' →
            BSt W Γ σ Z H Z' H' ∧ OwLe Γ σ H (Γl s') σ' ∧ Sub Z1 Z' ∧ (∀ a o, A a → H1 a = some o → H' a = some o) ∧ (∀ a, ownA (Γl s') σ' a → ¬ A a) := by
          intro s' σ' Z' H' r' bs' ow'
          have ow3 : OwLe Γ σ H Γ' σ3 := fun a h => ow2 a (o4 a h)
          refine ⟨bs3.trans (fun a o h => (r'.zh a o h).2) ow3 bs', ow3.trans bs3 ow' fun a => r'.ownNb, (sz2.trans s3.zz).trans bs'.zz, fun a o ha h => ?_, fun a h ha => ?_⟩
          · exact bs'.hh a o (ka3 a o ha h) (y1.1 a ha).2 fun z => na2 a (o4 a z) ha
          · rcases ow' a h with z | z
            · exact na2 a (o4 a z) ha
            · obtain ⟨⟨o, ho⟩, _⟩ := y1.1 a ha
              rw [ka3 a o ha ho] at z; cases z
        refine hb X hX W σ3 Z3 H3 st2 g st3 _ r4 h3 ?_
        cases g with
        | nx s' =>
          intro σ' Z' H' r' bs' ow'
          obtain ⟨f1, f2, f3, f4, f5⟩ := fin r' bs' ow'
          exact ⟨s', Z', st3, r', f1, f2, f3, f4, f5, run3⟩
        | ct s' =>
          intro σ' Z' H' r' bs' ow'
          obtain ⟨f1, f2, f3, f4, f5⟩ := fin r' bs' ow'
          exact ⟨s', Z', st3, r', f1, f2, f3, f4, f5, run3⟩
        | bk s' =>
          intro σ' Z' H' r' bs' ow'
          obtain ⟨f1, f2, f3, f4, f5⟩ := fin r' bs' ow'
          exact hk s' X hX W σ' Z' H' st3 fl st' D r' run3 (q.after f1 f2)
        | rt d =>
          intro v Z' H' zh' b' bs' rv
          obtain ⟨rfl, rfl⟩ := ret_some run3
          have ow3 : OwLe Γ σ H Γ' σ3 := fun a h => ow2 a (o4 a h)
          exact q v Z' H' zh' b' (bs3.trans (fun a o h => (zh' a o h).2) ow3 bs') rv
  · have e : i = xs.length := by omega
    subst e
    rw [List.drop_length] at run2
    exact .inl ⟨yy.1 (Nat.le_refl _), hk s X hX W σ2 Z2 H2 st2 fl st' D r2 run2 (q.after bs2 ow2)⟩
/-! ### while -/
def whileL {S : Type} {τ τ' l' : Type} (c : τ → M S Bool) (f : τ → M S (Fl τ τ)) (k : τ → M S (Fl τ' l')) : Nat → τ → M S (Fl τ' l')
  | 0, _ => stuck
  | n + 1, s => bnd (c s) fun t => if t = true then bnd (f s) fun fl => match fl with
      | .nx s' => whileL c f k n s'
      | .ct s' => whileL c f k n s'
      | .bk s' => k s'
      | .rt d => Sn.ret (.rt d)
    else k s
theorem OkB.whileR {τ' : Type} {Γl : τ' → SCx} {mc : τ' → M S Bool} {f : τ' → M S (Fl τ' τ')} {k : τ' → M S (Fl τ l)} {s0 : τ'} {n0 : Nat} (h0 : Wk Γ (Γl s0)) (hc : ∀ s, OkT C (Γl s) c (mc s))
    (hb : ∀ s, OkB C (Γl s) body ⟨Γl, Γl⟩ (f s)) (hk : ∀ s, OkB C (Γl s) rest T (k s)) : OkB C Γ (.While c body [] pos :: rest) T (whileL mc f k n0 s0) := fun X hX W σ Z H st fl st' D r hm q => by
  refine tUS_of (pss_cons (ps_while (by rw [hX.xe]; exact PassesOwn.never) ptU pssU) pssU) ?_
  refine ⟨fun n σ' H' => ∃ s Z' st2, SR X.K W (Γl s) σ' Z' H' st2 ∧ BSt W Γ σ Z H Z' H' ∧ OwLe Γ σ H (Γl s) σ' ∧ whileL mc f k n s st2 = some (fl, st'), ⟨n0, s0, Z, st, r.wk h0, BSt.refl, fun a h => .inl (own_wk h0 h), hm⟩, ?_⟩
  rintro n σ2 H2 ⟨s, Z2, st2, r2, bs2, ow2, run2⟩
  cases n with
  | zero => exact (stuck_some run2).elim
  | succ n =>
    obtain ⟨t, st3, h3, run3⟩ := bnd_some (show bnd (mc s) _ st2 = some (fl, st') from run2)
    refine hc s X hX W σ2 Z2 H2 st2 t st3 _ r2 h3 fun Z3 H3 s3 b3 => ?_
    have r3 := r2.step s3 b3
    have bs3 : BSt W Γ σ Z H Z3 H3 := bs2.trans (fun a o h => (s3.zh a o h).2) ow2 (Γ1 := Γl s) (σ1 := σ2) s3.bst
    cases t with
    | true =>
      rw [if_pos rfl] at run3 ⊢
      obtain ⟨g, st4, h4, run4⟩ := bnd_some run3
      refine ⟨fun σ' H' => ∃ s Z' st4, SR X.K W (Γl s) σ' Z' H' st4 ∧ BSt W Γ σ Z H Z' H' ∧ OwLe Γ σ H (Γl s) σ' ∧ whileL mc f k n s st4 = some (fl, st'), fun σ' H' hN => ⟨n, Nat.lt_succ_self n, hN⟩, ?_⟩
      refine hb s X hX W σ2 Z3 H3 st3 g st4 _ r3 h4 ?_
      have fin : ∀ {s' : τ'} {σ' : L2.St} {Z' H' : Hp}, SR X.K W (Γl s') σ' Z' H' st4 → BSt W (Γl s) σ2 Z3 H3 Z' H' → OwLe (Γl s) σ2 H3 (Γl s') σ' → BSt W Γ σ Z H Z' H' ∧ OwLe Γ σ H (Γl s') σ' := by
        intro s' σ' Z' H' r' bs' ow'
        exact ⟨bs3.trans (fun a o h => (r'.zh a o h).2) ow2 bs', ow2.trans bs3 ow' fun a => r'.ownNb⟩
      cases g with
      | nx s' => intro σ' Z' H' r' bs' ow'; obtain ⟨f1, f2⟩ := fin r' bs' ow'; exact ⟨s', Z', st4, r', f1, f2, run4⟩
      | ct s' => intro σ' Z' H' r' bs' ow'; obtain ⟨f1, f2⟩ := fin r' bs' ow'; exact ⟨s', Z', st4, r', f1, f2, run4⟩
      | bk s' => intro σ' Z' H' r' bs' ow'; obtain ⟨f1, f2⟩ := fin r' bs' ow'; exact hk s' X hX W σ' Z' H' st4 fl st' D r' run4 (q.after f1 f2)
      | rt d =>
        intro v Z' H' zh' b' bs' rv
        obtain ⟨rfl, rfl⟩ := ret_some run4
        exact q v Z' H' zh' b' (bs3.trans (fun a o h => (zh' a o h).2) ow2 bs') rv
    | false =>
      rw [if_neg Bool.false_ne_true] at run3 ⊢
      exact hk s X hX W σ2 Z3 H3 st3 fl st' D r3 run3 (q.after bs3 ow2)
end
end Sn

namespace Sn
open PySem PySem.Spec PyProof.Rows L2

/-! ### defs -/
def spF (K : PySem.W.Frag) {S : Type} [BoxS S] (n : Nat) (m : List D → M S D) : Sp := fun vs H Q _ => vs.length = n ∧ ∃ (W : Wd) (Z : Hp) (ds : List D) (st : S) (d : D) (st' : S),
  (∀ a o, Z a = some o → H a = some o ∧ ¬ W.bx a) ∧ Sz H ∧ BoxS.R st W.β W.γ H ∧ RepL K W.β Z ds vs ∧ m ds st = some (d, st') ∧
  ∀ v Z' H', Stp W Z H Z' H' → BoxS.R st' W.β W.γ H' → Rep K W.β Z' d v → Q v H'
structure HasF {S : Type} [BoxS S] (G : Glob) (k : Nat) (x : Str) (n : Nat) (m : List D → M S D) : Prop where
  ex : ∃ (f : Addr) (fd : FuncData) (ps : List Str), G.mg x = some (.ref f) ∧ PySem.W.keepIn G.K (.ref f) = true ∧ Binds G.K fd ps [] ∧ FnOk G.P G.w G.K G.mg G.base CX0 k f fd ps (spF G.K n m)
section
variable {S : Type} [BoxS S] {C : Stat} {Γ Γ' : SCx} {e a b c : Expr} {es : List Expr} {rest body : List Stmt} {m : M S D} {pos p : Pos} {τ l : Type} {T : Tg τ l} {i : Nat} {x : Str}
theorem ResL.E_len {K : PySem.W.Frag} {W : Wd} {H Z' H' : Hp} : ∀ {ds : List D} {vs : List V} {mds : List Md}, ResL K W mds H Z' H' ds vs → vs.length = mds.length
  | [], [], [], _ => rfl
  | _ :: _, _ :: _, _ :: _, ⟨_, r⟩ => by rw [List.length_cons, List.length_cons, ResL.E_len r]
  | [], [], _ :: _, h => h.elim
  | [], _ :: _, [], h => h.elim
  | [], _ :: _, _ :: _, h => h.elim
  | _ :: _, [], [], h => h.elim
  | _ :: _, [], _ :: _, h => h.elim
  | _ :: _, _ :: _, [], h => h.elim
theorem Ok.call {n : Nat} {mf : List D → M S D} {mds : List Md} {ma : M S (List D)} {j : Nat} (h : HasF C.G j x n mf) (hj : j ≤ C.k) (hg : C.sc.names.lookup x = some .globalImplicit) (ha : OkA mds C Γ (e :: es) ma) (hE : ∀ md ∈ mds, md = Md.E := by decide) (hn : mds.length = n := by rfl)
    (hp : plainArg e = true := by rfl) (hd : (x == ("__debug__" : Str)) = false := by decide) (hes : ∀ env : Env, (backTo pos (starEach es env)).any (·.1) = false := by intro _; rfl) :
    Ok .E C Γ (.Call (.Name x p) (e :: es) [] pos) (bnd ma mf) := fun X hX W σ Z H st d st' Q r hm q => by
  obtain ⟨ds, st1, h1, hm1⟩ := bnd_some hm
  obtain ⟨f, fd, ps, g1, g2, g3, g4⟩ := h.ex
  have F : FnOk X.prog X.w X.K X.mg X.base CX0 j f fd ps (spF X.K n mf) := by rw [hX.prog, hX.w, hX.K, hX.mg, hX.base]; exact g4
  refine tU_of (pe_call (E := E0) (dvs := []) (ds := []) F (hX.room.mono hj) (hX.glob hg) (by rw [hX.mg]; exact g1) (by rw [hX.K]; exact g2) (by rw [hX.K]; exact g3) .nil pass0 paU hd (starEach_plain _ hp) (hes _)) ?_
  refine ha X hX W σ Z H st ds st1 _ r h1 fun vs Z1 H1 s1 b1 r1 => ?_
  rw [List.append_nil]
  refine ⟨by rw [r1.E_len, hn], W, Z1, ds, st1, d, st', s1.zh, s1.sz r.sz, b1, ResL.E_repL hE r1, hm1, fun v Z2 H2 s2 b2 r2 => ?_⟩
  exact q v Z2 H2 (s1.trans s2) b2 r2
/-- f() -/
theorem Ok.call0 {mf : List D → M S D} {j : Nat} (h : HasF C.G j x 0 mf) (hj : j ≤ C.k) (hg : C.sc.names.lookup x = some .globalImplicit) (hd : (x == ("__debug__" : Str)) = false := by decide) : Ok .E C Γ (.Call (.Name x p) [] [] pos) (mf []) := fun X hX W σ Z H st d st' Q r hm q => by
  obtain ⟨f, fd, ps, g1, g2, g3, g4⟩ := h.ex
  have F : FnOk X.prog X.w X.K X.mg X.base CX0 j f fd ps (spF X.K 0 mf) := by rw [hX.prog, hX.w, hX.K, hX.mg, hX.base]; exact g4
  refine tU_of (pe_call0 (E := E0) (dvs := []) (ds := []) F (hX.room.mono hj) (hX.glob hg) (by rw [hX.mg]; exact g1) (by rw [hX.K]; exact g2) (by rw [hX.K]; exact g3) .nil pass0 hd) ?_
  exact ⟨rfl, W, Z, [], st, d, st', r.zh, r.sz, r.box, .nil, hm, fun v Z2 H2 s2 b2 r2 => q v Z2 H2 s2 b2 r2⟩
def endF {S : Type} {l : Type} : Fl Unit l → M S D
  | .nx _ => ret .non
  | .rt d => ret d
  | _ => stuck
theorem RepL.start {K : PySem.W.Frag} {β : Addr} {Z : Hp} {N : List Str} : ∀ {ds : List D} {vs : List V}, RepL K β Z ds vs → ∀ (i : Nat) (d : D), (ds.map fun d => some (En.frz d))[i]? = some (some (En.frz d)) → ∃ v, (vs.map some)[i]? = some (some v) ∧ Rep K β Z d v
  | ds, vs, r, i, d, h => by
    rw [List.getElem?_map] at h
    cases e : ds[i]? with
    | none => rw [e] at h; cases h
    | some d' =>
      rw [e] at h
      simp only [Option.map_some, Option.some.injEq, En.frz.injEq] at h
      subst h
      obtain ⟨v, h1, h2⟩ := r.get e
      exact ⟨v, by rw [List.getElem?_map, h1]; rfl, h2⟩
def startΓ (N : List Str) (ds : List D) : SCx := (ds.map fun d => some (En.frz d)) ++ List.replicate (N.length - ds.length) none
/-- a def of the text keeps the promise that its body's mirror makes -/
theorem hasF_mk {G : Glob} {st : Stmt} {f : Addr} {fd : FuncData} {N ps : List Str} {k n : Nat} {mb : List D → M S (Fl Unit Unit)} {qual : Str} (hm : G.mg x = some (.ref f)) (F : Fun G.K x qual st f fd) (Sc : FnScope N ps (defScope st)) (hB : Binds G.K fd ps []) (hn : ps.length = n)
    (hbody : ∀ ds : List D, ds.length = n → OkB ⟨G, N, defScope st, k, fun _ => true⟩ (startΓ N ds) (defBody st) ⟨fun _ : Unit => List.replicate N.length none, fun _ : Unit => List.replicate N.length none⟩ (mb ds)) : HasF G (k + 1) x n fun ds => bnd (mb ds) endF := by
  refine ⟨f, fd, ps, hm, F.kp, hB, F.ok Sc (fun vs H Q E h => by rw [hn]; exact h.1) fun cdv A outer s H vs Q E hr h => ?_⟩
  obtain ⟨hl, W, Z, ds, st0, d, st', zh, sz, bx, rl, hm1, q⟩ := h
  obtain ⟨fl, st1, h1, h2⟩ := bnd_some hm1
  refine ⟨_, pssU, ?_⟩
  have hpl : ps.length ≤ N.length := by have := congrArg List.length Sc.pre; rw [List.length_take] at this; omega
  have dl : ds.length = vs.length := rl.length
  refine hbody ds (by rw [dl, hl]) _ ⟨rfl, rfl, rfl, rfl, rfl, rfl, rfl, Sc.nd, rfl, hr, rfl, fun _ _ => rfl⟩ W (start N vs) Z H st0 fl st1 _ ?_ h1 ?_
  · refine ⟨?_, sz, bx, zh, fun i d' h => ?_, fun i d' h => ?_, fun i j d' e' a h => ?_⟩
    · unfold startΓ L2.start
      simp only [List.length_append, List.length_map, List.length_replicate, dl]
    · unfold startΓ at h
      unfold L2.start
      by_cases hi : i < ds.length
      · rw [List.getElem?_append_left (by simpa using hi)] at h
        rw [List.getElem?_append_left (by simpa [← dl] using hi)]
        exact RepL.start (N := N) rl i d' h
      · rw [List.getElem?_append_right (by simp; omega)] at h
        rw [List.getElem?_replicate] at h
        split at h <;> simp at h
    · unfold startΓ at h
      by_cases hi : i < ds.length
      · rw [List.getElem?_append_left (by simpa using hi), List.getElem?_map] at h
        cases e : ds[i]? with
        | none => rw [e] at h; cases h
        | some d2 => rw [e] at h; simp at h
      · rw [List.getElem?_append_right (by simp; omega), List.getElem?_replicate] at h
        split at h <;> simp at h
    · unfold startΓ at h
      by_cases hi : i < ds.length
      · rw [List.getElem?_append_left (by simpa using hi), List.getElem?_map] at h
        cases e : ds[i]? with
        | none => rw [e] at h; cases h
        | some d2 => rw [e] at h; simp at h
      · rw [List.getElem?_append_right (by simp; omega), List.getElem?_replicate] at h
        split at h <;> simp at h
  · have noOwn : ∀ a, ¬ ownA (startΓ N ds) (start N vs) a := fun a ⟨i, d', h, _⟩ => by
      unfold startΓ at h
      by_cases hi : i < ds.length
      · rw [List.getElem?_append_left (by simpa using hi), List.getElem?_map] at h
        cases e : ds[i]? with
        | none => rw [e] at h; cases h
        | some d2 => rw [e] at h; simp at h
      · rw [List.getElem?_append_right (by simp; omega), List.getElem?_replicate] at h
        split at h <;> simp at h
    have st_of : ∀ {Z' H' : Hp}, (∀ a o, Z' a = some o → H' a = some o ∧ ¬ W.bx a) → BSt W (startΓ N ds) (start N vs) Z H Z' H' → Stp W Z H Z' H' := fun zh' bs =>
      ⟨bs.zz, zh', fun a o h nb => bs.hh a o h nb (noOwn a), fun a o h => (bs.nw a o h).elim .inl fun w => w.elim .inr fun z => (noOwn a z).elim, bs.sz⟩
    cases fl with
    | nx s =>
      intro σ' Z' H' r' bs' _
      obtain ⟨rfl, rfl⟩ := ret_some h2
      exact q _ Z' H' (st_of r'.zh bs') r'.box .non
    | rt d' =>
      intro v Z' H' zh' b' bs' rv
      obtain ⟨rfl, rfl⟩ := ret_some h2
      exact q v Z' H' (st_of zh' bs') b' rv
    | bk s => exact (stuck_some (S := S) (α := D) (s := st1) h2).elim
    | ct s => exact (stuck_some (S := S) (α := D) (s := st1) h2).elim
end

/-! ### comprehensions -/
def Stat.blk (C : Stat) (scope : Scope) : Stat := ⟨C.G, C.N, relS scope C.sc, C.k, fun x => scope.names.lookup x == some .cell⟩
theorem CtxP.blk {C : Stat} {X : Cx} (h : CtxP C X) (scope : Scope) (s : Shared) (H : Hp) (C' : Addr) (cl : List (Str × Addr)) (fp : List Addr) : CtxP (C.blk scope) (X.blk s H scope (compEnvC scope cl C' X.env) fp) :=
  ⟨h.prog, h.w, h.K, h.mg, h.base, h.N, by show relS scope X.env.scope = relS scope C.sc; rw [h.sc], h.nd, h.calm, h.room, rfl, fun _ q => q⟩
def wipeΓ (Γ : SCx) : List Nat → SCx
  | [] => Γ
  | v :: vs => (wipeΓ Γ vs).set v none
section
variable {S : Type} [BoxS S] {K : PySem.W.Frag} {W : Wd} {Γ : SCx} {σ : L2.St} {Z H : Hp} {st : S}
theorem wipeΓ_some {i : Nat} {e : En} : ∀ {vs : List Nat}, (wipeΓ Γ vs)[i]? = some (some e) → Γ[i]? = some (some e) ∧ i ∉ vs
  | [], h => ⟨h, by simp⟩
  | v :: vs, h => by
    unfold wipeΓ at h
    rcases set_cases h with ⟨rfl, he, hl⟩ | ⟨hn, h⟩
    · cases he
    · obtain ⟨h1, h2⟩ := wipeΓ_some h
      exact ⟨h1, by simp only [List.mem_cons, not_or]; exact ⟨hn, h2⟩⟩
theorem wipeΓ_len : ∀ {vs : List Nat}, (wipeΓ Γ vs).length = Γ.length
  | [] => rfl
  | v :: vs => by unfold wipeΓ; rw [List.length_set, wipeΓ_len]
theorem wipe_get {i : Nat} : ∀ {vs : List Nat}, i ∉ vs → (wipe σ vs)[i]? = σ[i]?
  | [], _ => rfl
  | v :: vs, h => by
    simp only [List.mem_cons, not_or] at h
    unfold wipe
    rw [List.getElem?_set_ne (Ne.symm h.1), wipe_get h.2]
theorem SR.wipe {vs : List Nat} (r : SR K W Γ σ Z H st) : SR K W (wipeΓ Γ vs) (L2.wipe σ vs) Z H st where
  ln := by rw [wipeΓ_len, wipe_length]; exact r.ln
  sz := r.sz
  box := r.box
  zh := r.zh
  frz := fun i d h => by
    obtain ⟨h1, h2⟩ := wipeΓ_some h
    rw [wipe_get h2]; exact r.frz i d h1
  own := fun i d h => by
    obtain ⟨h1, h2⟩ := wipeΓ_some h
    rw [wipe_get h2]; exact r.own i d h1
  dis := fun i j d e a h1 h2 h3 h4 => by
    obtain ⟨g1, n1⟩ := wipeΓ_some h1
    obtain ⟨g2, n2⟩ := wipeΓ_some h2
    rw [wipe_get n1] at h3
    rw [wipe_get n2] at h4
    exact r.dis i j d e a g1 g2 h3 h4
end
def tUTs (X : Cx) (ifs : List Expr) : TT := fun σ H Q => ∀ (pins : List (Addr × Obj)) (s : Shared), Inv X pins σ H s →
    wpAny (model X.prog X.w) X.A (forIn ifs true fun c r => if r = true then do let ok ← isTrue c X.env (eval c X.env); pure (ForInStep.yield ok) else pure (ForInStep.yield r)) (TP X pins σ Q) X.xe s
theorem ptsU {X : Cx} {ifs : List Expr} : PTs X ifs (tUTs X ifs) := ⟨fun pins s _ _ _ I h => h pins s I⟩
theorem tUTs_of {X : Cx} {ifs : List Expr} {t : TT} {σ : L2.St} {H : Hp} {Q : Bool → Hp → Prop} (h : PTs X ifs t) (q : t σ H Q) : tUTs X ifs σ H Q := fun pins s I => h.run pins s σ H Q I q
def OkTs {S : Type} [BoxS S] (C : Stat) (Γ : SCx) (ifs : List Expr) (m : M S Bool) : Prop :=
  ∀ X, CtxP C X → ∀ (W : Wd) (σ : L2.St) (Z H : Hp) (st : S) (d : Bool) (st' : S) (Q : Bool → Hp → Prop), SR X.K W Γ σ Z H st → m st = some (d, st') →
    (∀ Z' H', Stp W Z H Z' H' → BoxS.R st' W.β W.γ H' → Q d H') → tUTs X ifs σ H Q
section
variable {S : Type} [BoxS S] {C : Stat} {Γ Γ' : SCx} {c elt tg iter tg1 iter1 : Expr} {ifs ifs1 : List Expr} {pos : Pos}
theorem OkTs.nil : OkTs (S := S) C Γ [] (ret true) := fun X hX W σ Z H st d st' Q r hm q => by
  obtain ⟨rfl, rfl⟩ := ret_some hm
  exact tUTs_of pts_nil (q Z H r.refl r.box)
theorem OkTs.one {n : M S Bool} (h : OkT C Γ c n) : OkTs C Γ [c] n := fun X hX W σ Z H st d st' Q r hm q => tUTs_of (pts_one ptU) (h X hX W σ Z H st d st' Q r hm q)
def compL {S α β : Type} (f : α → M S (Option β)) : List α → M S (List β)
  | [] => ret []
  | x :: xs => bnd (f x) fun o => bnd (compL f xs) fun ys => ret (match o with | some y => y :: ys | none => ys)
/-- a clause's tests, then the element -/
def eltM {S : Type} (mt : M S Bool) (me : M S D) : M S (Option D) := bnd mt fun t => if t = true then bnd me fun y => ret (some y) else ret none
theorem compL_len {S α β : Type} {f : α → M S (Option β)} : ∀ {xs : List α} {st st' : S} {ys : List β}, compL f xs st = some (ys, st') → ys.length ≤ xs.length
  | [], st, st', ys, h => by obtain ⟨rfl, rfl⟩ := ret_some h; exact Nat.le_refl _
  | x :: xs, st, st', ys, h => by
    obtain ⟨o, st1, h1, h2⟩ := bnd_some (show bnd (f x) _ st = some (ys, st') from h)
    obtain ⟨zs, st2, h3, h4⟩ := bnd_some h2
    obtain ⟨rfl, rfl⟩ := ret_some h4
    have := compL_len h3
    cases o with
    | none => exact Nat.le_succ_of_le this
    | some y => exact Nat.succ_le_succ this
/-- the readings that any parts of a comprehension's block have -/
def bG (X : Cx) (scope : Scope) (tg : Expr) : TG := fun v σ H Q => ∀ (s : Shared) (H0 : Hp) (C' : Addr) (cl : List (Str × Addr)) (fp : List Addr), tUG (X.blk s H0 scope (compEnvC scope cl C' X.env) fp) tg v σ H Q
def bT (X : Cx) (scope : Scope) (ifs : List Expr) : TT := fun σ H Q => ∀ (s : Shared) (H0 : Hp) (C' : Addr) (cl : List (Str × Addr)) (fp : List Addr), tUTs (X.blk s H0 scope (compEnvC scope cl C' X.env) fp) ifs σ H Q
def bE (X : Cx) (scope : Scope) (e : Expr) : TE := fun σ H Q => ∀ (s : Shared) (H0 : Hp) (C' : Addr) (cl : List (Str × Addr)) (fp : List Addr), tU (X.blk s H0 scope (compEnvC scope cl C' X.env) fp) e σ H Q
def bI (X : Cx) (scope : Scope) (tg e : Expr) : TI := fun σ H Q => ∀ (s : Shared) (H0 : Hp) (C' : Addr) (cl : List (Str × Addr)) (fp : List Addr), tUI (X.blk s H0 scope (compEnvC scope cl C' X.env) fp) tg e σ H Q
theorem bG_ok {X : Cx} {scope : Scope} (s : Shared) (H0 : Hp) (C' : Addr) (cl : List (Str × Addr)) (fp : List Addr) : PG (X.blk s H0 scope (compEnvC scope cl C' X.env) fp) tg (bG X scope tg) := ⟨fun pins s' σ' H' v u Q' I rv h => h s H0 C' cl fp pins s' u I rv⟩
theorem bT_ok {X : Cx} {scope : Scope} (s : Shared) (H0 : Hp) (C' : Addr) (cl : List (Str × Addr)) (fp : List Addr) : PTs (X.blk s H0 scope (compEnvC scope cl C' X.env) fp) ifs (bT X scope ifs) := ⟨fun pins s' σ' H' Q' I h => h s H0 C' cl fp pins s' I⟩
theorem bE_ok {X : Cx} {scope : Scope} (s : Shared) (H0 : Hp) (C' : Addr) (cl : List (Str × Addr)) (fp : List Addr) : PE (X.blk s H0 scope (compEnvC scope cl C' X.env) fp) elt (bE X scope elt) := ⟨fun pins s' σ' H' Q' I h => h s H0 C' cl fp pins s' I⟩
theorem bI_ok {X : Cx} {scope : Scope} (s : Shared) (H0 : Hp) (C' : Addr) (cl : List (Str × Addr)) (fp : List Addr) : PI (X.blk s H0 scope (compEnvC scope cl C' X.env) fp) tg iter (bI X scope tg iter) := ⟨fun pins s' σ' H' Q' I h => h s H0 C' cl fp pins s' I⟩
/-- the run from the i-th item on, the list so far -/
theorem lc_rd {scope : Scope} (own : List (Str × Nat)) {mi : M S (List D)} {f : D → M S (Option D)} (hi : OkI false C Γ tg iter mi)
    (hb : ∀ d, BindOk (C.blk scope) (wipeΓ Γ (own.map (·.2))) [tg] [d] (fun i => i ∈ own.map (·.2)) (fun Γ' n => ∃ mt me, OkTs (C.blk scope) Γ' ifs mt ∧ Ok .E (C.blk scope) Γ' elt me ∧ n = eltM mt me) (f d))
    (X : Cx) (hX : CtxP C X) (W : Wd) (σ : L2.St) (Z H : Hp) (st : S) (d : D) (st' : S) (Q : VK) (r : SR X.K W Γ σ Z H st) (hm : (bnd mi fun xs => if xs.length ≤ sizeLine then bnd (compL f xs) fun ys => ret (.lst ys) else stuck) st = some (d, st'))
    (q : ∀ v Z' H', Stp W Z H Z' H' → BoxS.R st' W.β W.γ H' → Res X.K W .N H Z' H' d v → Q v H') : tLc (tUI X tg iter) (bG X scope tg) (bT X scope ifs) (bE X scope elt) (own.map (·.2)) σ H Q := by
  obtain ⟨xs, st1, h1, hm1⟩ := bnd_some hm
  by_cases hxs : xs.length ≤ sizeLine
  · rw [if_pos hxs] at hm1
    obtain ⟨ys, st2, h2, hm2⟩ := bnd_some hm1
    obtain ⟨rfl, rfl⟩ := ret_some hm2
    refine hi X hX W σ Z H st xs st1 _ r h1 fun J A Z1 H1 s1 b1 y1 _ => fun D hD => ?_
    have r1 := r.step s1 b1
    have nbD : ¬ W.bx D := BoxS.bxThere b1 hD
    have zD : Z1 D = none := z_none s1.zh hD
    refine ⟨fun i n H' => ∃ Z' acc dacc st3 rst, n = xs.length - i ∧ i ≤ xs.length ∧ Stp W Z1 (upd H1 D (.lst [])) Z' (upd H' D (.lst [])) ∧ H' D = some (.lst acc) ∧ Z' D = none ∧ (∀ a o, Z' a = some o → H' a = some o ∧ ¬ W.bx a) ∧ Sz H' ∧ acc.length ≤ i ∧ BoxS.R st3 W.β W.γ H' ∧ RepL X.K W.β Z' dacc acc ∧ compL f (xs.drop i) st3 = some (rst, st') ∧ ys = dacc ++ rst,
      ⟨xs.length, Z1, [], [], st1, ys, by omega, Nat.zero_le _, ?_, upd_same, zD, fun a o h => ⟨by rw [upd_ne (ne_of_none (s1.zh a o h).1 hD)]; exact (s1.zh a o h).1, (s1.zh a o h).2⟩, (s1.sz r.sz).upd (Nat.zero_le _), Nat.le_refl _, box_lay b1 hD, .nil, h2, rfl⟩, ?_⟩
    · rw [upd_upd]
      exact Stp.refl fun a o h => ⟨by rw [upd_ne (ne_of_none (s1.zh a o h).1 hD)]; exact (s1.zh a o h).1, (s1.zh a o h).2⟩
    rintro i n H2 ⟨Z2, acc, dacc, st3, rst, rfl, hi2, s2, hD2, zD2, zh2, sz2, hac, b2, rl2, run2, ey⟩
    have ka : ∀ a o, A a → H1 a = some o → H2 a = some o := fun a o ha h => by
      have hne : a ≠ D := ne_of_none h hD
      have := s2.hh a o (by rw [upd_ne hne]; exact h) (y1.1 a ha).2
      rwa [upd_ne hne] at this
    have yy := y1.2 i Z2 H2 st3 s2.zz zh2 ka sz2 b2
    -- the slots behind
    have rr : SR X.K W Γ σ Z2 H2 st3 := by
      have q1 : Stp W Z1 H1 Z2 H2 := ⟨s2.zz, zh2, fun a o h nb => by
          have hne : a ≠ D := ne_of_none h hD
          have := s2.hh a o (by rw [upd_ne hne]; exact h) nb
          rwa [upd_ne hne] at this, fun a o h => by
          rcases s2.nw a o h with w | w
          · exact .inl w
          · by_cases e : a = D
            · subst e; rw [zD2] at h; cases h
            · rw [upd_ne e] at w; exact .inr w, fun _ => sz2⟩
      exact r1.step q1 b2
    by_cases hlt : i < xs.length
    · have hd : xs[i]? = some xs[i] := List.getElem?_eq_getElem hlt
      rw [List.drop_eq_getElem_cons hlt] at run2
      obtain ⟨o, st4, h4, run3⟩ := bnd_some (show bnd (f xs[i]) _ st3 = some (rst, st') from run2)
      obtain ⟨zs, st5, h5, run4⟩ := bnd_some run3
      obtain ⟨er, rfl⟩ := ret_some run4
      obtain ⟨go, yl⟩ := yy.2 _ hd
      refine .inr ⟨go, fun H' => ∃ Z' acc dacc st3 rst, Stp W Z1 (upd H1 D (.lst [])) Z' (upd H' D (.lst [])) ∧ H' D = some (.lst acc) ∧ Z' D = none ∧ (∀ a o, Z' a = some o → H' a = some o ∧ ¬ W.bx a) ∧ Sz H' ∧ acc.length ≤ i + 1 ∧ BoxS.R st3 W.β W.γ H' ∧ RepL X.K W.β Z' dacc acc ∧ compL f (xs.drop (i + 1)) st3 = some (rst, st') ∧ ys = dacc ++ rst, fun H' hN => ?_, fun x H3 hy => ?_⟩
      · obtain ⟨Z', acc, dacc, st3, rst, q1, q2, q3, q4, q5, q6, q7, q8, q9, q10⟩ := hN
        exact ⟨xs.length - (i + 1), by omega, Z', acc, dacc, st3, rst, rfl, hlt, q1, q2, q3, q4, q5, q6, q7, q8, q9, q10⟩
      · obtain ⟨Z3, s3, b3, rx⟩ := yl x H3 hy
        intro s0 H0 C' cl fp
        have hXb := hX.blk scope s0 H0 C' cl fp
        rcases hb xs[i] with hb' | ⟨Γ', vs, ht, hvs, mt, me, ot, oe, en⟩
        · rw [hb' st3] at h4; cases h4
        · obtain ⟨Γ1, v1, v2, t1, ⟨e1, e2⟩, e3⟩ := ht
          subst e1
          subst e2
          rw [List.append_nil] at e3
          subst e3
          rw [en] at h4
          obtain ⟨t, st6, h6, h7⟩ := bnd_some h4
          refine t1 _ hXb W (wipe σ (own.map (·.2))) Z3 H3 st3 x _ ((rr.step s3 b3).wipe) rx fun σ3 r4 w4 o4 => ?_
          refine ⟨by
            have := w4 (own.map (·.2)) hvs
            rw [this]
            have idem : ∀ (us ws : List Nat) (ρ : L2.St), (∀ i ∈ us, i ∈ ws) → wipe (wipe ρ us) ws = wipe ρ ws := by
              intro us ws ρ
              induction us with
              | nil => intro _; rfl
              | cons u us ih =>
                intro h
                show wipe ((wipe ρ us).set u none) ws = wipe ρ ws
                rw [wipe_set (h u List.mem_cons_self), ih fun i hi => h i (List.mem_cons_of_mem _ hi)]
            exact idem _ _ σ fun _ h => h, fun s5 H5 C5 cl5 fp5 => ?_⟩
          have hXc := hX.blk scope s5 H5 C5 cl5 fp5
          refine ot _ hXc W σ3 Z3 H3 st3 t st6 _ r4 h6 fun Z6 H6 s6 b6 => ?_
          have s36 := s3.trans s6
          have D6 : H6 D = some (.lst acc) := s36.hh D _ hD2 nbD
          have zD6 : Z6 D = none := by
            cases q : Z6 D with
            | none => rfl
            | some u =>
              rcases s36.nw D u q with w | w
              · rw [zD2] at w; cases w
              · rw [hD2] at w; cases w
          have push : ∀ {H' Z' Hn : Hp} {ac : List V}, Stp W Z2 H2 Z' H' → Z' D = none → SzO (.lst ac) → Stp W Z1 (upd H1 D (.lst [])) Z' (upd (upd H' D (.lst ac)) D (.lst [])) := by
            intro H' Z' Hn ac sx zx _
            rw [upd_upd]
            refine s2.trans ⟨sx.zz, fun a o h => ?_, fun a o h nb => ?_, fun a o h => ?_, fun hs => ?_⟩
            · have hne : a ≠ D := fun z => by rw [z, zx] at h; cases h
              exact ⟨by rw [upd_ne hne]; exact (sx.zh a o h).1, (sx.zh a o h).2⟩
            · rcases upd_get h with ⟨rfl, rfl⟩ | ⟨hne, h⟩
              · exact upd_same
              · rw [upd_ne hne]; exact sx.hh a o h nb
            · rcases sx.nw a o h with w | w
              · exact .inl w
              · by_cases e : a = D
                · subst e; rw [zx] at h; cases h
                · exact .inr (by rw [upd_ne e]; exact w)
            · exact (sx.sz sz2).upd (Nat.zero_le _)
          have zhp : ∀ {H' Z' : Hp} {ac : List V}, (∀ a o, Z' a = some o → H' a = some o ∧ ¬ W.bx a) → Z' D = none → ∀ a o, Z' a = some o → (upd H' D (.lst ac)) a = some o ∧ ¬ W.bx a := by
            intro H' Z' ac zx zn a o h
            have hne : a ≠ D := fun z => by rw [z, zn] at h; cases h
            exact ⟨by rw [upd_ne hne]; exact (zx a o h).1, (zx a o h).2⟩
          have bxp : ∀ {H' : Hp} {ac : List V} {s' : S}, BoxS.R s' W.β W.γ H' → BoxS.R s' W.β W.γ (upd H' D (.lst ac)) := fun b => BoxS.congr b (upd_ne fun e => nbD (.inl e.symm)) (upd_ne fun e => nbD (.inr e.symm))
          cases t with
          | true =>
            rw [if_pos rfl] at h7 ⊢
            obtain ⟨y, st7, h8, h9⟩ := bnd_some h7
            obtain ⟨rfl, rfl⟩ := ret_some h9
            intro s8 H8 C8 cl8 fp8
            have hXd := hX.blk scope s8 H8 C8 cl8 fp8
            refine oe _ hXd W σ3 Z6 H6 st6 y _ _ (r4.step s6 b6) h8 fun v Z7 H7 s7 b7 r7 => ?_
            have s37 := s36.trans s7
            have D7 : H7 D = some (.lst acc) := s37.hh D _ hD2 nbD
            have zD7 : Z7 D = none := by
              cases q : Z7 D with
              | none => rfl
              | some u =>
                rcases s37.nw D u q with w | w
                · rw [zD2] at w; cases w
                · rw [hD2] at w; cases w
            have hlen : (acc ++ [v]).length ≤ sizeLine := by rw [List.length_append, List.length_singleton]; omega
            refine ⟨acc, D7, by omega, Z7, acc ++ [v], dacc ++ [y], st4, zs, push (Hn := H7) s37 zD7 hlen, upd_same, zD7, zhp s37.zh zD7, (s37.sz sz2).upd hlen, by rw [List.length_append, List.length_singleton]; omega, bxp b7, (rl2.mono s37.zz).append (.cons r7 .nil), h5, ?_⟩
            rw [ey, er, List.append_assoc]; rfl
          | false =>
            rw [if_neg Bool.false_ne_true] at h7 ⊢
            obtain ⟨rfl, rfl⟩ := ret_some h7
            refine ⟨Z6, acc, dacc, st4, zs, ?_, D6, zD6, s36.zh, s36.sz sz2, by omega, b6, rl2.mono s36.zz, h5, by rw [ey, er]⟩
            have := push (Hn := H6) (ac := []) s36 zD6 (Nat.zero_le _)
            rwa [upd_upd] at this
    · have e : i = xs.length := by omega
      subst e
      rw [List.drop_length] at run2
      obtain ⟨rfl, rfl⟩ := ret_some run2
      rw [List.append_nil] at ey
      subst ey
      refine .inl ⟨yy.1 (Nat.le_refl _), ?_⟩
      refine q (.ref D) Z2 H2 ⟨s1.zz.trans s2.zz, zh2, fun a o h nb => ?_, fun a o h => ?_, fun _ => sz2⟩ b2 ⟨⟨D, acc, rfl, hD2, rl2⟩, fun a ea _ => ?_⟩
      · have h' := s1.hh a o h nb
        have hne : a ≠ D := ne_of_none h' hD
        have := s2.hh a o (by rw [upd_ne hne]; exact h') nb
        rwa [upd_ne hne] at this
      · rcases s2.nw a o h with w | w
        · exact s1.nw a o w
        · by_cases e : a = D
          · subst e; rw [zD2] at h; cases h
          · rw [upd_ne e] at w
            cases q' : H a with
            | none => exact .inr rfl
            | some u => rw [s1.hh a u q' (zh2 a o h).2] at w; cases w
      · cases ea
        exact ⟨fresh_back r.box b1 s1 hD, zD2, nbD⟩
  · rw [if_neg hxs] at hm1; exact (stuck_some hm1).elim
/-- a comprehension, as a value and as what a name is bound to -/
def OkC (C : Stat) (Γ : SCx) (e : Expr) (m : M S D) : Prop :=
  Ok .N C Γ e m ∧ ∀ X, CtxP C X → ∀ (i : Nat) (y : Str) (py spos : Pos), C.N[i]? = some y → C.sc.names.lookup y = some .local → swapsWith e (some (.Name y py)) spos.line X.env = pure true →
    ∀ (W : Wd) (σ : L2.St) (Z H : Hp) (st : S) (d : D) (st' : S), SR X.K W Γ σ Z H st → m st = some (d, st') →
      ∃ te, PS X (.Assign [.Name y py] e spos) (tAsg te (gName i)) ∧ ∀ Q : VK, (∀ v Z' H', Stp W Z H Z' H' → BoxS.R st' W.β W.γ H' → Res X.K W .N H Z' H' d v → Q v H') → te σ H Q
theorem Ok.lc {scope : Scope} (own : List (Str × Nat)) {mi : M S (List D)} {f : D → M S (Option D)} (hi : OkI false C Γ tg iter mi)
    (hb : ∀ d, BindOk (C.blk scope) (wipeΓ Γ (own.map (·.2))) [tg] [d] (fun i => i ∈ own.map (·.2)) (fun Γ' n => ∃ mt me, OkTs (C.blk scope) Γ' ifs mt ∧ Ok .E (C.blk scope) Γ' elt me ∧ n = eltM mt me) (f d))
    (ok : blkC C.N C.sc scope own = true := by (try dsimp only [Stat.blk]); decide +kernel) (hs : ∀ (env : Env) x, foldedSetIterable iter env x = pure x := by intro _ _; rfl) : OkC C Γ (.ListComp elt [⟨tg, iter, ifs, 0⟩] scope pos) (bnd mi fun xs => if xs.length ≤ sizeLine then bnd (compL f xs) fun ys => ret (.lst ys) else stuck) := by
  refine ⟨fun X hX W σ Z H st d st' Q r hm q => ?_, fun X hX i y py spos hN hyl hsw W σ Z H st d st' r hm => ?_⟩
  · exact tU_of (pe_lc (own := own) hX.calm (by rw [hX.N]; exact hX.nd) piU (blkOk_by (by rw [hX.N, hX.sc]; exact ok)) bG_ok bT_ok bE_ok (hs _)) (lc_rd own hi hb X hX W σ Z H st d st' Q r hm q)
  · exact ⟨_, ps_setLc (own := own) hX.calm (by rw [hX.N]; exact hX.nd) (by rw [hX.N]; exact hN) (by rw [hX.sc]; exact hyl) hsw piU (blkOk_by (by rw [hX.N, hX.sc]; exact ok)) bG_ok bT_ok bE_ok (hs _), fun Q q => lc_rd own hi hb X hX W σ Z H st d st' Q r hm q⟩
theorem OkC.n {e : Expr} {m : M S D} (h : OkC C Γ e m) : Ok .N C Γ e m := h.1
/-- name = [..] on one line -/
theorem OkB.setC {τ l : Type} {T : Tg τ l} {rest : List Stmt} {m : M S D} {k : D → M S (Fl τ l)} {i : Nat} {x : Str} {pos' : Pos} {gs : List Comprehension} {scope : Scope} {cpos : Pos} (hN : C.N[i]? = some x) (hx : C.sc.names.lookup x = some .local) (hfk : C.sc.kind = .function) (he : OkC C Γ (.ListComp elt gs scope cpos) m) (hb : ∀ d, OkB C (Γ.set i (some (.frz d))) rest T (k d))
    (ha : (scope.names.any fun (n, k) => n == x && (k == .local || k == .cell)) = false := by decide +kernel) (hl : (pos'.line == cpos.line) = true := by rfl) : OkB C Γ (.Assign [.Name x pos'] (.ListComp elt gs scope cpos) pos :: rest) T (bnd m k) := fun X hX W σ Z H st f st' D r hm q => by
  obtain ⟨d, st1, h1, hm1⟩ := bnd_some hm
  obtain ⟨te, ps, qe⟩ := he.2 X hX i x pos' pos hN hx (sw_true (by rw [hX.sc]; exact hfk) (by rw [hX.sc]; exact hx) hl ha) W σ Z H st d st1 r h1
  refine tUS_of (pss_cons ps pssU) (qe _ fun v Z1 H1 s1 b1 r1 => ?_)
  have r1' : ∃ Z2, Stp W Z H Z2 H1 ∧ Rep X.K W.β Z2 d v := by
    by_cases mu : isMut d = true
    · obtain ⟨q4, q5⟩ := r1
      have hv : ∃ p o, v = .ref p ∧ H1 p = some o := by
        cases d with
        | lst ds => obtain ⟨b, vs, eb, hb, _⟩ := q4; exact ⟨b, _, eb, hb⟩
        | dct ds =>
          obtain ⟨b, eb, ⟨kvs, h, _⟩ | ⟨kvs, h, _⟩⟩ := q4
          · exact ⟨b, _, eb, h⟩
          · exact ⟨b, _, eb, h⟩
        | _ => cases mu
      obtain ⟨p, o, rfl, ho⟩ := hv
      obtain ⟨f1, f2, f3⟩ := q5 p rfl mu
      have sz : Sub Z1 (upd Z1 p o) := fun a u h => upd_none f2 h
      refine ⟨upd Z1 p o, ⟨s1.zz.trans sz, fun a u h => ?_, s1.hh, fun a u h => ?_, s1.sz⟩, Rep1.rep (H := H1) (q4.mono sz fun _ _ _ h => h) fun a ea _ => by cases ea; rw [upd_same, ho]⟩
      · rcases upd_get h with ⟨rfl, rfl⟩ | ⟨_, h⟩
        · exact ⟨ho, f3⟩
        · exact s1.zh a u h
      · rcases upd_get h with ⟨rfl, rfl⟩ | ⟨_, h⟩
        · exact .inr f1
        · exact s1.nw a u h
    · refine ⟨Z1, s1, ?_⟩
      have := r1.1
      cases d with
      | lst ds => exact absurd rfl mu
      | dct ds => exact absurd rfl mu
      | _ => exact this
  obtain ⟨Z2, s2, r2⟩ := r1'
  exact hb d X hX W (σ.set i (some v)) Z2 H1 st1 f st' D ((r.step s2 b1).setF r2) hm1 (q.after s2.bst fun a h => .inl (own_setF h))
theorem OkB.setCO {τ l : Type} {T : Tg τ l} {rest : List Stmt} {m : M S D} {k : D → M S (Fl τ l)} {i : Nat} {x : Str} {pos' : Pos} {gs : List Comprehension} {scope : Scope} {cpos : Pos} (hN : C.N[i]? = some x) (hx : C.sc.names.lookup x = some .local) (hfk : C.sc.kind = .function) (he : OkC C Γ (.ListComp elt gs scope cpos) m) (hb : ∀ d, OkB C (Γ.set i (some (.own d))) rest T (k d))
    (ha : (scope.names.any fun (n, k) => n == x && (k == .local || k == .cell)) = false := by decide +kernel) (hl : (pos'.line == cpos.line) = true := by rfl) : OkB C Γ (.Assign [.Name x pos'] (.ListComp elt gs scope cpos) pos :: rest) T (bnd m fun d => if isMut d = true then k d else stuck) := fun X hX W σ Z H st f st' D r hm q => by
  obtain ⟨d, st1, h1, hm1⟩ := bnd_some hm
  by_cases mu : isMut d = true
  · rw [if_pos mu] at hm1
    obtain ⟨te, ps, qe⟩ := he.2 X hX i x pos' pos hN hx (sw_true (by rw [hX.sc]; exact hfk) (by rw [hX.sc]; exact hx) hl ha) W σ Z H st d st1 r h1
    refine tUS_of (pss_cons ps pssU) (qe _ fun v Z1 H1 s1 b1 r1 => ?_)
    have hv : ∃ p, v = .ref p := by
      obtain ⟨q4, _⟩ := r1
      cases d with
      | lst ds => obtain ⟨b, vs, eb, _⟩ := q4; exact ⟨b, eb⟩
      | dct ds => obtain ⟨b, eb, _⟩ := q4; exact ⟨b, eb⟩
      | _ => cases mu
    obtain ⟨p, rfl⟩ := hv
    obtain ⟨f1, f2, f3⟩ := r1.2 p rfl mu
    have no : ¬ ownA Γ σ p := fun h => by
      obtain ⟨o, ho⟩ := r.ownThere h
      rw [f1] at ho; cases ho
    refine hb d X hX W (σ.set i (some (.ref p))) Z1 H1 st1 f st' D ((r.step s1 b1).setO mu r1.1 f2 f3 no) hm1 (q.after s1.bst fun a h => ?_)
    rcases own_setO h with h | rfl
    · exact .inl h
    · exact .inr f1
  · rw [if_neg mu] at hm1; exact (stuck_some hm1).elim
end
end Sn

namespace Sn
open PySem PySem.Spec PyProof.Rows L2

/-! ### what operations make of data -/
mutual
def toPy : D → PyData
  | .non => .none
  | .bl b => .bool b
  | .int i => .int i
  | .str x => .str x
  | .tup xs => .tuple (toPys xs)
  | .lst xs => .list (toPys xs)
  | .dct _ => .dict []
  | .box => .dict []
def toPys : List D → List PyData
  | [] => []
  | x :: xs => toPy x :: toPys xs
end
section
variable {K : PySem.W.Frag} {β : Addr} {Z H : Hp}
mutual
theorem Rep.dp : ∀ {d : D} {v : V}, Rep K β Z d v → (toPy d).canLay0 = true → Dp K Z v (toPy d)
  | _, _, .non, _ => .non
  | _, _, .bl b, _ => .bl b
  | _, _, .int i, _ => .int i
  | _, _, .str x, _ => .str x
  | _, _, .box, h => by simp [toPy, PyData.canLay0] at h
  | _, _, .tup h r, c => .tup ((Sub.refl _).sqT h) (RepL.dp r (by simpa [toPy, PyData.canLay0] using c))
  | _, _, .lst h r, c => .lst (.inl (.inl h)) (RepL.dp r (by simpa [toPy, PyData.canLay0] using c))
  | _, _, .dK h r, c => by simp [toPy, PyData.canLay0] at c
  | _, _, .dT h r, c => by simp [toPy, PyData.canLay0] at c
theorem RepL.dp : ∀ {d : List D} {v : List V}, RepL K β Z d v → PyData.canLayAll0 (toPys d) = true → DpAll K Z v (toPys d)
  | _, _, .nil, _ => .nil
  | _, _, .cons h r, c => by
    simp only [toPys, PyData.canLayAll0, Bool.and_eq_true] at c
    exact .cons (Rep.dp h c.1) (RepL.dp r c.2)
end
mutual
theorem dp_mono {H' : Hp} (s : Sub H H') : ∀ {v : V} {d : PyData}, Dp K H v d → Dp K H' v d
  | _, _, .non => .non
  | _, _, .bl b => .bl b
  | _, _, .int i => .int i
  | _, _, .str x => .str x
  | _, _, .lst h r => .lst (s.sqL h) (dpAll_mono s r)
  | _, _, .tup h r => .tup (s.sqTT h) (dpAll_mono s r)
theorem dpAll_mono {H' : Hp} (s : Sub H H') : ∀ {v : List V} {d : List PyData}, DpAll K H v d → DpAll K H' v d
  | _, _, .nil => .nil
  | _, _, .cons h r => .cons (dp_mono s h) (dpAll_mono s r)
end
theorem Rep1.dp {d : D} {v : V} (s : Sub Z H) (r : Rep1 K β Z H d v) (c : (toPy d).canLay0 = true) : Dp K H v (toPy d) := by
  cases d with
  | lst ds =>
    obtain ⟨a, vs, rfl, h, r⟩ := r
    exact .lst (.inl (.inl h)) (dpAll_mono s (RepL.dp r (by simpa [toPy, PyData.canLay0] using c)))
  | dct ds => simp [toPy, PyData.canLay0] at c
  | non => exact dp_mono s (Rep.dp r c)
  | bl b => exact dp_mono s (Rep.dp r c)
  | int i => exact dp_mono s (Rep.dp r c)
  | str x => exact dp_mono s (Rep.dp r c)
  | tup x => exact dp_mono s (Rep.dp r c)
  | box => exact dp_mono s (Rep.dp r c)
end
/-- deep, plain: may be compared at any depth -/
def shD (d : D) : Bool := SeqAt.shaped (toPy d)
def eqB (x y : D) : Bool := PyData.eqv (toPy x) (toPy y)
def eqD (x y : D) : Option D := if shD x = true ∧ shD y = true then some (.bl (eqB x y)) else none
def neD (x y : D) : Option D := if shD x = true ∧ shD y = true then some (.bl (!eqB x y)) else none
def inD (x y : D) : Option D :=
  match y with
  | .lst ys => if shD x = true ∧ shD (.lst ys) = true then some (.bl (ys.any fun z => eqB z x)) else none
  | .tup ys => if shD x = true ∧ shD (.tup ys) = true then some (.bl (ys.any fun z => eqB z x)) else none
  | _ => none
def ninD (x y : D) : Option D :=
  match y with
  | .lst ys => if shD x = true ∧ shD (.lst ys) = true then some (.bl (!ys.any fun z => eqB z x)) else none
  | .tup ys => if shD x = true ∧ shD (.tup ys) = true then some (.bl (!ys.any fun z => eqB z x)) else none
  | _ => none
def addD : D → D → Option D
  | .int i, .int j => some (.int (i + j))
  | .str x, .str y => if x.length + y.length ≤ sizeLine then some (.str (x ++ y)) else none
  | .tup xs, .tup ys => if xs.length + ys.length ≤ sizeLine then some (.tup (xs ++ ys)) else none
  | .lst xs, .lst ys => if xs.length + ys.length ≤ sizeLine then some (.lst (xs ++ ys)) else none
  | _, _ => none
def subD : D → D → Option D
  | .int i, .int j => some (.int (i - j))
  | _, _ => none
def mulOk (i j : Int) : Prop := (-(2 ^ 64) < i ∧ i < 2 ^ 64) ∨ (-(2 ^ 64) < j ∧ j < 2 ^ 64)
instance (i j : Int) : Decidable (mulOk i j) := by unfold mulOk; infer_instance
def mulD : D → D → Option D
  | .int i, .int j => if mulOk i j then some (.int (i * j)) else none
  | .lst xs, .int k => if -(2 ^ 63) ≤ k ∧ k < 2 ^ 63 ∧ xs.length * k.toNat ≤ sizeLine then some (.lst (List.replicate k.toNat xs).flatten) else none
  | .tup xs, .int k => if -(2 ^ 63) ≤ k ∧ k < 2 ^ 63 ∧ (xs = [] ∨ k = 1 ∨ (2 ≤ k ∧ k ≤ 1000 ∧ xs.length ≤ 1000)) then some (.tup (List.replicate k.toNat xs).flatten) else none
  | _, _ => none
def divD : D → D → Option D
  | .int i, .int j => if 0 < j ∧ j < 1073741824 then some (.int (i / j)) else none
  | _, _ => none
def modD : D → D → Option D
  | .int i, .int j => if 0 < j then some (.int (i % j)) else none
  | _, _ => none
def ltD : D → D → Option D
  | .int i, .int j => some (.bl (decide (i < j)))
  | _, _ => none
def leD : D → D → Option D
  | .int i, .int j => some (.bl (decide (i ≤ j)))
  | _, _ => none
def gtD : D → D → Option D
  | .int i, .int j => some (.bl (decide (j < i)))
  | _, _ => none
def geD : D → D → Option D
  | .int i, .int j => some (.bl (decide (j ≤ i)))
  | _, _ => none
def isNonD : D → Bool
  | .non => true
  | _ => false
/-- is None; is of two bools -/
def isD : D → D → Option D
  | x, .non => some (.bl (isNonD x))
  | .bl a, .bl b => some (.bl (decide (a = b)))
  | _, _ => none
def isntD : D → D → Option D
  | x, .non => some (.bl (!isNonD x))
  | .bl a, .bl b => some (.bl (!decide (a = b)))
  | _, _ => none

section
variable {C : Stat}
theorem lift_int {X : Cx} {f : Value → Value → Sem Value} {i j : Int} {r : V} {d : D} {W : Wd} {Z H : Hp} {Q : VK} {S : Type} [BoxS S] {st : S} (zh : ∀ a o, Z a = some o → H a = some o ∧ ¬ W.bx a) (bx : BoxS.R st W.β W.γ H)
    (hr : Rep X.K W.β Z d r) (hm : isMut d = false) (q : ∀ v Z' H', Stp W Z H Z' H' → BoxS.R st W.β W.γ H' → Res X.K W .N H Z' H' d v → Q v H') : Q r H := by
  refine q r Z H (Stp.refl zh) bx ⟨?_, fun a _ h => by rw [hm] at h; cases h⟩
  cases d with
  | lst ds => cases hm
  | dct ds => cases hm
  | _ => exact hr
theorem fin_plain {K : PySem.W.Frag} {r : V} {d : D} {W : Wd} {Z H : Hp} {Q : VK} {S : Type} [BoxS S] {st : S} (zh : ∀ a o, Z a = some o → H a = some o ∧ ¬ W.bx a) (bx : BoxS.R st W.β W.γ H)
    (hr : Rep K W.β Z d r) (hm : isMut d = false) (q : ∀ v Z' H', Stp W Z H Z' H' → BoxS.R st W.β W.γ H' → Res K W .N H Z' H' d v → Q v H') : Q r H := by
  refine q r Z H (Stp.refl zh) bx ⟨?_, fun a _ h => by rw [hm] at h; cases h⟩
  cases d with
  | lst ds => cases hm
  | dct ds => cases hm
  | _ => exact hr
/-- a new tuple -/
theorem fin_tup {K : PySem.W.Frag} {ds : List D} {vs : List V} {p : Addr} {W : Wd} {Z H : Hp} {Q : VK} {S : Type} [BoxS S] {st : S} (zh : ∀ a o, Z a = some o → H a = some o ∧ ¬ W.bx a) (bx : BoxS.R st W.β W.γ H)
    (hp : H p = none) (hr : RepL K W.β Z ds vs) (hl : vs.length ≤ sizeLine) (q : ∀ v Z' H', Stp W Z H Z' H' → BoxS.R st W.β W.γ H' → Res K W .N H Z' H' (.tup ds) v → Q v H') : Q (.ref p) (upd H p (.tup vs)) := by
  have s2 := Stp.layZ (o := .tup vs) zh bx hp hl
  exact q _ _ _ s2 (box_lay bx hp) ⟨Rep.tup (.inl upd_same) (hr.mono s2.zz), fun a _ h => by cases h⟩
/-- a new list -/
theorem fin_lst {K : PySem.W.Frag} {ds : List D} {vs : List V} {p : Addr} {W : Wd} {Z H : Hp} {Q : VK} {S : Type} [BoxS S] {st : S} (zh : ∀ a o, Z a = some o → H a = some o ∧ ¬ W.bx a) (bx : BoxS.R st W.β W.γ H)
    (hp : H p = none) (hr : RepL K W.β Z ds vs) (hl : vs.length ≤ sizeLine) (q : ∀ v Z' H', Stp W Z H Z' H' → BoxS.R st W.β W.γ H' → Res K W .N H Z' H' (.lst ds) v → Q v H') : Q (.ref p) (upd H p (.lst vs)) := by
  have s2 := Stp.layH (o := .lst vs) zh hp hl
  refine q _ _ _ s2 (box_lay bx hp) ⟨⟨p, vs, rfl, upd_same, hr⟩, fun a e _ => ?_⟩
  cases e
  exact ⟨hp, z_none zh hp, BoxS.bxThere bx hp⟩
theorem subOf {W : Wd} {Z H : Hp} (zh : ∀ a o, Z a = some o → H a = some o ∧ ¬ W.bx a) : Sub Z H := fun a o h => (zh a o h).1
theorem o_add : Op2 C (binaryOp .Add) addD := fun X hX S _ W Z H st x y dx dy d Q zh sz bx r1 r2 hg q => by
  cases dx with
  | int i => cases dy with
    | int j => cases r1; cases r2; cases hg; exact rU_of op_add ⟨i, j, rfl, rfl, fin_plain zh bx (.int _) rfl q⟩
    | _ => cases hg
  | str i => cases dy with
    | str j =>
      cases r1; cases r2
      have hg' : (if i.length + j.length ≤ sizeLine then some (D.str (i ++ j)) else none) = some d := hg
      split at hg'
      · cases hg'; exact rU_of op_add_str ⟨i, j, rfl, rfl, by assumption, fin_plain zh bx (.str _) rfl q⟩
      · cases hg'
    | _ => cases hg
  | tup xs => cases dy with
    | tup ys =>
      have hg' : (if xs.length + ys.length ≤ sizeLine then some (D.tup (xs ++ ys)) else none) = some d := hg
      split at hg'
      · rename_i hl
        cases hg'
        cases r1 with | @tup a vs _ h1 l1 => cases r2 with | @tup b us _ h2 l2 =>
          have hv := l1.length
          have hu := l2.length
          refine rU_of op_catA ⟨a, b, vs, us, rfl, rfl, (subOf zh).sqT h1, (subOf zh).sqT h2, by omega, fun e => ?_, fun e e2 => ?_, fun _ _ p hp => ?_⟩
          · subst e
            cases l1
            exact fin_plain zh bx (.tup h2 l2) rfl q
          · subst e2
            cases l2
            rw [List.append_nil] at q
            exact fin_plain zh bx (.tup h1 l1) rfl q
          · exact fin_tup zh bx hp (l1.append l2) (by rw [List.length_append]; omega) q
      · cases hg'
    | _ => cases hg
  | lst xs => cases dy with
    | lst ys =>
      have hg' : (if xs.length + ys.length ≤ sizeLine then some (D.lst (xs ++ ys)) else none) = some d := hg
      split at hg'
      · rename_i hl
        cases hg'
        obtain ⟨a, vs, rfl, h1, l1⟩ := r1
        obtain ⟨b, us, rfl, h2, l2⟩ := r2
        have hv := l1.length
        have hu := l2.length
        exact rU_of op_cat ⟨a, b, vs, us, rfl, rfl, h1, h2, by omega, fun p hp => fin_lst zh bx hp (l1.append l2) (by rw [List.length_append]; omega) q⟩
      · cases hg'
    | _ => cases hg
  | _ => cases hg
theorem o_sub : Op2 C (binaryOp .Sub) subD := fun X hX S _ W Z H st x y dx dy d Q zh sz bx r1 r2 hg q => by
  cases dx with
  | int i => cases dy with
    | int j => cases r1; cases r2; cases hg; exact rU_of op_sub ⟨i, j, rfl, rfl, fin_plain zh bx (.int _) rfl q⟩
    | _ => cases hg
  | _ => cases hg
theorem RepL.rep {K : PySem.W.Frag} {β : Addr} {Z : Hp} {ds : List D} {vs : List V} (r : RepL K β Z ds vs) : ∀ k : Nat, RepL K β Z (List.replicate k ds).flatten (List.replicate k vs).flatten
  | 0 => .nil
  | k + 1 => by
    rw [List.replicate_succ, List.replicate_succ, List.flatten_cons, List.flatten_cons]
    exact r.append (RepL.rep r k)
set_option maxHeartbeats 4000000 in
theorem tuple_mul_self (l : Addr) (items : Array Value) (n : Nat) (dd : Option Addr) (sl : Array (Option Value)) (x : Int) (u : Tok) (c0 : (decide (x < -(2 ^ 63)) || decide (x ≥ 2 ^ 63)) = false) (c1 : (items.isEmpty || x == 1) = true) :
    Meets (Builtin.«tuple.__mul__» ⟨[.ref l, .int x u], []⟩) (fun _ R s => s.heap.get? l = some { cls := .type "tuple", dict := dd, data := .seq items n, slots := sl } ∧ R (.ok (.ret (.ref l))) s) :=
  .of_wp fun prog w A R s h => by
    obtain ⟨hp, g, d, tk, os⟩ := s; obtain ⟨hl, h⟩ := h; have f1 := AutoSeq1.idx_int
    wp_walk using wpAny_loadPart' hl
    refine wpAny_ite_false (decide_eq_false (by rw [c0]; exact Bool.false_ne_true)) ?_; wp_walk using wpAny_loadPart' hl
    exact ⟨_, rfl, h⟩
theorem op_repSelf {X : Cx} : OpR X (binaryOp .Mult) (fun x y H Q => ∃ l k xs, x = .ref l ∧ y = .int k ∧ SqT X.K H l xs ∧ (xs = [] ∨ k = 1) ∧ -(2 ^ 63) ≤ k ∧ k < 2 ^ 63 ∧ Q (.ref l) H) := by
  intro pins s σ H x y v u Q I rx ry h
  obtain ⟨l, k, xs, rfl, rfl, hT, hc1, hb1, hb2, q⟩ := h
  cases rx; obtain ⟨t, rfl⟩ := ry
  obtain ⟨its, r, ⟨⟨cls, dd, data, sl⟩, ho, hc, n, hd⟩, hs⟩ := I.tuple hT
  simp only at hc hd; subst hc hd
  have c0 : (decide (k < -(2 ^ 63)) || decide (k ≥ 2 ^ 63)) = false := by
    rw [decide_eq_false (by omega), decide_eq_false (by omega)]; rfl
  have c1 : (its.toArray.isEmpty || k == 1) = true := by
    rcases hc1 with h | h
    · subst h; cases r; rfl
    · subst h; simp
  exact wpAny_binaryOp_repeat_ref (T := "tuple") (U := "int") (by decide) ⟨_, ho, rfl⟩ (fun s' => typeIs_int s' k t) noFill_tuple_mul F.fills_int_mul F.slot_int_rmul repeat_tuple F.slot_int_index.lookup (call_meets F.slot_int_rmul (typeIs_int s k t) F.entry_int_rmul (F.args_int_rmul_2 _ _) (int_rmul_tuple k t l its.toArray n dd sl)
    ⟨ho, rfl, ⟨_, ho, rfl⟩, call_meets F.slot_tuple_mul ⟨_, ho, rfl⟩ F.entry_tuple_mul (F.args_tuple_mul_2 _ _) (tuple_mul_self l its.toArray n dd sl k t c0 c1) ⟨ho, .ref l, H, I, rfl, q⟩⟩)
theorem o_mul : Op2 C (binaryOp .Mult) mulD := fun X hX S _ W Z H st x y dx dy d Q zh sz bx r1 r2 hg q => by
  cases dx with
  | int i => cases dy with
    | int j =>
      cases r1; cases r2
      have hg' : (if mulOk i j then some (D.int (i * j)) else none) = some d := hg
      split at hg'
      · rename_i hc
        cases hg'; exact rU_of op_mul ⟨i, j, rfl, rfl, hc, fin_plain zh bx (.int _) rfl q⟩
      · cases hg'
    | _ => cases hg
  | lst xs => cases dy with
    | int k =>
      cases r2
      have hg' : (if -(2 ^ 63) ≤ k ∧ k < 2 ^ 63 ∧ xs.length * k.toNat ≤ sizeLine then some (D.lst (List.replicate k.toNat xs).flatten) else none) = some d := hg
      split at hg'
      · rename_i hc
        cases hg'
        obtain ⟨a, vs, rfl, h1, l1⟩ := r1
        have hv := l1.length
        rw [hv] at hc
        refine rU_of op_rep ⟨a, k, vs, rfl, rfl, h1, hc.1, hc.2.1, hc.2.2, fun p hp => fin_lst zh bx hp (l1.rep _) ?_ q⟩
        rw [List.length_flatten, List.map_replicate, List.sum_replicate_nat, Nat.mul_comm]
        exact hc.2.2
      · cases hg'
    | _ => cases hg
  | tup xs => cases dy with
    | int k =>
      cases r2
      have hg' : (if -(2 ^ 63) ≤ k ∧ k < 2 ^ 63 ∧ (xs = [] ∨ k = 1 ∨ (2 ≤ k ∧ k ≤ 1000 ∧ xs.length ≤ 1000)) then some (D.tup (List.replicate k.toNat xs).flatten) else none) = some d := hg
      split at hg'
      · rename_i hc
        cases hg'
        cases r1 with | @tup a vs _ h1 l1 =>
          have hv := l1.length
          have same : xs = [] ∨ k = 1 → (List.replicate k.toNat xs).flatten = xs := fun h => by
            rcases h with h | h
            · rw [h, List.flatten_replicate_nil]
            · rw [h]; simp
          by_cases hs : xs = [] ∨ k = 1
          · rw [same hs] at q
            refine rU_of op_repSelf ⟨a, k, vs, rfl, rfl, (subOf zh).sqT h1, ?_, hc.1, hc.2.1, fin_plain zh bx (.tup h1 l1) rfl q⟩
            rcases hs with h | h
            · exact .inl (by subst h; cases l1; rfl)
            · exact .inr h
          · have hc3 : 2 ≤ k ∧ k ≤ 1000 ∧ xs.length ≤ 1000 := by
              rcases hc.2.2 with h | h | h
              · exact absurd (.inl h) hs
              · exact absurd (.inr h) hs
              · exact h
            refine rU_of op_repT ⟨a, k, vs, rfl, rfl, (subOf zh).sqT h1, fun e => hs (.inl ?_), hc3.1, hc3.2.1, by omega, fun p hp => fin_tup zh bx hp (l1.rep _) ?_ q⟩
            · subst e; cases l1; rfl
            · rw [List.length_flatten, List.map_replicate, List.sum_replicate_nat, sizeLine_eq]
              have : k.toNat * vs.length ≤ 1000 * 1000 := Nat.mul_le_mul (by omega) (by omega)
              omega
      · cases hg'
    | _ => cases hg
  | _ => cases hg
theorem o_div : Op2 C (binaryOp .FloorDiv) divD := fun X hX S _ W Z H st x y dx dy d Q zh sz bx r1 r2 hg q => by
  cases dx with
  | int i => cases dy with
    | int j =>
      cases r1; cases r2
      have hg' : (if 0 < j ∧ j < 1073741824 then some (D.int (i / j)) else none) = some d := hg
      split at hg'
      · rename_i hc
        cases hg'; exact rU_of op_fdiv ⟨i, j, rfl, rfl, hc, fin_plain zh bx (.int _) rfl q⟩
      · cases hg'
    | _ => cases hg
  | _ => cases hg
theorem o_mod : Op2 C (binaryOp .Mod) modD := fun X hX S _ W Z H st x y dx dy d Q zh sz bx r1 r2 hg q => by
  cases dx with
  | int i => cases dy with
    | int j =>
      cases r1; cases r2
      have hg' : (if 0 < j then some (D.int (i % j)) else none) = some d := hg
      split at hg'
      · rename_i hc
        cases hg'; exact rU_of op_mod ⟨i, j, rfl, rfl, hc, fin_plain zh bx (.int _) rfl q⟩
      · cases hg'
    | _ => cases hg
  | _ => cases hg
theorem o_lt : Op2 C (compareOp .Lt) ltD := fun X hX S _ W Z H st x y dx dy d Q zh sz bx r1 r2 hg q => by
  cases dx with
  | int i => cases dy with
    | int j => cases r1; cases r2; cases hg; exact rU_of op_lt ⟨i, j, rfl, rfl, fin_plain zh bx (.bl _) rfl q⟩
    | _ => cases hg
  | _ => cases hg
theorem o_le : Op2 C (compareOp .LtE) leD := fun X hX S _ W Z H st x y dx dy d Q zh sz bx r1 r2 hg q => by
  cases dx with
  | int i => cases dy with
    | int j => cases r1; cases r2; cases hg; exact rU_of op_le ⟨i, j, rfl, rfl, fin_plain zh bx (.bl _) rfl q⟩
    | _ => cases hg
  | _ => cases hg
theorem o_gt : Op2 C (compareOp .Gt) gtD := fun X hX S _ W Z H st x y dx dy d Q zh sz bx r1 r2 hg q => by
  cases dx with
  | int i => cases dy with
    | int j => cases r1; cases r2; cases hg; exact rU_of op_gt ⟨i, j, rfl, rfl, fin_plain zh bx (.bl _) rfl q⟩
    | _ => cases hg
  | _ => cases hg
theorem o_ge : Op2 C (compareOp .GtE) geD := fun X hX S _ W Z H st x y dx dy d Q zh sz bx r1 r2 hg q => by
  cases dx with
  | int i => cases dy with
    | int j => cases r1; cases r2; cases hg; exact rU_of op_ge ⟨i, j, rfl, rfl, fin_plain zh bx (.bl _) rfl q⟩
    | _ => cases hg
  | _ => cases hg
theorem o_eq : Op2 C (compareOp .Eq) eqD := fun X hX S _ W Z H st x y dx dy d Q zh sz bx r1 r2 hg q => by
  unfold eqD at hg
  split at hg
  · rename_i hc
    cases hg
    exact rU_of (op_eqD (by have := hX.units; omega)) ⟨toPy dx, toPy dy, r1.dp (subOf zh) (SeqAt.canLay_of_shaped hc.1), r2.dp (subOf zh) (SeqAt.canLay_of_shaped hc.2), hc.1, hc.2, fin_plain zh bx (.bl _) rfl q⟩
  · cases hg
theorem o_ne : Op2 C (compareOp .NotEq) neD := fun X hX S _ W Z H st x y dx dy d Q zh sz bx r1 r2 hg q => by
  unfold neD at hg
  split at hg
  · rename_i hc
    cases hg
    exact rU_of (op_neD (by have := hX.units; omega)) ⟨toPy dx, toPy dy, r1.dp (subOf zh) (SeqAt.canLay_of_shaped hc.1), r2.dp (subOf zh) (SeqAt.canLay_of_shaped hc.2), hc.1, hc.2, fin_plain zh bx (.bl _) rfl q⟩
  · cases hg
theorem any_toPys (p : PyData → Bool) : ∀ ys : List D, (toPys ys).any p = ys.any fun z => p (toPy z)
  | [] => rfl
  | y :: ys => by rw [toPys, List.any_cons, List.any_cons, any_toPys p ys]
def rInT (K : PySem.W.Frag) : R2 := fun x y H Q => ∃ d ds, Dp K H x d ∧ Dp K H y (.tuple ds) ∧ SeqAt.shaped d = true ∧ SeqAt.shaped (.tuple ds) = true ∧ Q (.bl (ds.any fun z => PyData.eqv z d)) H
def rNotInT (K : PySem.W.Frag) : R2 := fun x y H Q => ∃ d ds, Dp K H x d ∧ Dp K H y (.tuple ds) ∧ SeqAt.shaped d = true ∧ SeqAt.shaped (.tuple ds) = true ∧ Q (.bl (!ds.any fun z => PyData.eqv z d)) H
theorem room_inT {A : Around} {d : PyData} {n : Nat} (h : SeqAt.shaped d = true) (hu : A.units + 65 < cLine) : A.units + 1 + min n d.depth < cLine := by
  have h1 := SeqAt.depth_of_shaped h
  have h2 : min n d.depth ≤ d.depth := Nat.min_le_right _ _
  omega
theorem op_inT {X : Cx} (hu : X.A.units + 65 < cLine) : OpR X (compareOp .In) (rInT X.K) := by
  intro pins s σ H x y v u Q I rx ry h
  obtain ⟨d, ds, hd, he, sd, se, q⟩ := h
  obtain ⟨as, r1⟩ := Dp.reads I d x v hd rx
  obtain ⟨bs, r2⟩ := Dp.reads I (.tuple ds) y u he ry
  exact SeqAt.in_tuple_reads r2 r1 (by simpa [PyData.canLay0] using SeqAt.canLay_of_shaped se) (SeqAt.canLay_of_shaped sd) (room_inT sd hu) ⟨.bl _, H, I, rfl, q⟩
theorem op_notInT {X : Cx} (hu : X.A.units + 65 < cLine) : OpR X (compareOp .NotIn) (rNotInT X.K) := by
  intro pins s σ H x y v u Q I rx ry h
  obtain ⟨d, ds, hd, he, sd, se, q⟩ := h
  obtain ⟨as, r1⟩ := Dp.reads I d x v hd rx
  obtain ⟨bs, r2⟩ := Dp.reads I (.tuple ds) y u he ry
  exact SeqAt.notIn_tuple_reads r2 r1 (by simpa [PyData.canLay0] using SeqAt.canLay_of_shaped se) (SeqAt.canLay_of_shaped sd) (room_inT sd hu) ⟨.bl _, H, I, rfl, q⟩
theorem o_in : Op2 C (compareOp .In) inD := fun X hX S _ W Z H st x y dx dy d Q zh sz bx r1 r2 hg q => by
  cases dy with
  | lst ys =>
    unfold inD at hg
    simp only at hg
    split at hg
    · rename_i hc
      cases hg
      refine rU_of (op_inD hX.units) ⟨toPy dx, toPys ys, r1.dp (subOf zh) (SeqAt.canLay_of_shaped hc.1), r2.dp (subOf zh) (SeqAt.canLay_of_shaped hc.2), hc.1, hc.2, ?_⟩
      rw [any_toPys]
      exact fin_plain zh bx (.bl _) rfl q
    · cases hg
  | tup ys =>
    unfold inD at hg
    simp only at hg
    split at hg
    · rename_i hc
      cases hg
      refine rU_of (op_inT hX.units) ⟨toPy dx, toPys ys, r1.dp (subOf zh) (SeqAt.canLay_of_shaped hc.1), r2.dp (subOf zh) (SeqAt.canLay_of_shaped hc.2), hc.1, hc.2, ?_⟩
      rw [any_toPys]
      exact fin_plain zh bx (.bl _) rfl q
    · cases hg
  | _ => cases hg
theorem o_nin : Op2 C (compareOp .NotIn) ninD := fun X hX S _ W Z H st x y dx dy d Q zh sz bx r1 r2 hg q => by
  cases dy with
  | lst ys =>
    unfold ninD at hg
    simp only at hg
    split at hg
    · rename_i hc
      cases hg
      refine rU_of (op_notInD hX.units) ⟨toPy dx, toPys ys, r1.dp (subOf zh) (SeqAt.canLay_of_shaped hc.1), r2.dp (subOf zh) (SeqAt.canLay_of_shaped hc.2), hc.1, hc.2, ?_⟩
      rw [any_toPys]
      exact fin_plain zh bx (.bl _) rfl q
    · cases hg
  | tup ys =>
    unfold ninD at hg
    simp only at hg
    split at hg
    · rename_i hc
      cases hg
      refine rU_of (op_notInT hX.units) ⟨toPy dx, toPys ys, r1.dp (subOf zh) (SeqAt.canLay_of_shaped hc.1), r2.dp (subOf zh) (SeqAt.canLay_of_shaped hc.2), hc.1, hc.2, ?_⟩
      rw [any_toPys]
      exact fin_plain zh bx (.bl _) rfl q
    · cases hg
  | _ => cases hg
theorem Rep1.isNon {K : PySem.W.Frag} {β : Addr} {Z H : Hp} {d : D} {v : V} (r : Rep1 K β Z H d v) : decide (v = .non) = isNonD d := by
  cases d with
  | non => cases r; rfl
  | bl b => cases r; rfl
  | int i => cases r; rfl
  | str x => cases r; rfl
  | tup xs => cases r; rfl
  | lst xs => obtain ⟨a, vs, rfl, _⟩ := r; rfl
  | dct xs => obtain ⟨a, rfl, _⟩ := r; rfl
  | box => cases r; rfl
theorem o_is : Op2 C (compareOp .Is) isD := fun X hX S _ W Z H st x y dx dy d Q zh sz bx r1 r2 hg q => by
  cases dy with
  | non =>
    cases r2
    have e : d = .bl (isNonD dx) := by cases dx <;> exact (Option.some.inj hg).symm
    subst e
    exact rU_of op_isN ⟨rfl, by rw [r1.isNon]; exact fin_plain zh bx (.bl _) rfl q⟩
  | bl b =>
    cases dx with
    | bl a => cases r1; cases r2; cases hg; exact rU_of op_is_bl ⟨a, b, rfl, rfl, fin_plain zh bx (.bl _) rfl q⟩
    | _ => cases hg
  | _ => cases dx <;> cases hg
theorem o_isnt : Op2 C (compareOp .IsNot) isntD := fun X hX S _ W Z H st x y dx dy d Q zh sz bx r1 r2 hg q => by
  cases dy with
  | non =>
    cases r2
    have e : d = .bl (!isNonD dx) := by cases dx <;> exact (Option.some.inj hg).symm
    subst e
    exact rU_of op_notN ⟨rfl, by rw [r1.isNon]; exact fin_plain zh bx (.bl _) rfl q⟩
  | bl b =>
    cases dx with
    | bl a => cases r1; cases r2; cases hg; exact rU_of op_isnot_bl ⟨a, b, rfl, rfl, fin_plain zh bx (.bl _) rfl q⟩
    | _ => cases hg
  | _ => cases dx <;> cases hg
end

/-! ### calls of built-ins -/
section
variable {S : Type} [BoxS S] {C : Stat} {Γ : SCx} {e a b : Expr} {es : List Expr} {m ma mb : M S D} {md : Md} {pos p : Pos} {x : Str}
theorem ResL.views {K : PySem.W.Frag} {W : Wd} {H Z' H' : Hp} (zh : ∀ a o, Z' a = some o → H' a = some o ∧ ¬ W.bx a) : ∀ {mds : List Md} {ds : List D} {vs : List V}, ResL K W mds H Z' H' ds vs → ResL K W (ds.map fun _ => Md.V) H' Z' H' ds vs
  | [], [], [], _ => trivial
  | _ :: _, _ :: _, _ :: _, ⟨h, r⟩ => ⟨h.view zh, ResL.views zh r⟩
  | [], [], _ :: _, h => h.elim
  | [], _ :: _, _, h => h.elim
  | _ :: _, [], _, h => h.elim
  | _ :: _, _ :: _, [], h => h.elim
theorem Ok.bfun {id : String} {g : List D → Option D} {mds : List Md} {mr : M S (List D)} (ho : OpL C (.builtin id) g) (hv : bootBuiltins x = some (.builtin id)) (hg : C.sc.names.lookup x = some .globalImplicit) (hm : C.G.mg x = none) (ha : OkA mds C Γ (e :: es) mr)
    (hn : x ≠ "__name__" := by decide) (hdb : (x == ("__debug__" : Str)) = false := by decide) (hp : plainArg e = true := by rfl) (hes : ∀ env : Env, (backTo pos (starEach es env)).any (·.1) = false := by intro _; rfl) : Ok .N C Γ (.Call (.Name x p) (e :: es) [] pos) (bnd mr fun xs => lift (g xs)) := fun X hX W σ Z H st d st' Q r hm' q => by
  obtain ⟨xs, st1, h1, hm1⟩ := bnd_some hm'
  obtain ⟨hg', rfl⟩ := lift_some hm1
  refine tU_of (pe_callB crU (hX.glob hg) (hX.none hm) hv paU hn hdb (starEach_plain _ hp) (hes _)) ?_
  refine ha X hX W σ Z H st xs _ _ r h1 fun vs Z1 H1 s1 b1 r1 => ?_
  exact ho X hX W Z1 H1 _ vs xs d Q s1.zh (s1.sz r.sz) b1 (r1.views s1.zh) hg' fun v Z' H' s' b' r' => q v Z' H' (s1.trans s') b' (r'.back r.box b1 s1)
theorem Ok.tfun {T : String} {g : List D → Option D} {mds : List Md} {mr : M S (List D)} (ho : OpL C (.type T) g) (hv : bootBuiltins x = some (.type T)) (hg : C.sc.names.lookup x = some .globalImplicit) (hm : C.G.mg x = none) (ha : OkA mds C Γ (e :: es) mr)
    (hn : x ≠ "__name__" := by decide) (hdb : (x == ("__debug__" : Str)) = false := by decide) (hp : plainArg e = true := by rfl) (hes : ∀ env : Env, (backTo pos (starEach es env)).any (·.1) = false := by intro _; rfl) : Ok .N C Γ (.Call (.Name x p) (e :: es) [] pos) (bnd mr fun xs => lift (g xs)) := fun X hX W σ Z H st d st' Q r hm' q => by
  obtain ⟨xs, st1, h1, hm1⟩ := bnd_some hm'
  obtain ⟨hg', rfl⟩ := lift_some hm1
  refine tU_of (pe_callTy crU (hX.glob hg) (hX.none hm) hv paU hn hdb (starEach_plain _ hp) (hes _)) ?_
  refine ha X hX W σ Z H st xs _ _ r h1 fun vs Z1 H1 s1 b1 r1 => ?_
  exact ho X hX W Z1 H1 _ vs xs d Q s1.zh (s1.sz r.sz) b1 (r1.views s1.zh) hg' fun v Z' H' s' b' r' => q v Z' H' (s1.trans s') b' (r'.back r.box b1 s1)
end
section
variable {C : Stat}
theorem ResL.one {K : PySem.W.Frag} {W : Wd} {H Z' H' : Hp} {d : D} {vs : List V} (h : ResL K W ([d].map fun _ => Md.V) H Z' H' [d] vs) : ∃ v, vs = [v] ∧ Rep1 K W.β Z' H' d v := by
  match vs, h with
  | [v], h => exact ⟨v, rfl, h.1.1⟩
  | [], h => exact h.elim
  | _ :: _ :: _, h => exact h.2.elim
theorem ResL.two {K : PySem.W.Frag} {W : Wd} {H Z' H' : Hp} {d e : D} {vs : List V} (h : ResL K W ([d, e].map fun _ => Md.V) H Z' H' [d, e] vs) : ∃ v u, vs = [v, u] ∧ Rep1 K W.β Z' H' d v ∧ Rep1 K W.β Z' H' e u := by
  match vs, h with
  | [v, u], h => exact ⟨v, u, rfl, h.1.1, h.2.1.1⟩
  | [], h => exact h.elim
  | [_], h => exact h.2.elim
  | _ :: _ :: _ :: _, h => exact h.2.2.elim
def lenD : List D → Option D
  | [.tup xs] => some (.int xs.length)
  | [.lst xs] => some (.int xs.length)
  | [.str x] => if x.length ≤ sizeLine then some (.int x.length) else none
  | _ => none
theorem o_len : OpL C (.builtin "len") lenD := fun X hX S _ W Z H st xs dxs d Q zh sz bx r0 hg q => by
  match dxs, hg with
  | [.tup xs], hg =>
    cases hg
    obtain ⟨v, rfl, r⟩ := r0.one
    cases r with | tup h l => exact cU_of call_len ⟨_, _, rfl, .inr ⟨_, (subOf zh).sqT h, rfl⟩, by rw [← l.length]; exact fin_plain zh bx (.int _) rfl q⟩
  | [.lst xs], hg =>
    cases hg
    obtain ⟨v, rfl, r⟩ := r0.one
    obtain ⟨a, vs, rfl, h, l⟩ := r
    exact cU_of call_len ⟨_, _, rfl, .inl ⟨_, .inl (.inl h), rfl⟩, by rw [← l.length]; exact fin_plain zh bx (.int _) rfl q⟩
  | [.str x], hg =>
    have hg' : (if x.length ≤ sizeLine then some (D.int x.length) else none) = some d := hg
    split at hg'
    · cases hg'
      obtain ⟨v, rfl, r⟩ := r0.one
      cases r
      exact cU_of call_len ⟨_, _, rfl, ⟨by assumption, rfl⟩, fin_plain zh bx (.int _) rfl q⟩
    · cases hg'
def tupleD : List D → Option D
  | [.tup xs] => some (.tup xs)
  | [.lst xs] => some (.tup xs)
  | _ => none
theorem o_tuple : OpL C (.type "tuple") tupleD := fun X hX S _ W Z H st xs dxs d Q zh sz bx r0 hg q => by
  match dxs, hg with
  | [.tup xs], hg =>
    cases hg
    obtain ⟨v, rfl, r⟩ := r0.one
    cases r with | tup h l => exact cU_of call_tuple_of ⟨_, _, rfl, .inr ⟨(subOf zh).sqT h, fin_plain zh bx (.tup h l) rfl q⟩⟩
  | [.lst xs], hg =>
    cases hg
    obtain ⟨v, rfl, r⟩ := r0.one
    obtain ⟨a, vs, rfl, h, l⟩ := r
    exact cU_of call_tuple_of ⟨_, _, rfl, .inl ⟨.inl (.inl h), fun p hp => fin_tup zh bx hp l (sz.lst h) q⟩⟩
def listD : List D → Option D
  | [.tup xs] => some (.lst xs)
  | [.lst xs] => some (.lst xs)
  | _ => none
theorem o_list : OpL C (.type "list") listD := fun X hX S _ W Z H st xs dxs d Q zh sz bx r0 hg q => by
  match dxs, hg with
  | [.tup xs], hg =>
    cases hg
    obtain ⟨v, rfl, r⟩ := r0.one
    cases r with | tup h l => exact cU_of call_list_of ⟨_, _, rfl, .inr ((subOf zh).sqT h), fun p hp => fin_lst zh bx hp l (sz.tup ((subOf zh).tupAt h)) q⟩
  | [.lst xs], hg =>
    cases hg
    obtain ⟨v, rfl, r⟩ := r0.one
    obtain ⟨a, vs, rfl, h, l⟩ := r
    exact cU_of call_list_of ⟨_, _, rfl, .inl (.inl (.inl h)), fun p hp => fin_lst zh bx hp l (sz.lst h) q⟩
def intD : List D → Option D
  | [.int i] => some (.int i)
  | [.bl b] => some (.int (if b then 1 else 0))
  | _ => none
theorem o_int : OpL C (.type "int") intD := fun X hX S _ W Z H st xs dxs d Q zh sz bx r0 hg q => by
  match dxs, hg with
  | [.int i], hg =>
    cases hg
    obtain ⟨v, rfl, r⟩ := r0.one
    cases r
    exact cU_of call_int1 (.inl ⟨i, rfl, fin_plain zh bx (.int _) rfl q⟩)
  | [.bl b], hg =>
    cases hg
    obtain ⟨v, rfl, r⟩ := r0.one
    cases r
    exact cU_of call_int1 (.inr ⟨b, rfl, fin_plain zh bx (.int _) rfl q⟩)
def absD : List D → Option D
  | [.int i] => some (.int (if i < 0 then -i else i))
  | _ => none
theorem o_abs : OpL C (.builtin "abs") absD := fun X hX S _ W Z H st xs dxs d Q zh sz bx r0 hg q => by
  match dxs, hg with
  | [.int i], hg =>
    cases hg
    obtain ⟨v, rfl, r⟩ := r0.one
    cases r
    exact cU_of call_abs ⟨i, rfl, fin_plain zh bx (.int _) rfl q⟩
/-- the ints, the bools of a list -/
def asInts : List D → Option (List Int)
  | [] => some []
  | .int i :: ds => (asInts ds).map fun is => i :: is
  | _ :: _ => none
def asBls : List D → Option (List Bool)
  | [] => some []
  | .bl i :: ds => (asBls ds).map fun is => i :: is
  | _ :: _ => none
theorem asInts_rep {K : PySem.W.Frag} {β : Addr} {Z : Hp} : ∀ {ds : List D} {vs : List V} {is : List Int}, RepL K β Z ds vs → asInts ds = some is → vs = is.map V.int
  | _, _, is, .nil, h => by cases h; rfl
  | d :: ds, v :: vs, is, .cons r rs, h => by
    cases d with
    | int i =>
      cases r
      cases e : asInts ds with
      | none => simp [asInts, e] at h
      | some js =>
        simp only [asInts, e, Option.map_some, Option.some.injEq] at h
        subst h
        rw [asInts_rep rs e]; rfl
    | _ => cases h
theorem asBls_rep {K : PySem.W.Frag} {β : Addr} {Z : Hp} : ∀ {ds : List D} {vs : List V} {is : List Bool}, RepL K β Z ds vs → asBls ds = some is → vs = is.map V.bl
  | _, _, is, .nil, h => by cases h; rfl
  | d :: ds, v :: vs, is, .cons r rs, h => by
    cases d with
    | bl i =>
      cases r
      cases e : asBls ds with
      | none => simp [asBls, e] at h
      | some js =>
        simp only [asBls, e, Option.map_some, Option.some.injEq] at h
        subst h
        rw [asBls_rep rs e]; rfl
    | _ => cases h
def allD : List D → Option D
  | [.lst xs] => (asBls xs).map fun bs => .bl (bs.all id)
  | _ => none
def anyD : List D → Option D
  | [.lst xs] => (asBls xs).map fun bs => .bl (bs.any id)
  | _ => none
theorem o_all : OpL C (.builtin "all") allD := fun X hX S _ W Z H st xs dxs d Q zh sz bx r0 hg q => by
  match dxs, hg with
  | [.lst xs], hg =>
    obtain ⟨v, rfl, r⟩ := r0.one
    obtain ⟨a, vs, rfl, h, l⟩ := r
    obtain ⟨bs, e, rfl⟩ := Option.map_eq_some_iff.mp hg
    have ev := asBls_rep l e
    subst ev
    exact cU_of (cr_all hX.calm) ⟨a, bs, rfl, .inl (.inl h), fin_plain zh bx (.bl _) rfl q⟩
theorem o_any : OpL C (.builtin "any") anyD := fun X hX S _ W Z H st xs dxs d Q zh sz bx r0 hg q => by
  match dxs, hg with
  | [.lst xs], hg =>
    obtain ⟨v, rfl, r⟩ := r0.one
    obtain ⟨a, vs, rfl, h, l⟩ := r
    obtain ⟨bs, e, rfl⟩ := Option.map_eq_some_iff.mp hg
    have ev := asBls_rep l e
    subst ev
    exact cU_of (cr_any hX.calm) ⟨a, bs, rfl, .inl (.inl h), fin_plain zh bx (.bl _) rfl q⟩
def maxI : List Int → Option Int
  | [] => none
  | i :: is => some (is.foldl (fun a b => if a < b then b else a) i)
def minI : List Int → Option Int
  | [] => none
  | i :: is => some (is.foldl (fun a b => if b < a then b else a) i)
theorem maxI_uniq {ns : List Int} {m n : Int} (h : maxI ns = some n) (hm : m ∈ ns) (hb : ∀ y ∈ ns, y ≤ m) : m = n := by
  cases ns with
  | nil => cases h
  | cons i is =>
    have g : ∀ (is : List Int) (i : Int), (is.foldl (fun a b => if a < b then b else a) i) ∈ i :: is ∧ ∀ y ∈ i :: is, y ≤ is.foldl (fun a b => if a < b then b else a) i := by
      intro is
      induction is with
      | nil => intro i; exact ⟨by simp, fun y hy => by simp at hy; subst hy; exact Int.le_refl _⟩
      | cons j js ih =>
        intro i
        rw [List.foldl_cons]
        obtain ⟨h1, h2⟩ := ih (if i < j then j else i)
        constructor
        · rcases List.mem_cons.mp h1 with e | e
          · rw [e]; split <;> simp
          · exact List.mem_cons_of_mem _ (List.mem_cons_of_mem _ e)
        · intro y hy
          have h3 := h2 (if i < j then j else i) List.mem_cons_self
          have h4 : i ≤ (if i < j then j else i) ∧ j ≤ (if i < j then j else i) := by split <;> omega
          rcases List.mem_cons.mp hy with e | hy
          · rw [e]; exact Int.le_trans h4.1 h3
          · rcases List.mem_cons.mp hy with e | hy
            · rw [e]; exact Int.le_trans h4.2 h3
            · exact h2 y (List.mem_cons_of_mem _ hy)
    obtain ⟨h1, h2⟩ := g is i
    have e : is.foldl (fun a b => if a < b then b else a) i = n := Option.some.inj h
    rw [e] at h1 h2
    have a1 := h2 m hm
    have a2 := hb n h1
    omega
theorem minI_uniq {ns : List Int} {m n : Int} (h : minI ns = some n) (hm : m ∈ ns) (hb : ∀ y ∈ ns, m ≤ y) : m = n := by
  cases ns with
  | nil => cases h
  | cons i is =>
    have g : ∀ (is : List Int) (i : Int), (is.foldl (fun a b => if b < a then b else a) i) ∈ i :: is ∧ ∀ y ∈ i :: is, is.foldl (fun a b => if b < a then b else a) i ≤ y := by
      intro is
      induction is with
      | nil => intro i; exact ⟨by simp, fun y hy => by simp at hy; subst hy; exact Int.le_refl _⟩
      | cons j js ih =>
        intro i
        rw [List.foldl_cons]
        obtain ⟨h1, h2⟩ := ih (if j < i then j else i)
        constructor
        · rcases List.mem_cons.mp h1 with e | e
          · rw [e]; split <;> simp
          · exact List.mem_cons_of_mem _ (List.mem_cons_of_mem _ e)
        · intro y hy
          have h3 := h2 (if j < i then j else i) List.mem_cons_self
          have h4 : (if j < i then j else i) ≤ i ∧ (if j < i then j else i) ≤ j := by split <;> omega
          rcases List.mem_cons.mp hy with e | hy
          · rw [e]; exact Int.le_trans h3 h4.1
          · rcases List.mem_cons.mp hy with e | hy
            · rw [e]; exact Int.le_trans h3 h4.2
            · exact h2 y (List.mem_cons_of_mem _ hy)
    obtain ⟨h1, h2⟩ := g is i
    have e : is.foldl (fun a b => if b < a then b else a) i = n := Option.some.inj h
    rw [e] at h1 h2
    have a1 := h2 m hm
    have a2 := hb n h1
    omega
def maxD : List D → Option D
  | [.lst xs] => ((asInts xs).bind maxI).map .int
  | [.int i, .int j] => some (.int (if j > i then j else i))
  | _ => none
def minD : List D → Option D
  | [.lst xs] => ((asInts xs).bind minI).map .int
  | [.int i, .int j] => some (.int (if j < i then j else i))
  | _ => none
def sumD : List D → Option D
  | [.lst xs] => (asInts xs).map fun is => .int is.sum
  | _ => none
theorem o_max : OpL C (.builtin "max") maxD := fun X hX S _ W Z H st xs dxs d Q zh sz bx r0 hg q => by
  match dxs, hg with
  | [.lst xs], hg =>
    obtain ⟨v, rfl, r⟩ := r0.one
    obtain ⟨a, vs, rfl, h, l⟩ := r
    obtain ⟨n, e, rfl⟩ := Option.map_eq_some_iff.mp hg
    obtain ⟨ns, e1, e2⟩ := Option.bind_eq_some_iff.mp e
    have ev := asInts_rep l e1
    subst ev
    refine cU_of (cr_max hX.calm) ⟨a, ns, rfl, .inl (.inl h), ?_, fun m hm hb => ?_⟩
    · cases ns with
      | nil => cases e2
      | cons _ _ => simp
    · rw [maxI_uniq e2 hm hb]; exact fin_plain zh bx (.int _) rfl q
  | [.int i, .int j], hg =>
    cases hg
    obtain ⟨v, u, rfl, r, r'⟩ := r0.two
    cases r; cases r'
    exact cU_of (call_max2 hX.calm) ⟨i, j, rfl, fin_plain zh bx (.int _) rfl q⟩
theorem o_min : OpL C (.builtin "min") minD := fun X hX S _ W Z H st xs dxs d Q zh sz bx r0 hg q => by
  match dxs, hg with
  | [.lst xs], hg =>
    obtain ⟨v, rfl, r⟩ := r0.one
    obtain ⟨a, vs, rfl, h, l⟩ := r
    obtain ⟨n, e, rfl⟩ := Option.map_eq_some_iff.mp hg
    obtain ⟨ns, e1, e2⟩ := Option.bind_eq_some_iff.mp e
    have ev := asInts_rep l e1
    subst ev
    refine cU_of (cr_min hX.calm) ⟨a, ns, rfl, .inl (.inl h), ?_, fun m hm hb => ?_⟩
    · cases ns with
      | nil => cases e2
      | cons _ _ => simp
    · rw [minI_uniq e2 hm hb]; exact fin_plain zh bx (.int _) rfl q
  | [.int i, .int j], hg =>
    cases hg
    obtain ⟨v, u, rfl, r, r'⟩ := r0.two
    cases r; cases r'
    exact cU_of (call_min2 hX.calm) ⟨i, j, rfl, fin_plain zh bx (.int _) rfl q⟩
theorem o_sum : OpL C (.builtin "sum") sumD := fun X hX S _ W Z H st xs dxs d Q zh sz bx r0 hg q => by
  match dxs, hg with
  | [.lst xs], hg =>
    obtain ⟨v, rfl, r⟩ := r0.one
    obtain ⟨a, vs, rfl, h, l⟩ := r
    obtain ⟨ns, e1, rfl⟩ := Option.map_eq_some_iff.mp hg
    have ev := asInts_rep l e1
    subst ev
    exact cU_of (cr_sum hX.calm) ⟨a, ns, rfl, .inl (.inl h), fin_plain zh bx (.int _) rfl q⟩
/-! ### isinstance -/
def tyName : D → Option String
  | .non => some "NoneType"
  | .bl _ => some "bool"
  | .int _ => some "int"
  | .str _ => some "str"
  | .tup _ => some "tuple"
  | .lst _ => some "list"
  | .dct _ => some "dict"
  | .box => none
theorem tyX_of {K : PySem.W.Frag} {β : Addr} {Z H : Hp} {d : D} {v : V} {n : String} (s : Sub Z H) (r : Rep1 K β Z H d v) (h : tyName d = some n) : TyX K H v (.type n) := by
  cases d with
  | non => cases h; cases r; exact .base .non
  | bl b => cases h; cases r; exact .base (.bl b)
  | int i => cases h; cases r; exact .base (.int i)
  | str x => cases h; cases r; exact .base (.str x)
  | tup xs =>
    cases h
    cases r with
    | tup hq l =>
      rcases hq with hq | ⟨o, its, n, hk, hc, _⟩
      · exact .base (.tup (s _ _ hq))
      · exact .kTuple hk hc
  | lst xs => cases h; obtain ⟨a, vs, rfl, hq, l⟩ := r; exact .base (.lst hq)
  | dct xs =>
    cases h
    obtain ⟨a, rfl, ⟨kvs, hq, l⟩ | ⟨kvs, hq, l⟩⟩ := r
    · exact .base (.dK hq)
    · exact .base (.dT hq)
  | box => cases h
end
section
variable {S : Type} [BoxS S] {C : Stat} {Γ : SCx} {e a b : Expr} {es : List Expr} {m ma mb : M S D} {md : Md} {pos p p2 : Pos} {x : Str}
def isiD (T : String) (d : D) : Option D := (tyName d).bind fun n => (kitB n T).map .bl
theorem Ok.isinst {T : String} {y : Str} (ha : Ok .V C Γ a ma) (hg : C.sc.names.lookup ("isinstance" : Str) = some .globalImplicit) (hm : C.G.mg "isinstance" = none) (hgT : C.sc.names.lookup y = some .globalImplicit) (hmT : C.G.mg y = none)
    (hvT : bootBuiltins y = some (.type T)) (hn : y ≠ "__name__" := by decide) (hdb : (y == ("__debug__" : Str)) = false := by decide) (hp : plainArg a = true := by rfl) (hvI : bootBuiltins "isinstance" = some (.builtin "isinstance") := by decide +kernel) :
    Ok .E C Γ (.Call (.Name "isinstance" p) [a, .Name y p2] [] pos) (bnd ma fun x => lift (isiD T x)) := fun X hX W σ Z H st d st' Q r hm' q => by
  obtain ⟨x, st1, h1, hm1⟩ := bnd_some hm'
  obtain ⟨hg', rfl⟩ := lift_some hm1
  obtain ⟨n, hn', hb'⟩ := Option.bind_eq_some_iff.mp hg'
  obtain ⟨b, hk, rfl⟩ := Option.map_eq_some_iff.mp hb'
  refine tU_of (pe_callB call_isi (hX.glob hg) (hX.none hm) hvI (pa_cons peU (pa_cons (pe_bltn (v := .ty T) (hX.glob hgT) (hX.none hmT) hvT rfl hn hdb) pa_nil) (starEach_plain _ hp)) (by decide) (by decide) (starEach_plain _ hp)) ?_
  refine ha X hX W σ Z H st x _ _ r h1 fun v Z1 H1 s1 b1 r1 => ?_
  exact ⟨v, .ty T, .type n, .type T, b, rfl, .ty T, tyX_of s1.sub r1.1 hn', kit_ty hk, q _ Z1 H1 s1 b1 (.bl b)⟩
end
end Sn

namespace Sn
open PySem PySem.Spec PyProof.Rows L2

/-! ### subscripts, slices -/
theorem atI_rep {K : PySem.W.Frag} {β : Addr} {Z : Hp} {ds : List D} {vs : List V} {i : Int} {d : D} (r : RepL K β Z ds vs) (h : atI ds i = some d) : ∃ v, atI vs i = some v ∧ Rep K β Z d v := by
  unfold atI at h ⊢
  rw [← r.length]
  cases e : ixN ds.length i with
  | none => rw [e] at h; cases h
  | some j =>
    rw [e] at h
    obtain ⟨v, h1, h2⟩ := r.get (show ds[j]? = some d from h)
    exact ⟨v, h1, h2⟩
def ixD (d k : D) : Option D :=
  match d, k with
  | .tup xs, .int i => atI xs i
  | .lst xs, .int i => atI xs i
  | .str z, .int i => if z.length ≤ sizeLine then (atI z.cps.toList i).map fun c => .str ⟨#[c]⟩ else none
  | _, _ => none
def cutL {α : Type} (xs : List α) (lo hi : Option Int) : List α := (xs.drop (HT.sIx xs.length 0 lo)).take (HT.sIx xs.length xs.length hi - HT.sIx xs.length 0 lo)
theorem cutL_rep {K : PySem.W.Frag} {β : Addr} {Z : Hp} {ds : List D} {vs : List V} (r : RepL K β Z ds vs) (lo hi : Option Int) : RepL K β Z (cutL ds lo hi) (cutV vs lo hi) := by
  unfold cutL cutV
  rw [r.length]
  exact (r.drop _).take _
def slD (d : D) (lo hi : Option Int) : Option D :=
  match d with
  | .tup xs => some (.tup (cutL xs lo hi))
  | .lst xs => some (.lst (cutL xs lo hi))
  | _ => none
section
variable {S : Type} [BoxS S] {C : Stat} {Γ : SCx} {e a b : Expr} {es : List Expr} {m ma mb : M S D} {md : Md} {pos p p2 : Pos} {x : Str}
theorem Ok.ix (ha : Ok .V C Γ a ma) (hb : Ok .V C Γ b mb) (hs : PlainIx b := by exact fun _ _ => rfl) : Ok .E C Γ (.Subscript a b pos) (bnd ma fun x => bnd mb fun y => lift (ixD x y)) := fun X hX W σ Z H st d st' Q r hm q => by
  obtain ⟨x, st1, h1, hm1⟩ := bnd_some hm
  obtain ⟨y, st2, h2, hm2⟩ := bnd_some hm1
  obtain ⟨hg, rfl⟩ := lift_some hm2
  have hr := ((ix_list (X := X)).or ix_tup).or ix_str
  refine tU_of (pe_ix hr peU peU hs) (Ok.two ha hb hX r h1 h2 fun vx vy Z2 H2 s2 b2 r1 r2 => ?_)
  cases y with
  | int i =>
    cases r2.1
    cases x with
    | tup xs =>
      cases r1.1 with | tup hq l =>
        obtain ⟨v, e1, e2⟩ := atI_rep l (show atI xs i = some d from hg)
        exact .inl (.inr ⟨_, _, i, v, rfl, rfl, s2.sub.sqT hq, e1, q v Z2 H2 s2 b2 e2⟩)
    | lst xs =>
      obtain ⟨a, vs, rfl, hq, l⟩ := r1.1
      obtain ⟨v, e1, e2⟩ := atI_rep l (show atI xs i = some d from hg)
      exact .inl (.inl ⟨a, vs, i, v, rfl, rfl, .inl (.inl hq), e1, q v Z2 H2 s2 b2 e2⟩)
    | str z =>
      have hg' : (if z.length ≤ sizeLine then (atI z.cps.toList i).map fun c => D.str ⟨#[c]⟩ else none) = some d := hg
      split at hg'
      · obtain ⟨c, e1, rfl⟩ := Option.map_eq_some_iff.mp hg'
        cases r1.1
        exact .inr ⟨z, i, c, rfl, rfl, by assumption, e1, q _ Z2 H2 s2 b2 (.str _)⟩
      · cases hg'
    | _ => cases hg
  | _ => cases x <;> cases hg
def OkO {S : Type} [BoxS S] (C : Stat) (Γ : SCx) (oe : Option Expr) (m : M S (Option Int)) : Prop :=
  ∀ X, CtxP C X → ∀ (W : Wd) (σ : L2.St) (Z H : Hp) (st : S) (d : Option Int) (st' : S) (Q : Option Int → Hp → Prop), SR X.K W Γ σ Z H st → m st = some (d, st') →
    (∀ Z' H', Stp W Z H Z' H' → BoxS.R st' W.β W.γ H' → Q d H') → ∃ t, PO X oe t ∧ t σ H Q
theorem OkO.none : OkO (S := S) C Γ none (ret none) := fun X hX W σ Z H st d st' Q r hm q => by
  obtain ⟨rfl, rfl⟩ := ret_some hm
  exact ⟨_, po_none, q Z H r.refl r.box⟩
def asI {S : Type} : D → M S Int
  | .int i => ret i
  | _ => stuck
theorem asI_some {S : Type} {d : D} {s s' : S} {b : Int} (h : asI d s = some (b, s')) : d = .int b ∧ s' = s := by
  cases d with
  | int c => obtain ⟨rfl, rfl⟩ := ret_some h; exact ⟨rfl, rfl⟩
  | _ => exact (stuck_some (S := S) (α := Int) (s := s) h).elim
theorem OkO.some (ha : Ok .V C Γ a ma) : OkO C Γ (some a) (bnd (bnd ma asI) fun i => ret (some i)) := fun X hX W σ Z H st d st' Q r hm q => by
  obtain ⟨i, st1, h1, hm1⟩ := bnd_some hm
  obtain ⟨x, st2, h2, h3⟩ := bnd_some h1
  obtain ⟨rfl, rfl⟩ := asI_some h3
  obtain ⟨rfl, rfl⟩ := ret_some hm1
  refine ⟨_, po_some peU, ha X hX W σ Z H st _ _ _ r h2 fun v Z1 H1 s1 b1 r1 => ?_⟩
  cases r1.1
  exact ⟨i, rfl, q Z1 H1 s1 b1⟩
theorem Ok.sl {lo hi : Option Expr} {ml mh : M S (Option Int)} (ha : Ok .V C Γ a ma) (hl : OkO C Γ lo ml) (hh : OkO C Γ hi mh) : Ok .N C Γ (.Subscript a (.Slice lo hi none p2) pos) (bnd ma fun x => bnd ml fun i => bnd mh fun j => lift (slD x i j)) := fun X hX W σ Z H st d st' Q r hm q => by
  obtain ⟨x, st1, h1, hm1⟩ := bnd_some hm
  obtain ⟨i, st2, h2, hm2⟩ := bnd_some hm1
  obtain ⟨j, st3, h3, hm3⟩ := bnd_some hm2
  obtain ⟨hg, rfl⟩ := lift_some hm3
  have hr := (sl_tupA (X := X)).or sl_list
  -- the parts' readings, for any end
  let tl : TO := fun σ H Q => ∀ (pins : List (Addr × Obj)) (s : Shared), Inv X pins σ H s → wpAny (model X.prog X.w) X.A (evalPart lo X.env) (fun u s' => ∃ o H', Inv X pins σ H' s' ∧ IsPart u o ∧ Q o H') X.xe s
  let th : TO := fun σ H Q => ∀ (pins : List (Addr × Obj)) (s : Shared), Inv X pins σ H s → wpAny (model X.prog X.w) X.A (evalPart hi X.env) (fun u s' => ∃ o H', Inv X pins σ H' s' ∧ IsPart u o ∧ Q o H') X.xe s
  have pl : PO X lo tl := ⟨fun pins s σ H Q I h => h pins s I⟩
  have ph : PO X hi th := ⟨fun pins s σ H Q I h => h pins s I⟩
  refine tU_of (pe_slice hr peU pl ph) ?_
  refine ha X hX W σ Z H st x st1 _ r h1 fun vx Z1 H1 s1 b1 r1 => ?_
  intro pins1 sh1 I1
  obtain ⟨t1, p1, q1⟩ := hl X hX W σ Z1 H1 st1 i st2 (fun o H2 => th σ H2 fun o2 H3 => (rSlA X.K vx o o2 H3 Q ∨ rSlL X.K vx o o2 H3 Q)) (r.step s1 b1) h2 fun Z2 H2 s2 b2 => by
    intro pins2 sh2 I2
    obtain ⟨t2, p2, q2⟩ := hh X hX W σ Z2 H2 st2 j _ (fun o2 H3 => (rSlA X.K vx i o2 H3 Q ∨ rSlL X.K vx i o2 H3 Q)) ((r.step s1 b1).step s2 b2) h3 fun Z3 H3 s3 b3 => by
      have s13 := (s1.trans s2).trans s3
      have r3 : Res X.K W .V H Z3 H3 x vx := (r1.stp s2).stp s3
      have q' : ∀ v Z' H', Stp W Z3 H3 Z' H' → BoxS.R _ W.β W.γ H' → Res X.K W .N H3 Z' H' d v → Q v H' := fun v Z' H' s' b' r' => q v Z' H' (s13.trans s') b' (r'.back r.box b3 s13)
      cases x with
      | tup xs =>
        cases hg
        cases r3.1 with | tup hq l =>
          refine .inl ⟨_, _, rfl, s13.sub.sqT hq, fun hw => ?_, fun hw p hp => fin_tup s13.zh b3 hp (cutL_rep l i j) (Nat.le_trans (cutV_length _ _ _) ((s13.sz r.sz).tup (s13.sub.tupAt hq))) q'⟩
          refine fin_plain s13.zh b3 (.tup hq ?_) rfl q'
          have e : cutL xs i j = xs := by
            unfold cutL
            rw [← l.length] at hw
            rw [hw.1, hw.2]; simp
          rw [e]; exact l
      | lst xs =>
        cases hg
        obtain ⟨a, vs, rfl, hq, l⟩ := r3.1
        exact .inr ⟨a, vs, rfl, .inl (.inl hq), fun p hp => fin_lst s13.zh b3 hp (cutL_rep l i j) (Nat.le_trans (cutV_length _ _ _) ((s13.sz r.sz).lst hq)) q'⟩
      | _ => cases hg
    exact p2.run pins2 sh2 σ H2 _ I2 q2
  exact p1.run pins1 sh1 σ H1 _ I1 q1
end

/-! ### what is walked -/
def iterD : D → Option (List D)
  | .tup xs => some xs
  | .lst xs => some xs
  | _ => none
def iterM {S : Type} (d : D) : M S (List D) := fun s => (iterD d).map fun xs => (xs, s)
theorem iterM_some {S : Type} {d : D} {s s' : S} {xs : List D} (h : iterM d s = some (xs, s')) : iterD d = some xs ∧ s' = s := by
  unfold iterM at h
  cases e : iterD d with
  | none => rw [e] at h; cases h
  | some x => rw [e] at h; simp only [Option.map_some, Option.some.injEq, Prod.mk.injEq] at h; exact ⟨by rw [h.1], h.2.symm⟩
section
variable {S : Type} [BoxS S] {C : Stat} {Γ : SCx} {e a b tg : Expr} {es : List Expr} {m ma mb : M S D} {md : Md} {pos p p2 : Pos} {x : Str}
theorem yld_lst {X : Cx} {W : Wd} {Z H : Hp} {a : Addr} {vs : List V} {ds : List D} (nb : ¬ W.bx a) (h : H a = some (.lst vs)) (l : RepL X.K W.β Z ds vs) : Yld X.K W (Itl X.K a) ds (fun b => b = a) Z H := by
  refine ⟨fun b e => by subst e; exact ⟨⟨_, h⟩, nb⟩, fun i Z2 H2 st sz zh ka _ bx => ⟨fun hi => ?_, fun d hd => ?_⟩⟩
  · exact ⟨vs, .inl (.inl (ka a _ rfl h)), by rw [← l.length]; exact hi⟩
  · obtain ⟨v, h1, h2⟩ := l.get hd
    refine ⟨⟨vs, v, .inl (.inl (ka a _ rfl h)), h1⟩, fun x H3 y => ?_⟩
    obtain ⟨rfl, y⟩ := y
    have e := y vs (.inl (.inl (ka a _ rfl h)))
    rw [h1] at e; cases e
    exact ⟨Z2, Stp.refl zh, bx, h2.mono sz⟩
theorem yld_tup {X : Cx} {W : Wd} {Z H : Hp} {a : Addr} {vs : List V} {ds : List D} (h : TupAt X.K Z a vs) (l : RepL X.K W.β Z ds vs) : Yld X.K W (Itt X.K a) ds (fun _ => False) Z H := by
  refine ⟨fun b e => e.elim, fun i Z2 H2 st sz zh ka _ bx => ?_⟩
  have h2 : SqT X.K H2 a vs := (subOf zh).sqT (sz.tupAt h)
  refine ⟨fun hi => ⟨vs, h2, by rw [← l.length]; exact hi⟩, fun d hd => ?_⟩
  obtain ⟨v, h1, hr⟩ := l.get hd
  refine ⟨⟨vs, v, h2, h1⟩, fun x H3 y => ?_⟩
  obtain ⟨rfl, y⟩ := y
  have e := y vs h2
  rw [h1] at e; cases e
  exact ⟨Z2, Stp.refl zh, bx, hr.mono sz⟩
theorem OkI.val {bb : Bool} (ha : Ok md C Γ a ma) (hmd : md = .V → bb = false) : OkI bb C Γ tg a (bnd ma iterM) := fun X hX W σ Z H st xs st' R r hm q => by
  obtain ⟨d, st1, h1, hm1⟩ := bnd_some hm
  obtain ⟨hi, rfl⟩ := iterM_some hm1
  cases d with
  | tup ds =>
    cases hi
    refine tUI_of (pi_tup peU) (ha X hX W σ Z H st _ _ _ r h1 fun v Z1 H1 s1 b1 r1 => ?_)
    have r2 := r1.view s1.zh
    cases r2.1 with | tup hq l =>
      exact ⟨_, rfl, ⟨_, s1.sub.sqT hq⟩, q _ _ Z1 H1 s1 b1 (yld_tup hq l) fun _ _ h => h.elim⟩
  | lst ds =>
    cases hi
    refine tUI_of (pi_list peU) (ha X hX W σ Z H st _ _ _ r h1 fun v Z1 H1 s1 b1 r1 => ?_)
    have r2 := r1.view s1.zh
    obtain ⟨p, vs, rfl, hq, l⟩ := r2.1
    refine ⟨p, rfl, ⟨vs, .inl (.inl hq)⟩, q _ _ Z1 H1 s1 b1 (yld_lst (r2.2 p rfl rfl) hq l) fun hb a ea => ?_⟩
    subst ea
    cases md with
    | V => rw [hmd rfl] at hb; cases hb
    | E =>
      cases r1 with | lst hz _ =>
        refine ⟨fun ho => ?_, .inl (by rw [hz]; exact fun e => nomatch e)⟩
        obtain ⟨i, d', g1, g2⟩ := ho
        obtain ⟨b', e', zb, _, _, _⟩ := (r.step s1 b1).own i d' g1
        rw [g2] at e'; cases e'
        rw [zb] at hz; cases hz
    | N =>
      obtain ⟨f1, _, _⟩ := r1.2 a rfl rfl
      refine ⟨fun ho => ?_, .inr f1⟩
      obtain ⟨o, ho'⟩ := r.ownThere ho
      rw [f1] at ho'; cases ho'
  | _ => cases hi
def rng (lo hi : Int) : List D := (List.range (hi - lo).toNat).map fun k : Nat => .int (lo + (k : Int))
theorem yld_rng {K : PySem.W.Frag} {W : Wd} {Z H : Hp} {lo hi : Int} : Yld K W (Itr lo (hi - lo).toNat) (rng lo hi) (fun _ => False) Z H := by
  refine ⟨fun b e => e.elim, fun i Z2 H2 st sz zh ka _ bx => ⟨fun h => ?_, fun d hd => ?_⟩⟩
  · unfold rng at h
    rw [List.length_map, List.length_range] at h
    exact h
  · unfold rng at hd
    rw [List.getElem?_map] at hd
    by_cases hlt : i < (hi - lo).toNat
    · rw [List.getElem?_range hlt] at hd
      cases hd
      refine ⟨hlt, fun x H3 y => ?_⟩
      obtain ⟨rfl, rfl⟩ := y
      exact ⟨Z2, Stp.refl zh, bx, .int _⟩
    · rw [List.getElem?_eq_none (by simpa using hlt)] at hd; cases hd
/-- range(..) -/
def rngM {S : Type} : List D → M S (List D)
  | [.int j] => if -(2 ^ 62) ≤ j ∧ j < 2 ^ 62 then ret (rng 0 j) else stuck
  | [.int i, .int j] => if -(2 ^ 62) ≤ i ∧ i < 2 ^ 62 ∧ -(2 ^ 62) ≤ j ∧ j < 2 ^ 62 then ret (rng i j) else stuck
  | _ => stuck
theorem OkI.range1 {bb : Bool} (ha : Ok .V C Γ a ma) (hg : C.sc.names.lookup ("range" : Str) = some .globalImplicit) (hm : C.G.mg "range" = none) (hp : plainArg a = true := by rfl) : OkI bb C Γ tg (.Call (.Name "range" p) [a] [] pos) (bnd ma fun x => rngM [x]) := fun X hX W σ Z H st xs st' R r hm' q => by
  obtain ⟨d, st1, h1, hm1⟩ := bnd_some hm'
  cases d with
  | int j =>
    have hm2 : (if -(2 ^ 62) ≤ j ∧ j < 2 ^ 62 then ret (rng 0 j) else stuck : M S (List D)) st1 = some (xs, st') := hm1
    split at hm2
    · rename_i hc
      obtain ⟨rfl, rfl⟩ := ret_some hm2
      refine tUI_of (pi_range1 (hX.glob hg) (hX.none hm) (pa_cons peU pa_nil (starEach_plain _ hp)) (starEach_plain _ hp)) (ha X hX W σ Z H st _ _ _ r h1 fun v Z1 H1 s1 b1 r1 => ?_)
      cases r1.1
      refine ⟨j, rfl, hc.1, hc.2, ?_⟩
      have y := yld_rng (K := X.K) (W := W) (Z := Z1) (H := H1) (lo := 0) (hi := j)
      rw [show (j - 0).toNat = j.toNat by rw [Int.sub_zero]] at y
      exact q _ _ Z1 H1 s1 b1 y fun _ _ h => h.elim
    · exact (stuck_some hm2).elim
  | _ => exact (stuck_some (S := S) (α := List D) (s := st1) hm1).elim
theorem OkI.range2 {bb : Bool} (ha : Ok .V C Γ a ma) (hb : Ok .V C Γ b mb) (hg : C.sc.names.lookup ("range" : Str) = some .globalImplicit) (hm : C.G.mg "range" = none) (hp : plainArg a = true := by rfl) (hp2 : plainArg b = true := by rfl) :
    OkI bb C Γ tg (.Call (.Name "range" p) [a, b] [] pos) (bnd ma fun x => bnd mb fun y => rngM [x, y]) := fun X hX W σ Z H st xs st' R r hm' q => by
  obtain ⟨d, st1, h1, hm1⟩ := bnd_some hm'
  obtain ⟨d2, st2, h2, hm2⟩ := bnd_some hm1
  cases d with
  | int i => cases d2 with
    | int j =>
      have hm3 : (if -(2 ^ 62) ≤ i ∧ i < 2 ^ 62 ∧ -(2 ^ 62) ≤ j ∧ j < 2 ^ 62 then ret (rng i j) else stuck : M S (List D)) st2 = some (xs, st') := hm2
      split at hm3
      · rename_i hc
        obtain ⟨rfl, rfl⟩ := ret_some hm3
        refine tUI_of (pi_range2 (hX.glob hg) (hX.none hm) (pa_cons peU (pa_cons peU pa_nil (starEach_plain _ hp2)) (starEach_plain _ hp)) (by rw [starEach_plain _ hp, starEach_plain _ hp2]; rfl) (by rw [starEach_plain _ hp2]; rfl)) ?_
        refine Ok.two ha hb hX r h1 h2 fun vx vy Z2 H2 s2 b2 r1 r2 => ?_
        cases r1.1
        cases r2.1
        exact ⟨i, j, rfl, hc, q _ _ Z2 H2 s2 b2 yld_rng fun _ _ h => h.elim⟩
      · exact (stuck_some hm3).elim
    | _ => exact (stuck_some (S := S) (α := List D) (s := st2) hm2).elim
  | _ => exact (stuck_some (S := S) (α := List D) (s := st2) hm2).elim
end

/-! ### own lists change -/
set_option maxHeartbeats 4000000 in
theorem list_extend_tup (l : Addr) (items : Array Value) (n : Nat) (b : Addr) (items2 : Array Value) (n2 : Nat) (dd : Option Addr) (sl : Array (Option Value)) (hs0 : ¬(!items.isEmpty && Builtin.List.listTooLong (items.size + items2.size)) = true) (hs1 : items.size ≤ sizeLine) (hs2 : items.size + items2.size ≤ sizeLine + 1) :
    Meets (Builtin.«list.extend» ⟨[.ref l, .ref b], []⟩) (fun _ R s => s.heap.get? l = some { cls := .type "list", dict := none, data := .seq items n, slots := #[] } ∧ s.heap.get? b = some { cls := .type "tuple", dict := dd, data := .seq items2 n2, slots := sl } ∧ R (.ok (.ret Value.none)) { s with heap := s.heap.update l (Obj.mapSeq fun x => x ++ items2), toks := s.toks }) :=
  .of_wp fun prog w A R s h => by
    obtain ⟨hp, g, d, tk, os⟩ := s; obtain ⟨hl, hb, h⟩ := h; have f4 := AutoSeq1.sub_tuple_list; have f3 := AutoSeq1.sub_list_list
    have hz' : (items ++ items2).size ≤ sizeLine + 1 := by rw [Array.size_append]; exact hs2
    wp_walk using (wpAny_updateSeq hl rfl (hz := hs1) (_hz' := hz')), AutoSeq1.wpAny_loadPart' hl, AutoSeq1.wpAny_loadPart' hb; exact ⟨_, rfl, h⟩
def rExt3 (K : PySem.W.Frag) : V → List V → Hp → VK → Prop := fun x vs H Q => ∃ l b xs zs, x = .ref l ∧ vs = [.ref b] ∧ H l = some (.lst xs) ∧ (H b = some (.lst zs) ∨ SqT K H b zs) ∧ xs.length + zs.length ≤ sizeLine ∧ Q .non (upd H l (.lst (xs ++ zs)))
theorem mt_extend3 {X : Cx} : MtM X "list.extend" (rExt3 X.K) := by
  intro pins s σ H x vs v us Q I rx rv h
  obtain ⟨l, b, xs, zs, rfl, rfl, hH, hB, hz, q⟩ := h
  rcases hB with hB | hB
  · exact mt_extend pins s σ H _ _ v us Q I rx rv ⟨l, b, xs, zs, rfl, rfl, hH, hB, hz, q⟩
  · cases rx; obtain ⟨u, rfl, ru⟩ := rv.one; cases ru
    obtain ⟨z, its, n, r, hl, e⟩ := I.lstM hH
    obtain ⟨its2, r2, ⟨⟨cls, dd, data, sl⟩, ho, hc, n2, hd⟩, hs⟩ := I.tuple hB
    simp only at hc hd; subst hc hd
    have hl2 := r2.length
    have hsz : its.toArray.size + its2.toArray.size ≤ sizeLine := by rw [List.size_toArray, List.size_toArray]; omega
    have hlong : ¬ (!its.toArray.isEmpty && Builtin.List.listTooLong (its.toArray.size + its2.toArray.size)) = true := by rw [notLongL hsz, Bool.and_false]; exact Bool.false_ne_true
    refine call_meets F.slot_list_extend ⟨_, e, rfl⟩ F.entry_list_extend (F.args_list_extend_2 _ _) (list_extend_tup l its.toArray n b its2.toArray n2 dd sl hlong (by rw [List.size_toArray]; omega) (by omega)) ⟨e, ho, .non, _, I.lset (its' := its ++ its2) hH e (by simp) (r.append r2) (by rw [List.length_append]; omega), rfl, q⟩
section
variable {S : Type} [BoxS S] {C : Stat} {Γ : SCx} {e a b c : Expr} {rest : List Stmt} {m me : M S D} {pos p ap cp : Pos} {τ l : Type} {T : Tg τ l} {i : Nat} {x : Str} {d : D}
/-- behind a change of the own object at slot i -/
theorem bst_mut {X : Cx} {W : Wd} {σ : L2.St} {Z H : Hp} {st : S} {p : Addr} {o : HO} (r : SR X.K W Γ σ Z H st) (h0 : Γ[i]? = some (some (.own d))) (hp : σ[i]? = some (some (.ref p))) (so : SzO o) : BSt W Γ σ Z H Z (upd H p o) :=
  ⟨Sub.refl _, fun a u h _ no => by
    have hne : a ≠ p := fun e => no ⟨i, d, h0, by rw [e]; exact hp⟩
    rw [upd_ne hne]; exact h, fun _ _ h => .inl h, fun h => h.upd so⟩
def appD (d y : D) : Option D :=
  match d with
  | .lst xs => if xs.length < sizeLine then some (.lst (xs ++ [y])) else none
  | _ => none
theorem OkB.app {k : D → M S (Fl τ l)} (hN : C.N[i]? = some x) (hv : Vis C.sc x) (h0 : Γ[i]? = some (some (.own d))) (he : Ok .E C Γ e me) (hb : ∀ d', OkB C (Γ.set i (some (.own d'))) rest T (k d'))
    (hp : plainArg e = true := by rfl) (hd : (x == ("__debug__" : Str)) = false := by decide) (hcd : (x == ("__classdict__" : Str)) = false := by decide) (hline : (ap.endLine == cp.line) = true := by rfl)
    (hs : ∀ env : Env, swapsWith (.Call (.Attribute (.Name x p) "append" ap) [e] [] cp) none pos.line env = pure false := by intro _; rfl) :
    OkB C Γ (.Expr (.Call (.Attribute (.Name x p) "append" ap) [e] [] cp) pos :: rest) T (bnd me fun y => bnd (lift (appD d y)) k) := fun X hX W σ Z H st f st' D r hm q => by
  obtain ⟨y, st1, h1, hm1⟩ := bnd_some hm
  obtain ⟨d', st2, h2, hm2⟩ := bnd_some hm1
  obtain ⟨hg, rfl⟩ := lift_some h2
  cases d with
  | lst xs =>
    have hg' : (if xs.length < sizeLine then some (Sn.D.lst (xs ++ [y])) else none) = some d' := hg
    split at hg'
    · rename_i hl
      cases hg'
      refine tUS_of (pss_cons (ps_expr (pe_bm PySem.F.plainAttrs_list PySem.F.slot_list_append PySem.F.type_list_append mt_append (pe_var (i := i) (by rw [hX.N]; exact hN) (by rw [hX.sc]; exact hv) hd hcd) (pa_cons peU pa_nil (starEach_plain _ hp)) rfl (by rw [starEach_plain _ hp]; rfl) hline (starEach_plain _ hp)) (hs _)) pssU) ?_
      obtain ⟨pa, ep, z, nb, mu, a', vs, ea, hq, lr⟩ := r.own i _ h0
      cases ea
      refine ⟨_, ep, .inl ⟨rfl, _, .inl (.inl hq)⟩, ?_⟩
      refine he X hX W σ Z H st y _ _ r h1 fun v Z1 H1 s1 b1 r1 => ?_
      have rr := r.step s1 b1
      have hq1 := s1.hh _ _ hq nb
      have ll := lr.length
      refine ⟨pa, vs, v, rfl, rfl, hq1, by omega, ?_⟩
      have so : SzO (.lst (vs ++ [v])) := by
        show (vs ++ [v]).length ≤ sizeLine
        rw [List.length_append, List.length_singleton]; omega
      refine hb _ X hX W σ Z1 (upd H1 pa (.lst (vs ++ [v]))) _ f st' D (rr.mut (d' := Sn.D.lst (xs ++ [y])) h0 ep rfl ⟨pa, _, rfl, upd_same, (lr.mono s1.zz).append (.cons r1 .nil)⟩ so) hm2 ?_
      exact (q.after s1.bst OwLe.refl (Γ1 := Γ) (σ1 := σ)).after (bst_mut rr h0 ep so) fun a h => .inl (own_mut h0 h)
    · cases hg'
  | _ => cases hg
def extD (d y : D) : Option D :=
  match d, y with
  | .lst xs, .lst ys => if xs.length + ys.length ≤ sizeLine then some (.lst (xs ++ ys)) else none
  | .lst xs, .tup ys => if xs.length + ys.length ≤ sizeLine then some (.lst (xs ++ ys)) else none
  | _, _ => none
theorem extD_some {d y d' : D} (h : extD d y = some d') : ∃ xs ys, d = .lst xs ∧ (y = .lst ys ∨ y = .tup ys) ∧ xs.length + ys.length ≤ sizeLine ∧ d' = .lst (xs ++ ys) := by
  cases d with
  | lst xs => cases y with
    | lst ys =>
      have h' : (if xs.length + ys.length ≤ sizeLine then some (Sn.D.lst (xs ++ ys)) else none) = some d' := h
      split at h'
      · cases h'; exact ⟨xs, ys, rfl, .inl rfl, by assumption, rfl⟩
      · cases h'
    | tup ys =>
      have h' : (if xs.length + ys.length ≤ sizeLine then some (Sn.D.lst (xs ++ ys)) else none) = some d' := h
      split at h'
      · cases h'; exact ⟨xs, ys, rfl, .inr rfl, by assumption, rfl⟩
      · cases h'
    | _ => cases h
  | _ => cases h
theorem OkB.ext {k : D → M S (Fl τ l)} (hN : C.N[i]? = some x) (hv : Vis C.sc x) (h0 : Γ[i]? = some (some (.own d))) (he : Ok .V C Γ e me) (hb : ∀ d', OkB C (Γ.set i (some (.own d'))) rest T (k d'))
    (hp : plainArg e = true := by rfl) (hd : (x == ("__debug__" : Str)) = false := by decide) (hcd : (x == ("__classdict__" : Str)) = false := by decide) (hline : (ap.endLine == cp.line) = true := by rfl)
    (hs : ∀ env : Env, swapsWith (.Call (.Attribute (.Name x p) "extend" ap) [e] [] cp) none pos.line env = pure false := by intro _; rfl) :
    OkB C Γ (.Expr (.Call (.Attribute (.Name x p) "extend" ap) [e] [] cp) pos :: rest) T (bnd me fun y => bnd (lift (extD d y)) k) := fun X hX W σ Z H st f st' D r hm q => by
  obtain ⟨y, st1, h1, hm1⟩ := bnd_some hm
  obtain ⟨d', st2, h2, hm2⟩ := bnd_some hm1
  obtain ⟨hg, rfl⟩ := lift_some h2
  obtain ⟨xs, ys, rfl, hy, hl, rfl⟩ := extD_some hg
  refine tUS_of (pss_cons (ps_expr (pe_bm PySem.F.plainAttrs_list PySem.F.slot_list_extend PySem.F.type_list_extend mt_extend3 (pe_var (i := i) (by rw [hX.N]; exact hN) (by rw [hX.sc]; exact hv) hd hcd) (pa_cons peU pa_nil (starEach_plain _ hp)) rfl (by rw [starEach_plain _ hp]; rfl) hline (starEach_plain _ hp)) (hs _)) pssU) ?_
  obtain ⟨pa, ep, z, nb, mu, a', vs, ea, hq, lr⟩ := r.own i _ h0
  cases ea
  refine ⟨_, ep, .inl ⟨rfl, _, .inl (.inl hq)⟩, ?_⟩
  refine he X hX W σ Z H st _ _ _ r h1 fun v Z1 H1 s1 b1 r1 => ?_
  have rr := r.step s1 b1
  have hq1 := s1.hh _ _ hq nb
  have ll := lr.length
  have hb2 : ∃ pb us, v = .ref pb ∧ (H1 pb = some (.lst us) ∨ SqT X.K H1 pb us) ∧ RepL X.K W.β Z1 ys us := by
    rcases hy with rfl | rfl
    · obtain ⟨pb, us, rfl, hqb, lb⟩ := r1.1
      exact ⟨pb, us, rfl, .inl hqb, lb⟩
    · cases r1.1 with | tup hqb lb => exact ⟨_, _, rfl, .inr (s1.sub.sqT hqb), lb⟩
  obtain ⟨pb, us, rfl, hqb, lb⟩ := hb2
  have lb' := lb.length
  refine ⟨pa, pb, vs, us, rfl, rfl, hq1, hqb, by omega, ?_⟩
  have so : SzO (.lst (vs ++ us)) := by
    show (vs ++ us).length ≤ sizeLine
    rw [List.length_append]; omega
  refine hb _ X hX W σ Z1 (upd H1 pa (.lst (vs ++ us))) _ f st' D (rr.mut (d' := Sn.D.lst (xs ++ ys)) h0 ep rfl ⟨pa, _, rfl, upd_same, (lr.mono s1.zz).append lb⟩ so) hm2 ?_
  exact (q.after s1.bst OwLe.refl (Γ1 := Γ) (σ1 := σ)).after (bst_mut rr h0 ep so) fun a h => .inl (own_mut h0 h)
/-- x[k] = e -/
def setD (d k y : D) : Option D :=
  match d, k with
  | .lst xs, .int i => (ixN xs.length i).map fun j => .lst (xs.set j y)
  | _, _ => none
theorem OkB.setIx {mk : M S D} {k : D → M S (Fl τ l)} {pp : Pos} (hN : C.N[i]? = some x) (hv : Vis C.sc x) (h0 : Γ[i]? = some (some (.own d))) (he : Ok .E C Γ e me) (hk : Ok .V C Γ b mk) (hb : ∀ d', OkB C (Γ.set i (some (.own d'))) rest T (k d'))
    (hd : (x == ("__debug__" : Str)) = false := by decide) (hcd : (x == ("__classdict__" : Str)) = false := by decide)
    (hs : ∀ env : Env, swapsWithSole [.Subscript (.Name x p) b pp] e pos.line env = pure false := by intro _; rfl) (hw : ∀ env : Env, swappedStores [.Subscript (.Name x p) b pp] e env = pure none := by intro _; rfl)
    (ha : ∀ (env : Env) v, assign (.Subscript (.Name x p) b pp) env v = (do
      let ov ← holding [v] (eval (.Name x p) env)
      let iv ← holding [v, ov] (eval b env)
      standAt pp
      holding [v, ov, iv] (setItem ov iv v)
      release [v, ov, iv] []) := by intro _ _; rfl) :
    OkB C Γ (.Assign [.Subscript (.Name x p) b pp] e pos :: rest) T (bnd me fun y => bnd mk fun j => bnd (lift (setD d j y)) k) := fun X hX W σ Z H st f st' D r hm q => by
  obtain ⟨y, st1, h1, hm1⟩ := bnd_some hm
  obtain ⟨j, st2, h2, hm2⟩ := bnd_some hm1
  obtain ⟨d', st3, h3, hm3⟩ := bnd_some hm2
  obtain ⟨hg, rfl⟩ := lift_some h3
  cases d with
  | lst xs => cases j with
    | int ii =>
      obtain ⟨jj, ej, rfl⟩ := Option.map_eq_some_iff.mp hg
      refine tUS_of (pss_cons (ps_asg peU (pg_sub (pe_var (i := i) (by rw [hX.N]; exact hN) (by rw [hX.sc]; exact hv) hd hcd) peU set_list (ha _)) (hs _) (hw _)) pssU) ?_
      refine he X hX W σ Z H st y _ _ r h1 fun v Z1 H1 s1 b1 r1 => ?_
      have rr := r.step s1 b1
      obtain ⟨pa, ep, z, nb, mu, a', vs, ea, hq, lr⟩ := rr.own i _ h0
      cases ea
      refine ⟨_, ep, ?_⟩
      refine hk X hX W σ Z1 H1 st1 _ _ _ rr h2 fun vj Z2 H2 s2 b2 r2 => ?_
      cases r2.1
      have rr2 := rr.step s2 b2
      have hq1 := s2.hh _ _ hq nb
      have ll := lr.length
      refine ⟨pa, vs, ii, jj, rfl, rfl, hq1, by rw [← ll]; exact ej, ?_⟩
      have so : SzO (.lst (vs.set jj v)) := by
        show (vs.set jj v).length ≤ sizeLine
        rw [List.length_set]; exact rr2.sz.lst hq1
      refine hb _ X hX W σ Z2 (upd H2 pa (.lst (vs.set jj v))) _ f st' D (rr2.mut (d' := Sn.D.lst (xs.set jj y)) h0 ep rfl ⟨pa, _, rfl, upd_same, (lr.mono s2.zz).set jj (q := r1.mono s2.zz)⟩ so) hm3 ?_
      exact (q.after (s1.trans s2).bst OwLe.refl (Γ1 := Γ) (σ1 := σ)).after (bst_mut rr2 h0 ep so) fun a h => .inl (own_mut h0 h)
    | _ => cases hg
  | _ => cases hg
/-- x, y = e, f: two local names on a line -/
theorem swapped_two {env : Env} {y : Str} {px py pt pt2 : Pos} {kt k2 : Nat} {u v : Expr} (hk : env.scope.kind = .function) (hx : env.scope.names.lookup x = some .local) (hy : env.scope.names.lookup y = some .local) (hl : (px.line == py.line) = true)
    (hu : plainArg u = true) (hv : plainArg v = true) (hne : (y == x) = false) (hf : [u, v].all (foldedForSure 8) = false) (hc : [u, v].all (constantsAlone 8) = false) :
    swappedStores [.Tuple [.Name x px, .Name y py] kt pt] (.Tuple [u, v] k2 pt2) env = pure (some [x, y]) := by
  have kx : env.kindOf x = some .local := hx
  have ky : env.kindOf y = some .local := hy
  have hb : env.blockKind = .function := by unfold Env.blockKind; rw [hk]; rfl
  have hl' : (py.line == px.line) = true := by rw [beq_iff_eq] at hl ⊢; exact hl.symm
  unfold swappedStores
  have s1 : ([u, v].any fun | .Starred .. => true | _ => false) = false := by
    cases u <;> first | (cases hu; done) | (cases v <;> first | (cases hv; done) | rfl)
  simp only [hb, List.length_cons, List.length_nil, s1, List.head?_cons, Option.map_some, Option.getD_some, Expr.pos, List.filterMap_cons, List.filterMap_nil, kx, ky, hl', hf, hc, beq_self_eq_true, Bool.and_self, if_true]
  have hd : ([x, y].eraseDups).length = 2 := by
    simp [List.eraseDups, List.eraseDupsBy, List.eraseDupsBy.loop, hne]
  rw [if_neg (by decide), if_neg (by
    intro h
    simp only [List.any_cons, List.any_nil, Bool.or_false, Bool.or_eq_true] at h
    rcases h with h | h
    · cases u <;> first | (cases h; done) | (cases hu; done)
    · cases v <;> first | (cases h; done) | (cases hv; done)), hd]
  rfl
/-- x, y = e, f, stored from the right; each kept for good, or an own list -/
def mdEn (md : Md) (d : D) : En := match md with
  | .N => .own d
  | _ => .frz d
def okMd (md : Md) (d : D) : Bool := match md with
  | .N => isMut d
  | _ => true
theorem OkB.par2 {u v : Expr} {mu mv : M S D} {mdu mdv : Md} {j : Nat} {y : Str} {px py pt pt2 : Pos} {kt k2 : Nat} {k : D → D → M S (Fl τ l)} (hN : C.N[i]? = some x) (hN2 : C.N[j]? = some y) (hij : i ≠ j) (hfk : C.sc.kind = .function)
    (hx : C.sc.names.lookup x = some .local) (hy : C.sc.names.lookup y = some .local) (hu : Ok mdu C Γ u mu) (hv : Ok mdv C Γ v mv) (eu : mdu = .E ∨ mdu = .N) (ev : mdv = .E ∨ mdv = .N)
    (hb : ∀ d e, OkB C ((Γ.set i (some (mdEn mdu d))).set j (some (mdEn mdv e))) rest T (k d e))
    (hl : (px.line == py.line) = true := by rfl) (pu : plainArg u = true := by rfl) (pv : plainArg v = true := by rfl) (hne : (y == x) = false := by decide) (hf : [u, v].all (foldedForSure 8) = false := by rfl) (hc : [u, v].all (constantsAlone 8) = false := by rfl)
    (hs : ∀ env : Env, swapsWithSole [.Tuple [.Name x px, .Name y py] kt pt] (.Tuple [u, v] k2 pt2) pos.line env = pure false := by intro _; rfl) :
    OkB C Γ (.Assign [.Tuple [.Name x px, .Name y py] kt pt] (.Tuple [u, v] k2 pt2) pos :: rest) T (bnd mu fun d => bnd mv fun e => if okMd mdu d = true ∧ okMd mdv e = true then k d e else stuck) := fun X hX W σ Z H st f st' D r hm q => by
  obtain ⟨du, st1, h1, hm1⟩ := bnd_some hm
  obtain ⟨dv, st2, h2, hm2⟩ := bnd_some hm1
  split at hm2
  · rename_i hok
    refine tUS_of (pss_cons (ps_par hX.calm (i := i) (j := j) (by rw [hX.N]; exact hX.nd) (by rw [hX.N]; exact hN) (by rw [hX.N]; exact hN2) hij (by rw [hX.sc]; exact hx) (by rw [hX.sc]; exact hy) (pa_cons peU (pa_cons peU pa_nil (starEach_plain _ pv)) (starEach_plain _ pu))
      (swapped_two (by rw [hX.sc]; exact hfk) (by rw [hX.sc]; exact hx) (by rw [hX.sc]; exact hy) hl pu pv hne hf hc) (hs _)) pssU) ?_
    refine hu X hX W σ Z H st du st1 _ r h1 fun vx Z1 H1 s1 b1 r1' => ?_
    refine hv X hX W σ Z1 H1 st1 dv st2 _ (r.step s1 b1) h2 fun vy Z2 H2 s12 b2 r2' => ?_
    have s2 := s1.trans s12
    have r1 := r1'.stp s12
    have r2 := r2'.back r.box b1 s1
    refine ⟨vx, vy, rfl, ?_⟩
    have rr := r.step s2 b2
    have dj : ∀ {md : Md} {d : Sn.D} {w : V}, md = .E ∨ md = .N → okMd md d = true → Res X.K W md H Z2 H2 d w → (md = .E ∧ Rep X.K W.β Z2 d w) ∨ (md = .N ∧ ∃ p, w = .ref p ∧ isMut d = true ∧ Rep1 X.K W.β Z2 H2 d (.ref p) ∧ Z2 p = none ∧ ¬ W.bx p ∧ H p = none) := by
      intro md d w e ok rs
      rcases e with rfl | rfl
      · exact .inl ⟨rfl, rs⟩
      · refine .inr ⟨rfl, ?_⟩
        have mu : isMut d = true := ok
        obtain ⟨q4, q5⟩ := rs
        have hv : ∃ p, w = .ref p := by
          cases d with
          | lst ds => obtain ⟨b, vs, eb, _⟩ := q4; exact ⟨b, eb⟩
          | dct ds => obtain ⟨b, eb, _⟩ := q4; exact ⟨b, eb⟩
          | _ => cases mu
        obtain ⟨p, rfl⟩ := hv
        obtain ⟨f1, f2, f3⟩ := q5 p rfl mu
        exact ⟨p, rfl, mu, q4, f2, f3, f1⟩
    have noOld : ∀ p, H p = none → ¬ ownA Γ σ p := fun p f1 h => by
      obtain ⟨o, ho⟩ := r.ownThere h
      rw [f1] at ho; cases ho
    rcases dj eu hok.1 r1 with ⟨rfl, g1⟩ | ⟨rfl, p, rfl, mu1, g1, z1, n1, f1⟩
    · rcases dj ev hok.2 r2 with ⟨rfl, g2⟩ | ⟨rfl, p2, rfl, mu2, g2, z2, n2, f2⟩
      · exact hb du dv X hX W _ Z2 H2 st2 f st' D ((rr.setF g1).setF g2) hm2 (q.after s2.bst fun a h => .inl (own_setF (own_setF h)))
      · refine hb du dv X hX W _ Z2 H2 st2 f st' D ((rr.setF g1).setO mu2 g2 z2 n2 fun h => noOld _ f2 (own_setF h)) hm2 (q.after s2.bst fun a h => ?_)
        rcases own_setO h with h | rfl
        · exact .inl (own_setF h)
        · exact .inr f2
    · rcases dj ev hok.2 r2 with ⟨rfl, g2⟩ | ⟨rfl, p2, rfl, mu2, g2, z2, n2, f2⟩
      · refine hb du dv X hX W _ Z2 H2 st2 f st' D ((rr.setO mu1 g1 z1 n1 (noOld _ f1)).setF g2) hm2 (q.after s2.bst fun a h => ?_)
        rcases own_setO (own_setF h) with h | rfl
        · exact .inl h
        · exact .inr f1
      · -- two new lists: they stand apart
        have hp1 : ∃ o, H1 p = some o := by
          obtain ⟨q4, _⟩ := r1'
          cases du with
          | lst ds => obtain ⟨b, vs, eb, hb', _⟩ := q4; cases eb; exact ⟨_, hb'⟩
          | dct ds =>
            obtain ⟨b, eb, ⟨kvs, h, _⟩ | ⟨kvs, h, _⟩⟩ := q4
            · cases eb; exact ⟨_, h⟩
            · cases eb; exact ⟨_, h⟩
          | _ => cases mu1
        have hne' : p2 ≠ p := fun e => by
          obtain ⟨o, ho⟩ := hp1
          rw [← e, (r2'.2 p2 rfl mu2).1] at ho; cases ho
        refine hb du dv X hX W _ Z2 H2 st2 f st' D ((rr.setO mu1 g1 z1 n1 (noOld _ f1)).setO mu2 g2 z2 n2 fun h => ?_) hm2 (q.after s2.bst fun a h => ?_)
        · rcases own_setO h with h | e
          · exact noOld _ f2 h
          · exact hne' e
        · rcases own_setO h with h | rfl
          · rcases own_setO h with h | rfl
            · exact .inl h
            · exact .inr f1
          · exact .inr f2
  · exact (stuck_some hm2).elim
end
end Sn

namespace Sn
open PySem PySem.Spec PyProof.Rows L2

/-! ### the law's box -/
structure Bx where
  cells : List Int
  dig : Int
  seed : Int
  hd : 0 ≤ dig
  hs : 0 ≤ seed ∧ seed < 2147483648
def bxR (b : Bx) (β γ : Addr) (H : Hp) : Prop := H β = some (.lst [.ref γ, .int b.dig, .int b.seed]) ∧ H γ = some (.lst (b.cells.map V.int))
instance : BoxS Bx where
  R := bxR
  there := fun h => ⟨⟨_, h.1⟩, ⟨_, h.2⟩⟩
  congr := fun h e1 e2 => ⟨e1.trans h.1, e2.trans h.2⟩
/-- what the box is filled with: the number, the cells left, the seed -/
def bxSeed (seed : Int) : Int × Int × Int :=
  let first := (seed * 48271 + 17) % 2147483629
  let second := (first * 69621 + 5) % 2147483587
  let s := (second * 40692 + 3) % 2147483563
  (first, second, s)
def bxLast (cells : List Int) (seed : Int) : Int × List Int × Int :=
  ((bxSeed seed).1 * 4611686014132420609 + (bxSeed seed).2.1 * 2147483647 + (bxSeed seed).2.2, cells, (bxSeed seed).2.2)
def bxSize (c : Int) : Int := if 0 ≤ c then 2 * c else -2 * c - 1
def bxLoad (cells : List Int) (seed : Int) : Int × List Int × Int :=
  match cells with
  | [] => bxLast [] seed
  | c :: cs => if 1000000000000000000 ≤ bxSize c then (bxSize c, cs, seed) else bxLast cs ((seed * 69621 + bxSize c * 48271 + 11) % 2147483647)
theorem bxSize_nn (c : Int) : 0 ≤ bxSize c := by unfold bxSize; split <;> omega
theorem bxSeed_nn (seed : Int) : (0 ≤ (bxSeed seed).1 ∧ (bxSeed seed).1 < 2147483648) ∧ (0 ≤ (bxSeed seed).2.1 ∧ (bxSeed seed).2.1 < 2147483648) ∧ (0 ≤ (bxSeed seed).2.2 ∧ (bxSeed seed).2.2 < 2147483648) := by
  unfold bxSeed
  simp only
  omega
theorem bxLast_nn (cells : List Int) (seed : Int) : 0 ≤ (bxLast cells seed).1 ∧ 0 ≤ (bxLast cells seed).2.2 ∧ (bxLast cells seed).2.2 < 2147483648 := by
  obtain ⟨h1, h2, h3⟩ := bxSeed_nn seed
  unfold bxLast
  simp only
  omega
theorem bxLoad_nn (cells : List Int) (seed : Int) (h : 0 ≤ seed ∧ seed < 2147483648) : 0 ≤ (bxLoad cells seed).1 ∧ 0 ≤ (bxLoad cells seed).2.2 ∧ (bxLoad cells seed).2.2 < 2147483648 := by
  unfold bxLoad
  split
  · exact bxLast_nn _ _
  · rename_i c cs
    have := bxSize_nn c
    split
    · exact ⟨this, h⟩
    · exact bxLast_nn _ _
theorem bxLoad_len (cells : List Int) (seed : Int) : (bxLoad cells seed).2.1.length ≤ cells.length := by
  unfold bxLoad bxLast
  split
  · exact Nat.le_refl _
  · split
    · exact Nat.le_succ _
    · exact Nat.le_succ _
/-- one draw: the digit, the box behind it -/
def drawB (b : Bx) (many : Int) (hm : 0 < many) : Int × Bx :=
  if b.dig < many then
    ((bxLoad b.cells b.seed).1 % many, ⟨(bxLoad b.cells b.seed).2.1, (bxLoad b.cells b.seed).1 / many, (bxLoad b.cells b.seed).2.2, Int.ediv_nonneg (bxLoad_nn b.cells b.seed b.hs).1 (Int.le_of_lt hm), (bxLoad_nn b.cells b.seed b.hs).2⟩)
  else (b.dig % many, ⟨b.cells, b.dig / many, b.seed, Int.ediv_nonneg b.hd (Int.le_of_lt hm), b.hs⟩)
def drawM (many : Int) : M Bx D := fun b => if h : 0 < many ∧ many < 1073741824 then some (.int (drawB b many h.1).1, (drawB b many h.1).2) else none
def m_draw : List D → M Bx D
  | [.box, .int many] => drawM many
  | _ => stuck

section
variable {P : Program} {w : World} {K : PySem.W.Frag} {mg : Str → Option Value} {base : Heap}
/-- other addresses stand -/
def Else2 (H H' : Hp) (β γ : Addr) : Prop := ∀ a, a ≠ β → a ≠ γ → H' a = H a
def spLoad : Sp := fun vs H Q _ => ∃ (β γ : Addr) (cells : List Int) (dig seed : Int), vs = [.ref β] ∧ H β = some (.lst [.ref γ, .int dig, .int seed]) ∧ H γ = some (.lst (cells.map V.int)) ∧ cells.length ≤ sizeLine ∧ 0 ≤ seed ∧ seed < 2147483648 ∧
  ∀ H', Else2 H H' β γ → H' β = some (.lst [.ref γ, .int dig, .int (bxLoad cells seed).2.2]) → H' γ = some (.lst ((bxLoad cells seed).2.1.map V.int)) → Q (.int (bxLoad cells seed).1) H'
theorem Sz.only {H : Hp} (h : Only H) : Sz H := fun b vs hv => by
  rcases h b with e | ⟨o, xs, e⟩ <;> rw [e] at hv <;> rcases hv with hv | hv <;> cases hv
def spBox (K : PySem.W.Frag) : Sp := fun vs H Q _ => ∃ (a : Addr) (ns : List Int), vs = [.ref a] ∧ SqL K H a (ns.map V.int) ∧ ns.length ≤ 63 ∧
  ∀ (H' : Hp) (β γ : Addr), Same H H' → H β = none → H γ = none → H' β = some (.lst [.ref γ, .int 0, .int (4711 + (ns.length : Int))]) → H' γ = some (.lst (ns.map V.int)) → (Sz H → Sz H') → Q (.ref β) H'
def spLaw (K : PySem.W.Frag) : Sp := fun vs H Q _ => ∃ (a : Addr) (ns : List Int), vs = [.ref a] ∧ SqL K H a (ns.map V.int) ∧ ns.length ≤ 63 ∧ Sz H ∧ ∀ H', Q (.bl true) H'
theorem ok_law_of {st : Stmt} {f fB : Addr} {fd fdB : FuncData} {N : List Str} {k jB i : Nat} {rest : List Stmt} {x1 xB x3 : Str} {p1 p2 p3 pc ps : Pos} {m : M Bx (Fl Unit Unit)} {Γ1 : SCx} {qual xl : Str}
    (F : Fun K xl qual st f fd) (Sc : FnScope N ["script"] (defScope st)) (GB : FnOk P w K mg base CX0 jB fB fdB ["script"] (spBox K)) (kpB : PySem.W.keepIn K (.ref fB) = true) (bB : Binds K fdB ["script"] []) (gB : mg xB = some (.ref fB)) (hj : jB ≤ k)
    (hb : defBody st = .Assign [.Name x1 p1] (.Call (.Name xB p2) [.Name x3 p3] [] pc) ps :: rest) (h3 : x3 = "script") (hgl : (defScope st).names.lookup xB = some .globalImplicit) (hv3 : Vis (defScope st) x3) (hi : N[i]? = some x1) (hi0 : N[0]? = some x3) (hx1 : Loc (defScope st) x1)
    (hΓ : Γ1 = (List.replicate N.length none).set i (some (.frz .box)))
    (hrest : OkB (S := Bx) ⟨⟨P, w, K, mg, base⟩, N, defScope st, k, fun _ => true⟩ Γ1 rest ⟨fun _ : Unit => List.replicate N.length none, fun _ : Unit => List.replicate N.length none⟩ m)
    (hm : ∀ b : Bx, ∃ b', bnd m endF b = some (.bl true, b')) (hd : (x3 == ("__debug__" : Str)) = false := by decide) (hcd : (x3 == ("__classdict__" : Str)) = false := by decide) (hdB : (xB == ("__debug__" : Str)) = false := by decide) :
    FnOk P w K mg base CX0 (k + 1) f fd ["script"] (spLaw K) := by
  refine F.ok Sc (fun vs H Q E h => ?_) (fun cdv A outer s H vs Q E hr h => ?_)
  · obtain ⟨a, ns, rfl, _⟩ := h
    rfl
  obtain ⟨a, ns, rfl, hS, hlen, sz, q⟩ := h
  rw [hb]
  refine ⟨_, pss_cons (ps_set (i := i) Sc.nd hi hx1 (pe_call GB (hr.mono hj) hgl gB kpB bB .nil pass0 (pa_cons (pe_var (i := 0) hi0 hv3 hd hcd) pa_nil) hdB)) pssU, ?_⟩
  have hNl : 0 < N.length := by
    cases N with
    | nil => cases hi0
    | cons _ _ => simp
  refine ⟨.ref a, ?_, a, ns, rfl, hS, hlen, fun H1 β γ sm nβ nγ hβ hγ szi => ?_⟩
  · unfold L2.start; rfl
  let b0 : Bx := ⟨ns, 0, 4711 + (ns.length : Int), Int.le_refl 0, by omega⟩
  obtain ⟨b', hb'⟩ := hm b0
  obtain ⟨fl, b1, h1, h2⟩ := bnd_some hb'
  have hil : i < N.length := by
    cases h : N[i]? with
    | none => rw [hi] at h; cases h
    | some y => exact (List.getElem?_eq_some_iff.mp h).1
  refine hrest _ ⟨rfl, rfl, rfl, rfl, rfl, rfl, rfl, Sc.nd, rfl, hr, rfl, fun _ _ => rfl⟩ ⟨β, γ⟩ ((L2.start N [.ref a]).set i (some (.ref β))) (fun _ => none) H1 b0 fl b1 _ ?_ h1 ?_
  · subst hΓ
    refine ⟨?_, szi sz, (⟨hβ, hγ⟩ : bxR b0 β γ H1), (fun _ _ h => nomatch h), (fun j d h => ?_), (fun j d h => ?_), (fun j j' d d' a' h => ?_)⟩
    · unfold L2.start
      simp only [List.length_set, List.length_append, List.length_map, List.length_cons, List.length_nil, List.length_replicate]
      omega
    · rcases set_cases h with ⟨rfl, he, hl⟩ | ⟨hn, h⟩
      · cases he
        refine ⟨.ref β, List.getElem?_set_self ?_, .box⟩
        unfold L2.start
        simp only [List.length_append, List.length_map, List.length_cons, List.length_nil, List.length_replicate]
        omega
      · rw [List.getElem?_replicate] at h
        split at h <;> simp at h
    · rcases set_cases h with ⟨rfl, he, hl⟩ | ⟨hn, h⟩
      · cases he
      · rw [List.getElem?_replicate] at h
        split at h <;> simp at h
    · rcases set_cases h with ⟨rfl, he, hl⟩ | ⟨hn, h⟩
      · cases he
      · rw [List.getElem?_replicate] at h
        split at h <;> simp at h
  · cases fl with
    | nx s' =>
      obtain ⟨e, _⟩ := ret_some h2
      cases e
    | rt d =>
      obtain ⟨e, _⟩ := ret_some h2
      intro v Z' H' _ _ _ rv
      subst e
      cases rv
      exact q H'
    | bk s' => exact (stuck_some (S := Bx) (α := D) (s := b1) h2).elim
    | ct s' => exact (stuck_some (S := Bx) (α := D) (s := b1) h2).elim
end
end Sn

namespace Sn
open PySem PySem.Spec PyProof.Rows L2
/-! ### short words for mirrors -/
section
variable {S : Type} {τ l τ' l' : Type}
def op2M (g : D → D → Option D) (ma mb : M S D) : M S D := bnd ma fun x => bnd mb fun y => lift (g x y)
def cmpT (g : D → D → Option D) (ma mb : M S D) : M S Bool := bnd ma fun x => bnd mb fun y => bnd (lift (g x y)) asB
def chainM (g g' : D → D → Option D) (ma mb mc : M S D) : M S D := bnd ma fun x => bnd mb fun y => bnd (bnd (lift (g x y)) asB) fun t => if t = true then bnd mc fun z => lift (g' y z) else ret (.bl false)
def chainT (g g' : D → D → Option D) (ma mb mc : M S D) : M S Bool := bnd ma fun x => bnd mb fun y => bnd (bnd (lift (g x y)) asB) fun t => if t = true then bnd mc fun z => bnd (lift (g' y z)) asB else ret false
def valT (ma : M S D) : M S Bool := bnd ma truM
def notT (n : M S Bool) : M S Bool := bnd n fun b => ret (!b)
def andT (n k : M S Bool) : M S Bool := bnd n fun t => if t = true then k else ret false
def orT (n k : M S Bool) : M S Bool := bnd n fun t => if t = true then ret true else k
def andM (ma mb : M S D) : M S D := bnd (bnd ma asB) fun t => if t = true then mb else ret (.bl false)
def orM (ma mb : M S D) : M S D := bnd (bnd ma asB) fun t => if t = true then ret (.bl true) else mb
def notM (ma : M S D) : M S D := bnd (bnd ma truM) fun t => ret (.bl (!t))
def negD : D → Option D
  | .int i => some (.int (-i))
  | _ => none
def negM (ma : M S D) : M S D := bnd ma fun x => lift (negD x)
def ifM {α : Type} (n : M S Bool) (ma mb : M S α) : M S α := bnd n fun t => if t = true then ma else mb
def consM (m : M S D) (mr : M S (List D)) : M S (List D) := bnd m fun x => bnd mr fun xs => ret (x :: xs)
def tupM (mr : M S (List D)) : M S D := bnd mr fun xs => lift (tupD xs)
def lstM (mr : M S (List D)) : M S D := bnd mr fun xs => lift (lstD xs)
def ixM (ma mb : M S D) : M S D := bnd ma fun x => bnd mb fun y => lift (ixD x y)
def ptM (ma : M S D) : M S (Option Int) := bnd (bnd ma asI) fun i => ret (some i)
def slM (ma : M S D) (ml mh : M S (Option Int)) : M S D := bnd ma fun x => bnd ml fun i => bnd mh fun j => lift (slD x i j)
def bcM (g : List D → Option D) (mr : M S (List D)) : M S D := bnd mr fun xs => lift (g xs)
def isiM (T : String) (ma : M S D) : M S D := bnd ma fun x => lift (isiD T x)
def itM (ma : M S D) : M S (List D) := bnd ma iterM
def rng1M (ma : M S D) : M S (List D) := bnd ma fun x => rngM [x]
def rng2M (ma mb : M S D) : M S (List D) := bnd ma fun x => bnd mb fun y => rngM [x, y]
def compM (mi : M S (List D)) (f : D → M S (Option D)) : M S D := bnd mi fun xs => if xs.length ≤ sizeLine then bnd (compL f xs) fun ys => ret (.lst ys) else stuck
def retF (m : M S D) : M S (Fl τ l) := bnd m fun d => ret (.rt d)
def iteF (n : M S Bool) (mA mB : M S (Fl τ' l)) (k : τ' → M S (Fl τ l)) : M S (Fl τ l) := bnd n fun t => bnd (if t = true then mA else mB) fun f => seqF f k
def forM' (mi : M S (List D)) (f : τ → D → M S (Fl τ τ)) (s0 : τ) (k : τ → M S (Fl τ' l')) : M S (Fl τ' l') := bnd mi fun xs => forL f k xs s0
def ownM (m : M S D) (k : D → M S (Fl τ l)) : M S (Fl τ l) := bnd m fun d => if isMut d = true then k d else stuck
def parM (mdu mdv : Md) (mu mv : M S D) (k : D → D → M S (Fl τ l)) : M S (Fl τ l) := bnd mu fun d => bnd mv fun e => if okMd mdu d = true ∧ okMd mdv e = true then k d e else stuck
def appM (d : D) (me : M S D) (k : D → M S (Fl τ l)) : M S (Fl τ l) := bnd me fun y => bnd (lift (appD d y)) k
def extM (d : D) (me : M S D) (k : D → M S (Fl τ l)) : M S (Fl τ l) := bnd me fun y => bnd (lift (extD d y)) k
def setM (d : D) (me mk : M S D) (k : D → M S (Fl τ l)) : M S (Fl τ l) := bnd me fun y => bnd mk fun j => bnd (lift (setD d j y)) k
end
/-- more turns than any while of ours makes -/
def fuel : Nat := 1000000000
section
variable {S : Type} [BoxS S] {C : Stat} {Γ : SCx} {e a b : Expr} {es : List Expr} {m ma mb : M S D} {md : Md} {pos p : Pos}
theorem Ok.neg' (h : Ok .V C Γ a ma) : Ok .E C Γ (.UnaryOp .USub a pos) (negM ma) := by
  have := Ok.neg (pos := pos) h
  have e : (fun x : D => (lift (match x with | .int i => some (.int (-i)) | _ => none) : M S D)) = fun x => lift (negD x) := by
    funext x
    cases x <;> rfl
  unfold negM
  rw [← e]
  exact this
theorem OkB.stuck {τ l : Type} {T : Tg τ l} {ss : List Stmt} : OkB (S := S) C Γ ss T Sn.stuck := fun X hX W σ Z H st f st' D r hm q => (stuck_some hm).elim
theorem hasF_stuck {G : Glob} {st : Stmt} {f : Addr} {fd : FuncData} {ps : List Str} {k n : Nat} {x qual : Str} (hm : G.mg x = some (.ref f)) (F : Fun G.K x qual st f fd) (hB : Binds G.K fd ps []) (hn : ps.length = n) : HasF (S := S) G k x n fun _ => Sn.stuck := by
  refine ⟨f, fd, ps, hm, F.kp, hB, ⟨fun vs H Q E h => by rw [hn]; exact h.1, fun A outer s H args us vs Q E hr he hb hv hs => ?_⟩⟩
  obtain ⟨_, W, Z, ds, st, d, st', _, _, _, _, hm, _⟩ := hs
  exact (stuck_some (S := S) (α := D) (s := st) hm).elim
end
end Sn

namespace Sn
open PySem PySem.Spec PyProof.Rows L2
noncomputable instance decEqD : DecidableEq D := fun _ _ => Classical.propDecidable _
/-! ### plain reasoning on mirrors -/
section
variable {S : Type} {α β : Type} {τ l τ' l' : Type}
@[simp] theorem r_bnd (a : α) (k : α → M S β) : bnd (ret a) k = k a := (rfl)
@[simp] theorem r_bndS (k : α → M S β) : bnd (stuck : M S α) k = stuck := (rfl)
@[simp] theorem r_lift (d : D) : (lift (some d) : M S D) = ret d := (rfl)
@[simp] theorem r_liftN : (lift none : M S D) = stuck := (rfl)
@[simp] theorem r_op2 (g : D → D → Option D) (a b : D) : op2M g (ret a : M S D) (ret b) = lift (g a b) := (rfl)
@[simp] theorem r_cmpT (g : D → D → Option D) (a b : D) : cmpT g (ret a : M S D) (ret b) = bnd (lift (g a b)) asB := (rfl)
@[simp] theorem r_asB (b : Bool) : (asB (.bl b) : M S Bool) = ret b := (rfl)
@[simp] theorem r_asI (b : Int) : (asI (.int b) : M S Int) = ret b := (rfl)
@[simp] theorem r_valT (d : D) : valT (ret d : M S D) = truM d := (rfl)
@[simp] theorem r_tru_bl (b : Bool) : (truM (.bl b) : M S Bool) = ret b := (rfl)
@[simp] theorem r_tru_int (i : Int) : (truM (.int i) : M S Bool) = ret (i != 0) := (rfl)
@[simp] theorem r_tru_lst (xs : List D) : (truM (.lst xs) : M S Bool) = ret (!xs.isEmpty) := (rfl)
@[simp] theorem r_tru_tup (xs : List D) : (truM (.tup xs) : M S Bool) = ret (!xs.isEmpty) := (rfl)
@[simp] theorem r_tru_non : (truM .non : M S Bool) = ret false := (rfl)
@[simp] theorem r_notT (b : Bool) : notT (ret b : M S Bool) = ret (!b) := (rfl)
@[simp] theorem r_andTt (k : M S Bool) : andT (ret true) k = k := (rfl)
@[simp] theorem r_andTf (k : M S Bool) : andT (ret false) k = ret false := (rfl)
@[simp] theorem r_andT (b c : Bool) : andT (ret b : M S Bool) (ret c) = ret (b && c) := by cases b <;> rfl
@[simp] theorem r_orTt (k : M S Bool) : orT (ret true) k = ret true := (rfl)
@[simp] theorem r_orTf (k : M S Bool) : orT (ret false) k = k := (rfl)
@[simp] theorem r_orT (b c : Bool) : orT (ret b : M S Bool) (ret c) = ret (b || c) := by cases b <;> rfl
@[simp] theorem r_andMt (k : M S D) : andM (ret (.bl true)) k = k := (rfl)
@[simp] theorem r_andMf (k : M S D) : andM (ret (.bl false)) k = ret (.bl false) := (rfl)
@[simp] theorem r_andM (b c : Bool) : andM (ret (.bl b) : M S D) (ret (.bl c)) = ret (.bl (b && c)) := by cases b <;> rfl
@[simp] theorem r_orMt (k : M S D) : orM (ret (.bl true)) k = ret (.bl true) := (rfl)
@[simp] theorem r_orMf (k : M S D) : orM (ret (.bl false)) k = k := (rfl)
@[simp] theorem r_orM (b c : Bool) : orM (ret (.bl b) : M S D) (ret (.bl c)) = ret (.bl (b || c)) := by cases b <;> rfl
@[simp] theorem r_notM (d : D) : notM (ret d : M S D) = bnd (truM d) fun t => ret (.bl (!t)) := (rfl)
@[simp] theorem r_negM (d : D) : negM (ret d : M S D) = lift (negD d) := (rfl)
@[simp] theorem r_negD (i : Int) : negD (.int i) = some (.int (-i)) := (rfl)
@[simp] theorem r_ifM (b : Bool) (x y : M S α) : ifM (ret b) x y = if b = true then x else y := (rfl)
@[simp] theorem r_consM (x : D) (xs : List D) : consM (ret x : M S D) (ret xs) = ret (x :: xs) := (rfl)
@[simp] theorem r_tupM (xs : List D) : tupM (ret xs : M S (List D)) = lift (tupD xs) := (rfl)
@[simp] theorem r_lstM (xs : List D) : lstM (ret xs : M S (List D)) = lift (lstD xs) := (rfl)
theorem tupD_le {xs : List D} (h : xs.length ≤ 16777216) : tupD xs = some (.tup xs) := by unfold tupD; rw [if_pos (by rw [sizeLine_eq]; exact h)]
theorem lstD_le {xs : List D} (h : xs.length ≤ 16777216) : lstD xs = some (.lst xs) := by unfold lstD; rw [if_pos (by rw [sizeLine_eq]; exact h)]
@[simp] theorem r_tup0 : tupD [] = some (.tup []) := tupD_le (by decide)
@[simp] theorem r_tup1 (a : D) : tupD [a] = some (.tup [a]) := tupD_le (by simp)
@[simp] theorem r_tup2 (a b : D) : tupD [a, b] = some (.tup [a, b]) := tupD_le (by simp)
@[simp] theorem r_tup3 (a b c : D) : tupD [a, b, c] = some (.tup [a, b, c]) := tupD_le (by simp)
@[simp] theorem r_tup4 (a b c d : D) : tupD [a, b, c, d] = some (.tup [a, b, c, d]) := tupD_le (by simp)
@[simp] theorem r_tup5 (a b c d e : D) : tupD [a, b, c, d, e] = some (.tup [a, b, c, d, e]) := tupD_le (by simp)
@[simp] theorem r_lst0 : lstD [] = some (.lst []) := lstD_le (by decide)
@[simp] theorem r_lst1 (a : D) : lstD [a] = some (.lst [a]) := lstD_le (by simp)
@[simp] theorem r_lst2 (a b : D) : lstD [a, b] = some (.lst [a, b]) := lstD_le (by simp)
@[simp] theorem r_lst3 (a b c : D) : lstD [a, b, c] = some (.lst [a, b, c]) := lstD_le (by simp)
@[simp] theorem r_bcM (g : List D → Option D) (xs : List D) : bcM g (ret xs : M S (List D)) = lift (g xs) := (rfl)
@[simp] theorem r_lenT (xs : List D) : lenD [.tup xs] = some (.int xs.length) := (rfl)
@[simp] theorem r_lenL (xs : List D) : lenD [.lst xs] = some (.int xs.length) := (rfl)
@[simp] theorem r_tupT (xs : List D) : tupleD [.tup xs] = some (.tup xs) := (rfl)
@[simp] theorem r_tupL (xs : List D) : tupleD [.lst xs] = some (.tup xs) := (rfl)
@[simp] theorem r_lstT (xs : List D) : listD [.tup xs] = some (.lst xs) := (rfl)
@[simp] theorem r_lstL (xs : List D) : listD [.lst xs] = some (.lst xs) := (rfl)
@[simp] theorem r_int (i : Int) : intD [.int i] = some (.int i) := (rfl)
@[simp] theorem r_ixM (a b : D) : ixM (ret a : M S D) (ret b) = lift (ixD a b) := (rfl)
@[simp] theorem r_ixT (xs : List D) (i : Int) : ixD (.tup xs) (.int i) = atI xs i := (rfl)
@[simp] theorem r_ixL (xs : List D) (i : Int) : ixD (.lst xs) (.int i) = atI xs i := (rfl)
@[simp] theorem r_ptM (i : Int) : ptM (ret (.int i) : M S D) = ret (some i) := (rfl)
@[simp] theorem r_slM (a : D) (i j : Option Int) : slM (ret a : M S D) (ret i) (ret j) = lift (slD a i j) := (rfl)
@[simp] theorem r_slT (xs : List D) (i j : Option Int) : slD (.tup xs) i j = some (.tup (cutL xs i j)) := (rfl)
@[simp] theorem r_slL (xs : List D) (i j : Option Int) : slD (.lst xs) i j = some (.lst (cutL xs i j)) := (rfl)
@[simp] theorem r_itT (xs : List D) : itM (ret (.tup xs) : M S D) = ret xs := (rfl)
@[simp] theorem r_itL (xs : List D) : itM (ret (.lst xs) : M S D) = ret xs := (rfl)
@[simp] theorem r_isi (T : String) (d : D) : isiM T (ret d : M S D) = lift (isiD T d) := (rfl)
@[simp] theorem r_add (i j : Int) : addD (.int i) (.int j) = some (.int (i + j)) := (rfl)
@[simp] theorem r_sub (i j : Int) : subD (.int i) (.int j) = some (.int (i - j)) := (rfl)
@[simp] theorem r_lt (i j : Int) : ltD (.int i) (.int j) = some (.bl (decide (i < j))) := (rfl)
@[simp] theorem r_le (i j : Int) : leD (.int i) (.int j) = some (.bl (decide (i ≤ j))) := (rfl)
@[simp] theorem r_gt (i j : Int) : gtD (.int i) (.int j) = some (.bl (decide (j < i))) := (rfl)
@[simp] theorem r_ge (i j : Int) : geD (.int i) (.int j) = some (.bl (decide (j ≤ i))) := (rfl)
@[simp] theorem r_isN (d : D) : isD d .non = some (.bl (isNonD d)) := by cases d <;> rfl
@[simp] theorem r_isntN (d : D) : isntD d .non = some (.bl (!isNonD d)) := by cases d <;> rfl
@[simp] theorem r_isB (a b : Bool) : isD (.bl a) (.bl b) = some (.bl (decide (a = b))) := (rfl)
@[simp] theorem r_isntB (a b : Bool) : isntD (.bl a) (.bl b) = some (.bl (!decide (a = b))) := (rfl)
@[simp] theorem nonNon : isNonD .non = true := rfl
@[simp] theorem nonI (i : Int) : isNonD (.int i) = false := rfl
@[simp] theorem nonT (i : List D) : isNonD (.tup i) = false := rfl
@[simp] theorem nonL (i : List D) : isNonD (.lst i) = false := rfl
@[simp] theorem nonB (i : Bool) : isNonD (.bl i) = false := rfl
@[simp] theorem nonS (i : Str) : isNonD (.str i) = false := rfl
theorem mul_ok {i j : Int} (h : (-(2 ^ 64) < i ∧ i < 2 ^ 64) ∨ (-(2 ^ 64) < j ∧ j < 2 ^ 64)) : mulD (.int i) (.int j) = some (.int (i * j)) := by
  show (if mulOk i j then some (D.int (i * j)) else none) = _
  rw [if_pos (show mulOk i j from h)]
theorem div_ok {i j : Int} (h : 0 < j) (h2 : j < 1073741824) : divD (.int i) (.int j) = some (.int (i / j)) := by
  show (if 0 < j ∧ j < 1073741824 then some (D.int (i / j)) else none) = _
  rw [if_pos ⟨h, h2⟩]
theorem mod_ok {i j : Int} (h : 0 < j) : modD (.int i) (.int j) = some (.int (i % j)) := by
  show (if 0 < j then some (D.int (i % j)) else none) = _
  rw [if_pos h]
@[simp] theorem r_retF (d : D) : (retF (ret d) : M S (Fl τ l)) = ret (.rt d) := (rfl)
@[simp] theorem r_endR (d : D) : (endF (.rt d : Fl Unit l) : M S D) = ret d := (rfl)
@[simp] theorem r_endN (u : Unit) : (endF (.nx u : Fl Unit l) : M S D) = ret .non := (rfl)
@[simp] theorem r_iteF (b : Bool) (mA mB : M S (Fl τ' l)) (k : τ' → M S (Fl τ l)) : iteF (ret b) mA mB k = if b = true then bnd mA (fun f => seqF f k) else bnd mB (fun f => seqF f k) := by cases b <;> rfl
@[simp] theorem r_seqN (s : τ') (k : τ' → M S (Fl τ l)) : seqF (.nx s) k = k s := (rfl)
@[simp] theorem r_seqR (d : D) (k : τ' → M S (Fl τ l)) : seqF (.rt d) k = ret (.rt d) := (rfl)
@[simp] theorem r_seqB (s : l) (k : τ' → M S (Fl τ l)) : seqF (.bk s) k = ret (.bk s) := (rfl)
@[simp] theorem r_seqC (s : l) (k : τ' → M S (Fl τ l)) : seqF (.ct s) k = ret (.ct s) := (rfl)
@[simp] theorem r_forM (xs : List D) (f : τ → D → M S (Fl τ τ)) (s0 : τ) (k : τ → M S (Fl τ' l')) : forM' (ret xs) f s0 k = forL f k xs s0 := (rfl)
@[simp] theorem r_forN (f : τ → D → M S (Fl τ τ)) (s0 : τ) (k : τ → M S (Fl τ' l')) : forL f k [] s0 = k s0 := (rfl)
theorem forL_cons (f : τ → D → M S (Fl τ τ)) (s0 : τ) (k : τ → M S (Fl τ' l')) (x : D) (xs : List D) : forL f k (x :: xs) s0 = bnd (f s0 x) fun fl => match fl with
    | .nx s' => forL f k xs s'
    | .ct s' => forL f k xs s'
    | .bk s' => k s'
    | .rt d => ret (.rt d) := rfl
@[simp] theorem r_own (xs : List D) (k : D → M S (Fl τ l)) : ownM (ret (.lst xs)) k = k (.lst xs) := (rfl)
@[simp] theorem r_ownd (xs : List (D × D)) (k : D → M S (Fl τ l)) : ownM (ret (.dct xs)) k = k (.dct xs) := (rfl)
@[simp] theorem r_par (a b : D) (k : D → D → M S (Fl τ l)) : parM .E .E (ret a) (ret b) k = k a b := (rfl)
@[simp] theorem r_parN (a : D) (b : List D) (k : D → D → M S (Fl τ l)) : parM .E .N (ret a) (ret (.lst b)) k = k a (.lst b) := (rfl)
@[simp] theorem r_parNN (a b : List D) (k : D → D → M S (Fl τ l)) : parM .N .N (ret (.lst a)) (ret (.lst b)) k = k (.lst a) (.lst b) := (rfl)
theorem app_ok {xs : List D} {y : D} {k : D → M S (Fl τ l)} (h : xs.length < 16777216) : appM (.lst xs) (ret y) k = k (.lst (xs ++ [y])) := by
  show bnd (lift (if xs.length < sizeLine then some (D.lst (xs ++ [y])) else none)) k = _
  rw [if_pos (by rw [sizeLine_eq]; exact h)]; rfl
theorem ext_ok {xs ys : List D} {k : D → M S (Fl τ l)} (h : xs.length + ys.length ≤ 16777216) : extM (.lst xs) (ret (.lst ys)) k = k (.lst (xs ++ ys)) := by
  show bnd (lift (if xs.length + ys.length ≤ sizeLine then some (D.lst (xs ++ ys)) else none)) k = _
  rw [if_pos (by rw [sizeLine_eq]; exact h)]; rfl
theorem addT_ok {xs ys : List D} (h : xs.length + ys.length ≤ 16777216) : addD (.tup xs) (.tup ys) = some (.tup (xs ++ ys)) := by
  show (if xs.length + ys.length ≤ sizeLine then some (D.tup (xs ++ ys)) else none) = _
  rw [if_pos (by rw [sizeLine_eq]; exact h)]
theorem addL_ok {xs ys : List D} (h : xs.length + ys.length ≤ 16777216) : addD (.lst xs) (.lst ys) = some (.lst (xs ++ ys)) := by
  show (if xs.length + ys.length ≤ sizeLine then some (D.lst (xs ++ ys)) else none) = _
  rw [if_pos (by rw [sizeLine_eq]; exact h)]
theorem rng1_ok {j : Int} (h : -(2 ^ 62) ≤ j) (h2 : j < 2 ^ 62) : rng1M (ret (.int j) : M S D) = ret (rng 0 j) := by
  show (if -(2 ^ 62) ≤ j ∧ j < 2 ^ 62 then ret (rng 0 j) else stuck : M S (List D)) = _
  rw [if_pos ⟨h, h2⟩]
theorem rng2_ok {i j : Int} (h : -(2 ^ 62) ≤ i) (h2 : i < 2 ^ 62) (h3 : -(2 ^ 62) ≤ j) (h4 : j < 2 ^ 62) : rng2M (ret (.int i) : M S D) (ret (.int j)) = ret (rng i j) := by
  show (if -(2 ^ 62) ≤ i ∧ i < 2 ^ 62 ∧ -(2 ^ 62) ≤ j ∧ j < 2 ^ 62 then ret (rng i j) else stuck : M S (List D)) = _
  rw [if_pos ⟨h, h2, h3, h4⟩]
theorem comp_ok {xs : List D} {f : D → M S (Option D)} (h : xs.length ≤ 16777216) : compM (ret xs) f = bnd (compL f xs) fun ys => ret (.lst ys) := by
  show (if xs.length ≤ sizeLine then _ else _) = _
  rw [if_pos (by rw [sizeLine_eq]; exact h)]
@[simp] theorem r_elt (b : Bool) (y : D) : eltM (ret b : M S Bool) (ret y) = ret (if b = true then some y else none) := by cases b <;> rfl
@[simp] theorem r_eltT (m : M S D) : eltM (ret true) m = bnd m fun y => ret (some y) := (rfl)
@[simp] theorem r_eltF (m : M S D) : eltM (ret false) m = ret none := (rfl)
@[simp] theorem r_compN {f : α → M S (Option β)} : compL f [] = ret [] := (rfl)
theorem compL_cons {f : α → M S (Option β)} (x : α) (xs : List α) : compL f (x :: xs) = bnd (f x) fun o => bnd (compL f xs) fun ys => ret (match o with | some y => y :: ys | none => ys) := rfl
theorem compL_map {γ : Type} {f : α → M S (Option β)} (g : γ → α) : ∀ xs : List γ, compL f (xs.map g) = compL (fun c => f (g c)) xs
  | [] => rfl
  | x :: xs => by rw [List.map_cons, compL_cons, compL_cons, compL_map g xs]
theorem compL_pure {f : α → M S (Option β)} (g : α → Option β) : ∀ {xs : List α}, (∀ x ∈ xs, f x = ret (g x)) → compL f xs = ret (xs.filterMap g)
  | [], _ => rfl
  | x :: xs, h => by
    rw [compL_cons, h x List.mem_cons_self, compL_pure g fun y hy => h y (List.mem_cons_of_mem _ hy), List.filterMap_cons]
    simp only [r_bnd]
    cases g x <;> rfl
/-- every item goes, each as g says -/
theorem compL_all {f : α → M S (Option β)} (g : α → β) {xs : List α} (h : ∀ x ∈ xs, f x = ret (some (g x))) : compL f xs = ret (xs.map g) := by
  rw [compL_pure (fun x => some (g x)) h]
  congr 1
  induction xs with
  | nil => rfl
  | cons x xs ih => rw [List.filterMap_cons, List.map_cons]; simp only; rw [ih fun y hy => h y (List.mem_cons_of_mem _ hy)]
/-- .. those of which c holds -/
theorem compL_if {f : α → M S (Option β)} (c : α → Bool) (g : α → β) {xs : List α} (h : ∀ x ∈ xs, f x = ret (if c x = true then some (g x) else none)) : compL f xs = ret ((xs.filter c).map g) := by
  rw [compL_pure (fun x => if c x = true then some (g x) else none) h]
  congr 1
  induction xs with
  | nil => rfl
  | cons x xs ih =>
    rw [List.filterMap_cons, List.filter_cons]
    have ih' := ih fun y hy => h y (List.mem_cons_of_mem _ hy)
    cases hc : c x
    · simp [ih']
    · simp [ih']
/-- a loop that always goes on -/
theorem forL_fold {f : τ → D → M S (Fl τ τ)} {k : τ → M S (Fl τ' l')} (g : τ → D → τ) : ∀ {xs : List D} {s0 : τ}, (∀ pre x post, xs = pre ++ x :: post → f (pre.foldl g s0) x = ret (.nx (g (pre.foldl g s0) x))) → forL f k xs s0 = k (xs.foldl g s0)
  | [], _, _ => rfl
  | x :: xs, s0, h => by
    have h0 : f s0 x = ret (.nx (g s0 x)) := h [] x xs rfl
    rw [forL_cons, h0, List.foldl_cons]
    exact forL_fold g fun pre y post e => h (x :: pre) y post (by rw [e]; rfl)
/-- a loop without a state that always goes on -/
theorem forL_unit {f : Unit → D → M S (Fl Unit Unit)} {k : Unit → M S (Fl τ' l')} {xs : List D} (h : ∀ x ∈ xs, f () x = ret (.nx ())) : forL f k xs () = k () := by
  rw [forL_fold (fun _ _ => ()) fun pre x post e => h x (by rw [e]; simp)]
/-- a search -/
theorem forL_find {f : Unit → D → M S (Fl Unit Unit)} {k : Unit → M S (Fl τ' l')} (p : D → Bool) (r : D → D) : ∀ {xs : List D}, (∀ x ∈ xs, f () x = if p x = true then ret (.rt (r x)) else ret (.nx ())) → forL f k xs () = match xs.find? p with | some x => ret (.rt (r x)) | none => k ()
  | [], _ => rfl
  | x :: xs, h => by
    rw [forL_cons, h x List.mem_cons_self, List.find?_cons]
    cases hp : p x
    · simp only [Bool.false_eq_true, if_false, r_bnd]
      exact forL_find p r fun y hy => h y (List.mem_cons_of_mem _ hy)
    · simp
/-! ### whatever the box gives -/
def Wp (m : M S α) (P : α → Prop) : Prop := ∀ s, ∃ a s', m s = some (a, s') ∧ P a
theorem Wp.ret {a : α} {P : α → Prop} (h : P a) : Wp (ret a : M S α) P := fun s => ⟨a, s, rfl, h⟩
theorem Wp.bnd {m : M S α} {k : α → M S β} {P : β → Prop} (h : Wp m fun a => Wp (k a) P) : Wp (bnd m k) P := fun s => by
  obtain ⟨a, s1, e1, h1⟩ := h s
  obtain ⟨b, s2, e2, h2⟩ := h1 s1
  exact ⟨b, s2, by unfold Sn.bnd; rw [e1]; exact e2, h2⟩
theorem Wp.mono {m : M S α} {P Q : α → Prop} (h : Wp m P) (q : ∀ a, P a → Q a) : Wp m Q := fun s => by
  obtain ⟨a, s1, e1, h1⟩ := h s
  exact ⟨a, s1, e1, q a h1⟩
theorem Wp.eq {m n : M S α} {P : α → Prop} (e : m = n) (h : Wp n P) : Wp m P := e ▸ h
/-- all items of a comprehension without a test -/
theorem Wp.comp {f : α → M S (Option β)} {R : α → β → Prop} : ∀ {xs : List α} {P : List β → Prop}, (∀ x ∈ xs, Wp (f x) fun o => ∃ y, o = some y ∧ R x y) → (∀ ys, ys.length = xs.length → (∀ (i : Nat) x y, xs[i]? = some x → ys[i]? = some y → R x y) → P ys) → Wp (compL f xs) P
  | [], P, _, q => Wp.ret (q [] rfl fun i x y h => by simp at h)
  | x :: xs, P, h, q => by
    rw [compL_cons]
    refine Wp.bnd (Wp.mono (h x List.mem_cons_self) fun o ⟨y, e, r⟩ => ?_)
    subst e
    refine Wp.bnd (Wp.comp (fun z hz => h z (List.mem_cons_of_mem _ hz)) fun ys hl hr => Wp.ret (q _ (by simp [hl]) fun i z w h1 h2 => ?_))
    cases i with
    | zero => simp at h1 h2; subst h1 h2; exact r
    | succ i => exact hr i z w (by simpa using h1) (by simpa using h2)
theorem Wp.forU {f : Unit → D → M S (Fl Unit Unit)} {k : Unit → M S (Fl τ' l')} {P : Fl τ' l' → Prop} : ∀ {xs : List D}, (∀ x ∈ xs, Wp (f () x) fun fl => fl = .nx ()) → Wp (k ()) P → Wp (forL f k xs ()) P
  | [], _, hk => hk
  | x :: xs, h, hk => by
    rw [forL_cons]
    refine Wp.bnd (Wp.mono (h x List.mem_cons_self) fun fl e => ?_)
    subst e
    exact Wp.forU (fun y hy => h y (List.mem_cons_of_mem _ hy)) hk
/-- a loop with an invariant by what was taken -/
theorem Wp.forI {f : τ → D → M S (Fl τ τ)} {k : τ → M S (Fl τ' l')} {P : Fl τ' l' → Prop} (I : List D → τ → Prop) {xs : List D} {s0 : τ} (h0 : I [] s0) (h : ∀ pre x post s, xs = pre ++ x :: post → I pre s → Wp (f s x) fun fl => ∃ s', fl = .nx s' ∧ I (pre ++ [x]) s') (hk : ∀ s, I xs s → Wp (k s) P) : Wp (forL f k xs s0) P := by
  suffices g : ∀ (post pre : List D) (s : τ), xs = pre ++ post → I pre s → Wp (forL f k post s) P from g xs [] s0 rfl h0
  intro post
  induction post with
  | nil => intro pre s e hi; rw [List.append_nil] at e; subst e; exact hk s hi
  | cons x post ih =>
    intro pre s e hi
    rw [forL_cons]
    refine Wp.bnd (Wp.mono (h pre x post s e hi) fun fl ⟨s', e', hi'⟩ => ?_)
    subst e'
    exact ih (pre ++ [x]) s' (by rw [e, List.append_assoc]; rfl) hi'
end
theorem Wp.draw {k : Int} {P : D → Prop} (h : 0 < k) (h2 : k < 1073741824) (q : ∀ d : Int, 0 ≤ d → d < k → P (.int d)) : Wp (drawM k) P := fun b => by
  refine ⟨.int (drawB b k h).1, (drawB b k h).2, ?_, ?_⟩
  · unfold drawM
    rw [dif_pos ⟨h, h2⟩]
  · unfold drawB
    split
    · exact q _ (Int.emod_nonneg _ (by omega)) (Int.emod_lt_of_pos _ h)
    · exact q _ (Int.emod_nonneg _ (by omega)) (Int.emod_lt_of_pos _ h)
@[simp] theorem r_draw (k : Int) : m_draw [.box, .int k] = drawM k := (rfl)
/-! ### ranges, places -/
theorem rng_len (lo hi : Int) : (rng lo hi).length = (hi - lo).toNat := by unfold rng; simp
theorem mem_rng {lo hi : Int} {d : D} : d ∈ rng lo hi ↔ ∃ i : Int, d = .int i ∧ lo ≤ i ∧ i < hi := by
  unfold rng
  rw [List.mem_map]
  constructor
  · rintro ⟨k, hk, rfl⟩
    rw [List.mem_range] at hk
    exact ⟨lo + k, rfl, by omega, by omega⟩
  · rintro ⟨i, rfl, h1, h2⟩
    exact ⟨(i - lo).toNat, by rw [List.mem_range]; omega, by congr 1; omega⟩
theorem ixN_nat {n : Nat} {i : Int} (h : 0 ≤ i) (h2 : i < n) : ixN n i = some i.toNat := by unfold ixN; rw [if_pos h, if_pos h2]
theorem atI_ok {α : Type} {xs : List α} {i : Int} (h : 0 ≤ i) (h2 : i < xs.length) : atI xs i = some (xs[i.toNat]'(by omega)) := by
  unfold atI
  rw [ixN_nat h h2]
  exact List.getElem?_eq_getElem (by omega)
theorem atI_map {α β : Type} (f : α → β) (xs : List α) (i : Int) : atI (xs.map f) i = (atI xs i).map f := by
  unfold atI
  rw [List.length_map]
  cases ixN xs.length i with
  | none => rfl
  | some j => simp
theorem cutL_map {α β : Type} (f : α → β) (xs : List α) (i j : Option Int) : cutL (xs.map f) i j = (cutL xs i j).map f := by
  unfold cutL
  rw [List.length_map, List.map_take, List.map_drop]
theorem cutL_to {α : Type} {xs : List α} {k : Int} (h : 0 ≤ k) : cutL xs none (some k) = xs.take k.toNat := by
  unfold cutL
  rw [HT.sIx_none]
  obtain ⟨n, rfl⟩ := Int.eq_ofNat_of_zero_le h
  rw [HT.sIx_nat]
  simp only [List.drop_zero, Nat.sub_zero, Int.toNat_natCast]
  by_cases hn : n ≤ xs.length
  · rw [Nat.min_eq_left hn]
  · rw [Nat.min_eq_right (by omega), List.take_of_length_le (by omega), List.take_of_length_le (by omega)]
theorem cutL_from {α : Type} {xs : List α} {k : Int} (h : 0 ≤ k) : cutL xs (some k) none = xs.drop k.toNat := by
  unfold cutL
  obtain ⟨n, rfl⟩ := Int.eq_ofNat_of_zero_le h
  rw [HT.sIx_nat, HT.sIx_none]
  simp only [Int.toNat_natCast]
  by_cases hn : n ≤ xs.length
  · rw [Nat.min_eq_left hn, List.take_of_length_le (by simp)]
  · rw [Nat.min_eq_right (by omega)]
    simp
    omega
/-! ### plain data: what may be compared -/
inductive Pl : Nat → D → Prop
  | non {n : Nat} : Pl n .non
  | int {n : Nat} (i : Int) : Pl n (.int i)
  | str {n : Nat} {x : Str} (h : PyData.strOk x = true) : Pl n (.str x)
  | tup {n : Nat} {xs : List D} (h : ∀ x ∈ xs, Pl n x) : Pl (n + 1) (.tup xs)
  | lst {n : Nat} {xs : List D} (h : ∀ x ∈ xs, Pl n x) : Pl (n + 1) (.lst xs)
theorem Pl.mono {n m : Nat} {d : D} (h : Pl n d) (hm : n ≤ m) : Pl m d := by
  induction h generalizing m with
  | non => exact .non
  | int i => exact .int i
  | str h => exact .str h
  | tup h ih => cases m with | zero => omega | succ m => exact .tup fun x hx => ih x hx (by omega)
  | lst h ih => cases m with | zero => omega | succ m => exact .lst fun x hx => ih x hx (by omega)
theorem toPys_lay {xs : List D} (h : ∀ x ∈ xs, (toPy x).canLay0 = true) : PyData.canLayAll0 (toPys xs) = true := by
  induction xs with
  | nil => rfl
  | cons x xs ih =>
    simp only [toPys, PyData.canLayAll0, Bool.and_eq_true]
    exact ⟨h x List.mem_cons_self, ih fun y hy => h y (List.mem_cons_of_mem _ hy)⟩
theorem toPys_depth {xs : List D} {n : Nat} (h : ∀ x ∈ xs, (toPy x).depth ≤ n) : PyData.depthAll (toPys xs) ≤ n := by
  induction xs with
  | nil => simp [toPys, PyData.depthAll]
  | cons x xs ih =>
    simp only [toPys, PyData.depthAll]
    have h1 := h x List.mem_cons_self
    have h2 := ih fun y hy => h y (List.mem_cons_of_mem _ hy)
    omega
theorem Pl.lay {n : Nat} {d : D} (h : Pl n d) : (toPy d).canLay0 = true ∧ (toPy d).depth ≤ n := by
  induction h with
  | non => exact ⟨rfl, Nat.zero_le _⟩
  | int i => exact ⟨rfl, Nat.zero_le _⟩
  | str h => exact ⟨by simpa [toPy, PyData.canLay0] using h, Nat.zero_le _⟩
  | tup h ih =>
    refine ⟨by simpa [toPy, PyData.canLay0] using toPys_lay fun x hx => (ih x hx).1, ?_⟩
    simp only [toPy, PyData.depth]
    exact Nat.succ_le_succ (toPys_depth fun x hx => (ih x hx).2)
  | lst h ih =>
    refine ⟨by simpa [toPy, PyData.canLay0] using toPys_lay fun x hx => (ih x hx).1, ?_⟩
    simp only [toPy, PyData.depth]
    exact Nat.succ_le_succ (toPys_depth fun x hx => (ih x hx).2)
theorem Pl.sh {n : Nat} {d : D} (h : Pl n d) (hn : n ≤ 64) : shD d = true := by
  unfold shD SeqAt.shaped
  rw [Bool.and_eq_true]
  exact ⟨h.lay.1, decide_eq_true (Nat.le_trans h.lay.2 hn)⟩
mutual
theorem eqB_of : ∀ {n m : Nat} {x y : D}, Pl n x → Pl m y → (PyData.eqv (toPy x) (toPy y) = true ↔ x = y)
  | _, _, _, _, .non, .non => by simp [toPy, PyData.eqv]
  | _, _, _, _, .non, .int i => by simp [toPy, PyData.eqv]
  | _, _, _, _, .non, .str h => by simp [toPy, PyData.eqv]
  | _, _, _, _, .non, .tup h => by simp [toPy, PyData.eqv]
  | _, _, _, _, .non, .lst h => by simp [toPy, PyData.eqv]
  | _, _, _, _, .int i, .non => by simp [toPy, PyData.eqv]
  | _, _, _, _, .int i, .int j => by simp [toPy, PyData.eqv]
  | _, _, _, _, .int i, .str h => by simp [toPy, PyData.eqv]
  | _, _, _, _, .int i, .tup h => by simp [toPy, PyData.eqv]
  | _, _, _, _, .int i, .lst h => by simp [toPy, PyData.eqv]
  | _, _, _, _, .str g, .non => by simp [toPy, PyData.eqv]
  | _, _, _, _, .str g, .int i => by simp [toPy, PyData.eqv]
  | _, _, _, _, .str g, .str h => by simp [toPy, PyData.eqv]
  | _, _, _, _, .str g, .tup h => by simp [toPy, PyData.eqv]
  | _, _, _, _, .str g, .lst h => by simp [toPy, PyData.eqv]
  | _, _, _, _, .tup g, .non => by simp [toPy, PyData.eqv]
  | _, _, _, _, .tup g, .int i => by simp [toPy, PyData.eqv]
  | _, _, _, _, .tup g, .str h => by simp [toPy, PyData.eqv]
  | _, _, _, _, .tup g, .tup h => by simp only [toPy, PyData.eqv, D.tup.injEq]; exact eqL_of g h
  | _, _, _, _, .tup g, .lst h => by simp [toPy, PyData.eqv]
  | _, _, _, _, .lst g, .non => by simp [toPy, PyData.eqv]
  | _, _, _, _, .lst g, .int i => by simp [toPy, PyData.eqv]
  | _, _, _, _, .lst g, .str h => by simp [toPy, PyData.eqv]
  | _, _, _, _, .lst g, .tup h => by simp [toPy, PyData.eqv]
  | _, _, _, _, .lst g, .lst h => by simp only [toPy, PyData.eqv, D.lst.injEq]; exact eqL_of g h
theorem eqL_of : ∀ {n m : Nat} {xs ys : List D}, (∀ x ∈ xs, Pl n x) → (∀ y ∈ ys, Pl m y) → (PyData.eqvAll (toPys xs) (toPys ys) = true ↔ xs = ys)
  | _, _, [], [], _, _ => by simp [toPys, PyData.eqvAll]
  | _, _, [], _ :: _, _, _ => by simp [toPys, PyData.eqvAll]
  | _, _, _ :: _, [], _, _ => by simp [toPys, PyData.eqvAll]
  | _, _, x :: xs, y :: ys, h, g => by
    simp only [toPys, PyData.eqvAll, Bool.and_eq_true, List.cons.injEq]
    rw [eqB_of (h x List.mem_cons_self) (g y List.mem_cons_self), eqL_of (fun z hz => h z (List.mem_cons_of_mem _ hz)) (fun z hz => g z (List.mem_cons_of_mem _ hz))]
end
theorem eqB_iff {n m : Nat} {x y : D} (h : Pl n x) (g : Pl m y) : eqB x y = true ↔ x = y := eqB_of h g
theorem eq_pl {n m : Nat} {x y : D} (h : Pl n x) (g : Pl m y) (hn : n ≤ 64) (hm : m ≤ 64) : eqD x y = some (.bl (decide (x = y))) := by
  unfold eqD
  rw [if_pos ⟨h.sh hn, g.sh hm⟩]
  congr 2
  rw [Bool.eq_iff_iff, eqB_iff h g, decide_eq_true_eq]
theorem ne_pl {n m : Nat} {x y : D} (h : Pl n x) (g : Pl m y) (hn : n ≤ 64) (hm : m ≤ 64) : neD x y = some (.bl (!decide (x = y))) := by
  unfold neD
  rw [if_pos ⟨h.sh hn, g.sh hm⟩]
  congr 3
  rw [Bool.eq_iff_iff, eqB_iff h g, decide_eq_true_eq]
@[simp] theorem r_eq (i j : Int) : eqD (.int i) (.int j) = some (.bl (decide (i = j))) := by
  rw [eq_pl (.int (n := 0) i) (.int (n := 0) j) (by decide) (by decide)]
  congr 2
  rw [Bool.eq_iff_iff, decide_eq_true_eq, decide_eq_true_eq, D.int.injEq]
@[simp] theorem r_ne (i j : Int) : neD (.int i) (.int j) = some (.bl (!decide (i = j))) := by
  rw [ne_pl (.int (n := 0) i) (.int (n := 0) j) (by decide) (by decide)]
  congr 3
  rw [Bool.eq_iff_iff, decide_eq_true_eq, decide_eq_true_eq, D.int.injEq]
@[simp] theorem r_eqb (i j : Bool) : eqD (.bl i) (.bl j) = some (.bl (decide (i = j))) := by
  have h : ∀ b : Bool, shD (.bl b) = true := fun b => by cases b <;> rfl
  unfold eqD
  rw [if_pos ⟨h i, h j⟩]
  cases i <;> cases j <;> rfl
@[simp] theorem r_neb (i j : Bool) : neD (.bl i) (.bl j) = some (.bl (!decide (i = j))) := by
  have h : ∀ b : Bool, shD (.bl b) = true := fun b => by cases b <;> rfl
  unfold neD
  rw [if_pos ⟨h i, h j⟩]
  cases i <;> cases j <;> rfl
theorem inL_pl {n : Nat} {x : D} {ys : List D} (h : Pl n x) (g : ∀ y ∈ ys, Pl n y) (hn : n < 64) : inD x (.lst ys) = some (.bl (decide (x ∈ ys))) := by
  unfold inD
  simp only
  rw [if_pos ⟨h.sh (by omega), (Pl.lst g).sh (by omega)⟩]
  congr 2
  rw [Bool.eq_iff_iff, List.any_eq_true, decide_eq_true_eq]
  constructor
  · rintro ⟨z, hz, e⟩
    rw [eqB_iff (g z hz) h] at e
    exact e ▸ hz
  · intro hx
    exact ⟨x, hx, (eqB_iff (g x hx) h).mpr rfl⟩
theorem ninL_pl {n : Nat} {x : D} {ys : List D} (h : Pl n x) (g : ∀ y ∈ ys, Pl n y) (hn : n < 64) : ninD x (.lst ys) = some (.bl (!decide (x ∈ ys))) := by
  have := inL_pl h g hn
  unfold inD at this
  simp only at this
  unfold ninD
  simp only
  rw [if_pos ⟨h.sh (by omega), (Pl.lst g).sh (by omega)⟩] at this ⊢
  simp only [Option.some.injEq, D.bl.injEq] at this
  rw [this]
/-- lists of ints as data -/
def tI (ns : List Int) : D := .tup (ns.map .int)
def lI (ns : List Int) : D := .lst (ns.map .int)
theorem pl_ints {n : Nat} (ns : List Int) : ∀ x ∈ ns.map D.int, Pl n x := fun x hx => by
  obtain ⟨i, _, rfl⟩ := List.mem_map.mp hx
  exact .int i
theorem pl_tI {n : Nat} (ns : List Int) : Pl (n + 1) (tI ns) := .tup (pl_ints ns)
theorem int_inj : Function.Injective D.int := fun _ _ h => by cases h; rfl
theorem tI_inj {a b : List Int} : tI a = tI b ↔ a = b := by
  unfold tI
  constructor
  · intro h
    injection h with h
    exact List.map_inj_right (f := D.int) (fun _ _ e => by cases e; rfl) |>.mp h
  · intro h; rw [h]
theorem eq_tI (a b : List Int) : eqD (tI a) (tI b) = some (.bl (decide (a = b))) := by
  rw [eq_pl (pl_tI (n := 0) a) (pl_tI (n := 0) b) (by decide) (by decide)]
  congr 2
  rw [Bool.eq_iff_iff, decide_eq_true_eq, decide_eq_true_eq, tI_inj]
theorem asBls_map (bs : List Bool) : asBls (bs.map D.bl) = some bs := by
  induction bs with
  | nil => rfl
  | cons b bs ih => simp [asBls, ih]
theorem asInts_map (bs : List Int) : asInts (bs.map D.int) = some bs := by
  induction bs with
  | nil => rfl
  | cons b bs ih => simp [asInts, ih]
theorem all_bls (bs : List Bool) : allD [.lst (bs.map D.bl)] = some (.bl (bs.all id)) := by simp [allD, asBls_map]
theorem any_bls (bs : List Bool) : anyD [.lst (bs.map D.bl)] = some (.bl (bs.any id)) := by simp [anyD, asBls_map]
theorem sum_ints (bs : List Int) : sumD [.lst (bs.map D.int)] = some (.int bs.sum) := by simp [sumD, asInts_map]
/-- isinstance of each kind -/
theorem kit_tab : kitB "tuple" "tuple" = some true ∧ kitB "tuple" "list" = some false ∧ kitB "tuple" "bool" = some false ∧ kitB "tuple" "int" = some false ∧ kitB "tuple" "str" = some false ∧
    kitB "list" "tuple" = some false ∧ kitB "list" "list" = some true ∧ kitB "list" "bool" = some false ∧ kitB "list" "int" = some false ∧ kitB "list" "str" = some false ∧
    kitB "bool" "tuple" = some false ∧ kitB "bool" "list" = some false ∧ kitB "bool" "bool" = some true ∧ kitB "bool" "int" = some true ∧ kitB "bool" "str" = some false ∧
    kitB "int" "tuple" = some false ∧ kitB "int" "list" = some false ∧ kitB "int" "bool" = some false ∧ kitB "int" "int" = some true ∧ kitB "int" "str" = some false ∧
    kitB "str" "tuple" = some false ∧ kitB "str" "list" = some false ∧ kitB "str" "bool" = some false ∧ kitB "str" "int" = some false ∧ kitB "str" "str" = some true ∧
    kitB "NoneType" "tuple" = some false ∧ kitB "NoneType" "list" = some false ∧ kitB "NoneType" "bool" = some false ∧ kitB "NoneType" "int" = some false ∧ kitB "NoneType" "str" = some false := by decide +kernel
/-- whether a datum is of the type so named, by data -/
def isTy (T : String) : D → Bool
  | .non => false
  | .bl _ => T == "bool" || T == "int"
  | .int _ => T == "int"
  | .str _ => T == "str"
  | .tup _ => T == "tuple"
  | .lst _ => T == "list"
  | .dct _ => T == "dict"
  | .box => false
def noBox : D → Bool
  | .box => false
  | .dct _ => false
  | _ => true
theorem isi_ty {T : String} {d : D} (h : noBox d = true) (hT : T = "tuple" ∨ T = "list" ∨ T = "bool" ∨ T = "int" ∨ T = "str") : isiD T d = some (.bl (isTy T d)) := by
  obtain ⟨a1, a2, a3, a4, a5, b1, b2, b3, b4, b5, c1, c2, c3, c4, c5, d1, d2, d3, d4, d5, e1, e2, e3, e4, e5, f1, f2, f3, f4, f5⟩ := kit_tab
  rcases hT with rfl | rfl | rfl | rfl | rfl <;> cases d <;> first
    | (cases h; done)
    | (simp only [isiD, tyName, Option.bind_some, a1, a2, a3, a4, a5, b1, b2, b3, b4, b5, c1, c2, c3, c4, c5, d1, d2, d3, d4, d5, e1, e2, e3, e4, e5, f1, f2, f3, f4, f5, Option.map_some]; rfl)
@[simp] theorem i_tuple_NoneType : isiD "tuple" .non = some (.bl false) := isi_ty (d := .non) rfl (.inl rfl)
@[simp] theorem i_tuple_bool (b : Bool) : isiD "tuple" (.bl b) = some (.bl false) := isi_ty (d := (.bl b)) rfl (.inl rfl)
@[simp] theorem i_tuple_int (i : Int) : isiD "tuple" (.int i) = some (.bl false) := isi_ty (d := (.int i)) rfl (.inl rfl)
@[simp] theorem i_tuple_str (x : Str) : isiD "tuple" (.str x) = some (.bl false) := isi_ty (d := (.str x)) rfl (.inl rfl)
@[simp] theorem i_tuple_tuple (xs : List D) : isiD "tuple" (.tup xs) = some (.bl true) := isi_ty (d := (.tup xs)) rfl (.inl rfl)
@[simp] theorem i_tuple_list (xs : List D) : isiD "tuple" (.lst xs) = some (.bl false) := isi_ty (d := (.lst xs)) rfl (.inl rfl)
@[simp] theorem i_list_NoneType : isiD "list" .non = some (.bl false) := isi_ty (d := .non) rfl (.inr (.inl rfl))
@[simp] theorem i_list_bool (b : Bool) : isiD "list" (.bl b) = some (.bl false) := isi_ty (d := (.bl b)) rfl (.inr (.inl rfl))
@[simp] theorem i_list_int (i : Int) : isiD "list" (.int i) = some (.bl false) := isi_ty (d := (.int i)) rfl (.inr (.inl rfl))
@[simp] theorem i_list_str (x : Str) : isiD "list" (.str x) = some (.bl false) := isi_ty (d := (.str x)) rfl (.inr (.inl rfl))
@[simp] theorem i_list_tuple (xs : List D) : isiD "list" (.tup xs) = some (.bl false) := isi_ty (d := (.tup xs)) rfl (.inr (.inl rfl))
@[simp] theorem i_list_list (xs : List D) : isiD "list" (.lst xs) = some (.bl true) := isi_ty (d := (.lst xs)) rfl (.inr (.inl rfl))
@[simp] theorem i_bool_NoneType : isiD "bool" .non = some (.bl false) := isi_ty (d := .non) rfl (.inr (.inr (.inl rfl)))
@[simp] theorem i_bool_bool (b : Bool) : isiD "bool" (.bl b) = some (.bl true) := isi_ty (d := (.bl b)) rfl (.inr (.inr (.inl rfl)))
@[simp] theorem i_bool_int (i : Int) : isiD "bool" (.int i) = some (.bl false) := isi_ty (d := (.int i)) rfl (.inr (.inr (.inl rfl)))
@[simp] theorem i_bool_str (x : Str) : isiD "bool" (.str x) = some (.bl false) := isi_ty (d := (.str x)) rfl (.inr (.inr (.inl rfl)))
@[simp] theorem i_bool_tuple (xs : List D) : isiD "bool" (.tup xs) = some (.bl false) := isi_ty (d := (.tup xs)) rfl (.inr (.inr (.inl rfl)))
@[simp] theorem i_bool_list (xs : List D) : isiD "bool" (.lst xs) = some (.bl false) := isi_ty (d := (.lst xs)) rfl (.inr (.inr (.inl rfl)))
@[simp] theorem i_int_NoneType : isiD "int" .non = some (.bl false) := isi_ty (d := .non) rfl (.inr (.inr (.inr (.inl rfl))))
@[simp] theorem i_int_bool (b : Bool) : isiD "int" (.bl b) = some (.bl true) := isi_ty (d := (.bl b)) rfl (.inr (.inr (.inr (.inl rfl))))
@[simp] theorem i_int_int (i : Int) : isiD "int" (.int i) = some (.bl true) := isi_ty (d := (.int i)) rfl (.inr (.inr (.inr (.inl rfl))))
@[simp] theorem i_int_str (x : Str) : isiD "int" (.str x) = some (.bl false) := isi_ty (d := (.str x)) rfl (.inr (.inr (.inr (.inl rfl))))
@[simp] theorem i_int_tuple (xs : List D) : isiD "int" (.tup xs) = some (.bl false) := isi_ty (d := (.tup xs)) rfl (.inr (.inr (.inr (.inl rfl))))
@[simp] theorem i_int_list (xs : List D) : isiD "int" (.lst xs) = some (.bl false) := isi_ty (d := (.lst xs)) rfl (.inr (.inr (.inr (.inl rfl))))
@[simp] theorem i_str_NoneType : isiD "str" .non = some (.bl false) := isi_ty (d := .non) rfl (.inr (.inr (.inr (.inr rfl))))
@[simp] theorem i_str_bool (b : Bool) : isiD "str" (.bl b) = some (.bl false) := isi_ty (d := (.bl b)) rfl (.inr (.inr (.inr (.inr rfl))))
@[simp] theorem i_str_int (i : Int) : isiD "str" (.int i) = some (.bl false) := isi_ty (d := (.int i)) rfl (.inr (.inr (.inr (.inr rfl))))
@[simp] theorem i_str_str (x : Str) : isiD "str" (.str x) = some (.bl true) := isi_ty (d := (.str x)) rfl (.inr (.inr (.inr (.inr rfl))))
@[simp] theorem i_str_tuple (xs : List D) : isiD "str" (.tup xs) = some (.bl false) := isi_ty (d := (.tup xs)) rfl (.inr (.inr (.inr (.inr rfl))))
@[simp] theorem i_str_list (xs : List D) : isiD "str" (.lst xs) = some (.bl false) := isi_ty (d := (.lst xs)) rfl (.inr (.inr (.inr (.inr rfl))))
end Sn

namespace Sn
open PySem PySem.Spec PyProof.Rows L2
section
variable {S : Type} {α β : Type} {τ l τ' l' : Type}
theorem Wp.op2 {g : D → D → Option D} {ma mb : M S D} {P : D → Prop} (h : Wp ma fun x => Wp mb fun y => ∃ d, g x y = some d ∧ P d) : Wp (op2M g ma mb) P :=
  Wp.bnd (h.mono fun _ h => Wp.bnd (h.mono fun _ ⟨_, e, p⟩ => by rw [e]; exact Wp.ret p))
theorem Wp.rng1 {ma : M S D} {P : List D → Prop} (h : Wp ma fun d => ∃ n : Int, d = .int n ∧ (-(2 ^ 62) ≤ n ∧ n < 2 ^ 62) ∧ P (rng 0 n)) : Wp (rng1M ma) P :=
  Wp.bnd (h.mono fun _ ⟨n, e, b, p⟩ => by subst e; exact Wp.eq (rng1_ok b.1 b.2) (Wp.ret p))
theorem Wp.compM {mi : M S (List D)} {f : D → M S (Option D)} {P : D → Prop} (h : Wp mi fun xs => xs.length ≤ 16777216 ∧ Wp (compL f xs) fun ys => P (.lst ys)) : Wp (compM mi f) P :=
  Wp.bnd (h.mono fun xs ⟨hl, h⟩ => by rw [if_pos (by rw [sizeLine_eq]; exact hl)]; exact Wp.bnd (h.mono fun _ p => Wp.ret p))
theorem Wp.elt {m : M S D} {P : Option D → Prop} (h : Wp m fun y => P (some y)) : Wp (eltM (Sn.ret true) m) P :=
  Wp.eq (r_eltT m) (Wp.bnd (h.mono fun _ p => Wp.ret p))
theorem Wp.own {m : M S D} {k : D → M S (Fl τ l)} {P : Fl τ l → Prop} (h : Wp m fun d => isMut d = true ∧ Wp (k d) P) : Wp (ownM m k) P :=
  Wp.bnd (h.mono fun _ ⟨e, h⟩ => by rw [if_pos e]; exact h)
theorem Wp.ite {n : M S Bool} {mA mB : M S (Fl τ' l)} {k : τ' → M S (Fl τ l)} {P : Fl τ l → Prop} (h : Wp n fun t => Wp (if t = true then mA else mB) fun f => Wp (seqF f k) P) : Wp (iteF n mA mB k) P :=
  Wp.bnd (h.mono fun _ h => Wp.bnd h)
theorem Wp.iteN {n : M S Bool} {mA mB : M S (Fl τ' l)} {k : τ' → M S (Fl τ l)} {P : Fl τ l → Prop} (h : Wp n fun t => Wp (if t = true then mA else mB) fun f => ∃ s, f = .nx s ∧ Wp (k s) P) : Wp (iteF n mA mB k) P :=
  Wp.ite (h.mono fun _ h => h.mono fun _ ⟨_, e, h⟩ => by subst e; exact h)
theorem Wp.cmp {g : D → D → Option D} {ma mb : M S D} {P : Bool → Prop} (h : Wp ma fun x => Wp mb fun y => ∃ b, g x y = some (.bl b) ∧ P b) : Wp (cmpT g ma mb) P :=
  Wp.bnd (h.mono fun _ h => Wp.bnd (h.mono fun _ ⟨_, e, p⟩ => by rw [e]; exact Wp.ret p))
theorem Wp.bc {g : List D → Option D} {mr : M S (List D)} {P : D → Prop} (h : Wp mr fun xs => ∃ d, g xs = some d ∧ P d) : Wp (bcM g mr) P :=
  Wp.bnd (h.mono fun _ ⟨_, e, p⟩ => by rw [e]; exact Wp.ret p)
theorem Wp.cons {m : M S D} {mr : M S (List D)} {P : List D → Prop} (h : Wp m fun x => Wp mr fun xs => P (x :: xs)) : Wp (consM m mr) P :=
  Wp.bnd (h.mono fun _ h => Wp.bnd (h.mono fun _ p => Wp.ret p))
theorem Wp.retF {m : M S D} {P : Fl τ l → Prop} (h : Wp m fun d => P (.rt d)) : Wp (retF m) P :=
  Wp.bnd (h.mono fun _ p => Wp.ret p)
theorem Wp.setM {d : D} {me mk : M S D} {k : D → M S (Fl τ l)} {P : Fl τ l → Prop} (h : Wp me fun y => Wp mk fun j => ∃ d', setD d j y = some d' ∧ Wp (k d') P) : Wp (setM d me mk k) P :=
  Wp.bnd (h.mono fun _ h => Wp.bnd (h.mono fun _ ⟨_, e, p⟩ => Wp.bnd (by rw [e]; exact Wp.ret p)))
theorem Wp.appM {d : D} {me : M S D} {k : D → M S (Fl τ l)} {P : Fl τ l → Prop} (h : Wp me fun y => ∃ d', appD d y = some d' ∧ Wp (k d') P) : Wp (appM d me k) P :=
  Wp.bnd (h.mono fun _ ⟨_, e, p⟩ => Wp.bnd (by rw [e]; exact Wp.ret p))
theorem forL_on {f : τ → D → M S (Fl τ τ)} {k : τ → M S (Fl τ' l')} {s0 s1 : τ} {x : D} {xs : List D} (h : f s0 x = ret (.nx s1)) : forL f k (x :: xs) s0 = forL f k xs s1 := by
  rw [forL_cons, h]; rfl
theorem forL_rt {f : τ → D → M S (Fl τ τ)} {k : τ → M S (Fl τ' l')} {s0 : τ} {x d : D} {xs : List D} (h : f s0 x = ret (.rt d)) : forL f k (x :: xs) s0 = ret (.rt d) := by
  rw [forL_cons, h]; rfl
theorem forL_bk {f : τ → D → M S (Fl τ τ)} {k : τ → M S (Fl τ' l')} {s0 s1 : τ} {x : D} {xs : List D} (h : f s0 x = ret (.bk s1)) : forL f k (x :: xs) s0 = k s1 := by
  rw [forL_cons, h]; rfl
theorem forL_ct {f : τ → D → M S (Fl τ τ)} {k : τ → M S (Fl τ' l')} {s0 s1 : τ} {x : D} {xs : List D} (h : f s0 x = ret (.ct s1)) : forL f k (x :: xs) s0 = forL f k xs s1 := by
  rw [forL_cons, h]; rfl
end
/-- a call of draw -/
theorem Wp.drawc {k : Int} {P : D → Prop} (h : 0 < k) (h2 : k < 1073741824) (q : ∀ d : Int, 0 ≤ d → d < k → P (.int d)) : Wp (Sn.bnd (consM (Sn.ret .box) (consM (Sn.ret (.int k)) (Sn.ret []))) m_draw) P :=
  Wp.draw h h2 q
@[simp] theorem r_lst4 (a b c d : D) : lstD [a, b, c, d] = some (.lst [a, b, c, d]) := lstD_le (by simp)
@[simp] theorem r_lst5 (a b c d e : D) : lstD [a, b, c, d, e] = some (.lst [a, b, c, d, e]) := lstD_le (by simp)
@[simp] theorem r_tup6 (a b c d e f : D) : tupD [a, b, c, d, e, f] = some (.tup [a, b, c, d, e, f]) := tupD_le (by simp)
@[simp] theorem r_lst6 (a b c d e f : D) : lstD [a, b, c, d, e, f] = some (.lst [a, b, c, d, e, f]) := lstD_le (by simp)
@[simp] theorem r_tup7 (a b c d e f g : D) : tupD [a, b, c, d, e, f, g] = some (.tup [a, b, c, d, e, f, g]) := tupD_le (by simp)
@[simp] theorem r_lst7 (a b c d e f g : D) : lstD [a, b, c, d, e, f, g] = some (.lst [a, b, c, d, e, f, g]) := lstD_le (by simp)
@[simp] theorem r_tup8 (a b c d e f g h : D) : tupD [a, b, c, d, e, f, g, h] = some (.tup [a, b, c, d, e, f, g, h]) := tupD_le (by simp)
@[simp] theorem r_lst8 (a b c d e f g h : D) : lstD [a, b, c, d, e, f, g, h] = some (.lst [a, b, c, d, e, f, g, h]) := lstD_le (by simp)
@[simp] theorem r_tup9 (a b c d e f g h i : D) : tupD [a, b, c, d, e, f, g, h, i] = some (.tup [a, b, c, d, e, f, g, h, i]) := tupD_le (by simp)
@[simp] theorem r_lst9 (a b c d e f g h i : D) : lstD [a, b, c, d, e, f, g, h, i] = some (.lst [a, b, c, d, e, f, g, h, i]) := lstD_le (by simp)
@[simp] theorem r_tup10 (a b c d e f g h i j : D) : tupD [a, b, c, d, e, f, g, h, i, j] = some (.tup [a, b, c, d, e, f, g, h, i, j]) := tupD_le (by simp)
@[simp] theorem r_lst10 (a b c d e f g h i j : D) : lstD [a, b, c, d, e, f, g, h, i, j] = some (.lst [a, b, c, d, e, f, g, h, i, j]) := lstD_le (by simp)
@[simp] theorem r_tup11 (a b c d e f g h i j k : D) : tupD [a, b, c, d, e, f, g, h, i, j, k] = some (.tup [a, b, c, d, e, f, g, h, i, j, k]) := tupD_le (by simp)
@[simp] theorem r_lst11 (a b c d e f g h i j k : D) : lstD [a, b, c, d, e, f, g, h, i, j, k] = some (.lst [a, b, c, d, e, f, g, h, i, j, k]) := lstD_le (by simp)
@[simp] theorem r_tup12 (a b c d e f g h i j k l : D) : tupD [a, b, c, d, e, f, g, h, i, j, k, l] = some (.tup [a, b, c, d, e, f, g, h, i, j, k, l]) := tupD_le (by simp)
@[simp] theorem r_lst12 (a b c d e f g h i j k l : D) : lstD [a, b, c, d, e, f, g, h, i, j, k, l] = some (.lst [a, b, c, d, e, f, g, h, i, j, k, l]) := lstD_le (by simp)
theorem setD_ok {xs : List D} {i : Int} {y : D} (h : 0 ≤ i) (h2 : i < xs.length) : setD (.lst xs) (.int i) y = some (.lst (xs.set i.toNat y)) := by
  unfold setD
  simp only [ixN_nat h h2, Option.map_some]
theorem modv {k s : Int} : k - k / s * s = k % s := by
  have := Int.emod_add_mul_ediv k s
  rw [Int.mul_comm] at this
  omega
end Sn

namespace Sn
open PySem PySem.Spec PyProof.Rows L2
/-! ### what is never reached -/
section
variable {S : Type} [BoxS S] {C : Stat} {Γ : SCx} {e a b tg : Expr} {es : List Expr} {m ma mb : M S D} {md : Md} {mds : List Md} {pos p : Pos} {x : Str}
theorem Ok.stuck : Ok md C Γ e (Sn.stuck : M S D) := fun X hX W σ Z H st d st' Q r hm q => (stuck_some hm).elim
theorem OkT.stuck : OkT C Γ e (Sn.stuck : M S Bool) := fun X hX W σ Z H st d st' Q r hm q => (stuck_some hm).elim
theorem OkW.stuck : OkW C Γ e (Sn.stuck : M S Bool) := fun X hX W σ Z H st d st' Q r hm q => (stuck_some hm).elim
theorem OkI.stuck {bb : Bool} : OkI bb C Γ tg e (Sn.stuck : M S (List D)) := fun X hX W σ Z H st d st' Q r hm q => (stuck_some hm).elim
end
/-! ### tuple[::-1] -/
section
open HT
variable {prog : Program} {w : World} {A : Around} {E : Value → Shared → Prop} {s : Shared}
theorem adj_rev (n : Nat) : Builtin.Slice.sliceAdjust none none (-1) (n : Int) = ((n : Int) - 1, -1) := rfl
theorem plc_rev (n : Nat) : Builtin.Slice.slicePlaces ((n : Int) - 1) (-1) (-1) = n := by
  unfold Builtin.Slice.slicePlaces
  rw [if_neg (by decide)]
  split
  · rw [show (-(-1 : Int)) = 1 by decide, Int.ediv_one]; omega
  · have : n = 0 := by omega
    subst this; rfl
theorem applied_rev {sl : Addr} {vs : Value} {n : Nat} {Q : Int × Int × Nat → Shared → Prop} (hs : s.heap.IsSliceOf sl .none .none vs) (ps : IsPart vs (some (-1))) (h : Q ((n : Int) - 1, -1, n) s) :
    wpAny (model prog w) A (Builtin.Slice.sliceApplied (.ref sl) (pure (n : Int))) Q E s := by
  obtain ⟨os, o1, o2, o3⟩ := id hs
  unfold Builtin.Slice.sliceApplied Builtin.Slice.sliceFields
  refine wpAny_bind (wpAny_bind (wpAny_field o1 o3 (x := .none) rfl (wpAny_bind (wpAny_field o1 o3 (x := .none) rfl (wpAny_bind (wpAny_field o1 o3 (x := vs) rfl (wpAny_pure ?_))))))); refine wpAny_bind (slicePart_ ps ?_)
  show wpAny _ _ (if (((some (-1 : Int)).getD 1 : Int) == 0) = true then _ else _) _ _ s
  rw [if_neg (by decide)]; refine wpAny_bind (slicePart_ .none (wpAny_bind (slicePart_ .none (wpAny_bind (wpAny_pure ?_)))))
  show wpAny _ _ (pure (((n : Int) - 1), (-1 : Int), Builtin.Slice.slicePlaces ((n : Int) - 1) (-1) (-1))) _ _ s
  rw [plc_rev]; exact wpAny_pure h
theorem fm_congr {α β : Type} {f g : α → Option β} : ∀ {xs : List α}, (∀ x ∈ xs, f x = g x) → xs.filterMap f = xs.filterMap g
  | [], _ => rfl
  | x :: xs, h => by
    rw [List.filterMap_cons, List.filterMap_cons, h x List.mem_cons_self, fm_congr fun y hy => h y (List.mem_cons_of_mem _ hy)]
theorem pick_rev {α : Type} (xs : Array α) : ((List.range xs.size).filterMap fun (k : Nat) => xs[(((xs.size : Nat) : Int) - 1 + (k : Int) * -1).toNat]?).toArray = xs.toList.reverse.toArray := by
  congr 1
  have e : (List.range xs.size).filterMap (fun (k : Nat) => xs[(((xs.size : Nat) : Int) - 1 + (k : Int) * -1).toNat]?) = ((List.range xs.size).map fun k => xs.size - 1 - k).filterMap (xs[·]?) := by
    rw [List.filterMap_map]
    refine fm_congr fun k hk => ?_
    rw [List.mem_range] at hk
    have e : (((xs.size : Nat) : Int) - 1 + (k : Int) * -1).toNat = xs.size - 1 - k := by omega
    show xs[(((xs.size : Nat) : Int) - 1 + (k : Int) * -1).toNat]? = xs[xs.size - 1 - k]?
    rw [e]
  rw [e, PySem.W.krv_range, List.filterMap_reverse, PySem.W.krv_all]
theorem getItem_tuple_rev {t sl : Addr} {items : Array Value} {vs : Value} {Q : Value → Shared → Prop} (ht : IsTup s.heap t items) (hs : s.heap.IsSliceOf sl .none .none vs) (ps : IsPart vs (some (-1)))
    (h : Q (.ref s.heap.objs.size) { s with heap := s.heap.push { cls := .type "tuple", data := .seq items.toList.reverse.toArray } }) (hz : items.size ≤ sizeLine) : wpAny (model prog w) A (getItem (.ref t) (.ref sl)) Q E s := by
  have ok : sizeOk (.seq items.toList.reverse.toArray) := by
    show items.toList.reverse.toArray.size ≤ sizeLine
    rw [List.size_toArray, List.length_reverse, Array.length_toList]; exact hz
  obtain ⟨os, o1, o2, o3⟩ := id hs
  have ty : s.TypeIs (.ref sl) "slice" := ⟨os, o1, o2⟩
  unfold getItem; (try with_reducible refine wpAny_holding ?_); (first | refine wpAny_bind (wpAny_pure ?_) | skip); refine wpAny_bind (wpAny_sequenceKey ht.typeIs (by decide) ?_)
  refine wpAny_bind (wpAny_callSpecial?_slot (name := Str.ofString "__getitem__") ht.typeIs PyProof.Rows.slot_tuple_getitem (wpAny_call_entry PyProof.Rows.slot_tuple_getitem ht.typeIs entry_tuple_getitem ?_ (args_tuple_getitem _ _)))
  show wpAny _ _ (Builtin.Tuple.tupleItemsOf (.ref t) >>= _) _ _ s; refine wpAny_bind (tupleItemsOf_ ht ?_); refine wpAny_bind (wpAny_typeOf ty ?_); rw [if_pos (by decide)]; refine wpAny_bind (applied_rev hs ps ?_)
  show wpAny _ _ (if (((items.size : Nat) : Int) - 1 == 0 && (-1 : Int) == 1 && items.size == items.size) = true then _ else _) _ _ s
  rw [if_neg (by simp), pick_rev]
  first
    | exact wpAny_bind (m := Builtin.Tuple.tupleExact _) (wpAny_newObj_type (wpAny_pure ⟨_, rfl, wpAny_pure h⟩) ok)
    | exact wpAny_bind (m := Builtin.Tuple.tupleExact _) (wpAny_newObj_type (wpAny_bind (wpAny_pure (wpAny_pure ⟨_, rfl, wpAny_pure h⟩))) ok)
    | exact wpAny_bind (wpAny_bind (m := Builtin.Tuple.tupleExact _) (wpAny_newObj_type (wpAny_pure (wpAny_pure ⟨_, rfl, wpAny_pure h⟩)) ok))
    | exact wpAny_bind (wpAny_bind (m := Builtin.Tuple.tupleExact _) (wpAny_newObj_type (wpAny_pure ⟨_, rfl, wpAny_pure h⟩) ok))
end
/-- x[::-1] of tuples and lists -/
def rRev (K : PySem.W.Frag) : V → Hp → VK → Prop := fun x H Q => ∃ a xs, x = .ref a ∧ ((SqT K H a xs ∧ ∀ p, H p = none → Q (.ref p) (upd H p (.tup xs.reverse))) ∨ (SqL K H a xs ∧ ∀ p, H p = none → Q (.ref p) (upd H p (.lst xs.reverse))))
theorem pe_rev2 {X : Cx} {e : Expr} {te : TE} {k : Nat} {p1 p2 p3 pos : Pos} (he : PE X e te) : PE X (.Subscript e (.Slice none none (some (.UnaryOp .USub (.Constant (.int 1) k p1) p2)) p3) pos) (fun σ H Q => te σ H fun x H1 => rRev X.K x H1 Q) := by
  refine ⟨fun pins s σ H Q I h => Subscript_ (thn (he.run pins s σ H _ I h) fun v s1 ⟨x, H1, I1, r1, a, xs, ex, q⟩ => ?_)⟩
  subst ex; cases r1
  have hst : PO X (some (.UnaryOp .USub (.Constant (.int 1) k p1) p2)) (tPart (tUn (L2.rU fun i => .int (-i)) (tC (.int 1)))) := po_some (pe_un un_neg pe_int)
  refine wpAny_Slice (thn (po_none.run pins s1 σ H1 (fun o H2 => o = none ∧ H2 = H1) I1 ⟨rfl, rfl⟩) fun vl s2 ⟨l, H2, I2, pl, el, e2⟩ => ?_); subst el e2; cases pl
  refine thn (po_none.run pins s2 σ H2 (fun o H3 => o = none ∧ H3 = H2) I2 ⟨rfl, rfl⟩) fun vu s3 ⟨u, H3, I3, pu, eu, e3⟩ => ?_; subst eu e3; cases pu
  refine thn (hst.run pins s3 σ H3 (fun o H4 => o = some (-1) ∧ H4 = H3) I3 ⟨1, rfl, -1, rfl, rfl, rfl⟩) fun vs s4 ⟨o, H4, I4, ps, eo, e4⟩ => ?_; subst eo e4
  have I5 : Inv X pins σ H4 { s4 with heap := s4.heap.push { cls := .type "slice", data := .fields #[.none, .none, vs] } } := I4.kept (t' := s4.toks) fun b ob q => Heap.get?_push_of_some _ q
  show wpAny (model X.prog X.w) X.A (subscriptTail e (.Slice none none (some (.UnaryOp .USub (.Constant (.int 1) k p1) p2)) p3) (.ref a) (.ref s4.heap.objs.size)) (EP X pins σ Q) X.xe _
  rcases q with ⟨hx, q⟩ | ⟨hx, q⟩
  · obtain ⟨its, r, ht, hz⟩ := I5.tuple hx
    refine tail_any (ops := [.ref a, .ref s4.heap.objs.size]) ht.typeIs PyProof.Rows.slot_tuple_getitem.lookup (getItem_tuple_rev ht (Heap.IsSliceOf.new _ .none .none vs) ps ?_ (by rw [List.size_toArray, ← r.length]; exact hz)) (by with_unfolding_all rfl)
    refine ⟨.ref _, _, I5.laid (t' := s4.toks) (o := .tup xs.reverse) (fun b ob q => Heap.get?_push_of_some _ q) (Nat.le_refl _) ?_, rfl, q _ (I5.hok.fresh (Nat.le_refl _))⟩
    exact ⟨by rw [List.length_reverse]; exact hz, _, r.reverse, IsTup.new _ _⟩
  · obtain ⟨its, r, ht, hz⟩ := I5.list hx
    refine tail_any (ops := [.ref a, .ref s4.heap.objs.size]) ht.isList.typeIs PySem.slot_list_getitem.lookup (wpAny_getItem_list_slice ht.isList (Heap.IsSliceOf.new _ .none .none vs) .none .none ps (by decide) ?_ (by rw [List.size_toArray, ← r.length]; exact hz)) (by with_unfolding_all rfl)
    rw [PySem.W.krv_pick]
    refine ⟨.ref _, _, I5.laid (t' := s4.toks) (o := .lst xs.reverse) (fun b ob q => Heap.get?_push_of_some _ q) (Nat.le_refl _) ?_, rfl, q _ (I5.hok.fresh (Nat.le_refl _))⟩
    exact ⟨by rw [List.length_reverse]; exact hz, _, 0, r.reverse, Heap.get?_push_size _ rfl⟩
def revD : D → Option D
  | .tup xs => some (.tup xs.reverse)
  | .lst xs => some (.lst xs.reverse)
  | _ => none
section
variable {S : Type} [BoxS S] {C : Stat} {Γ : SCx} {e a b tg : Expr} {es : List Expr} {m ma mb : M S D} {md mda mdb : Md} {mds : List Md} {pos p p1 p2 p3 : Pos} {x : Str} {k : Nat}
theorem Ok.rev (ha : Ok .V C Γ a ma) : Ok .N C Γ (.Subscript a (.Slice none none (some (.UnaryOp .USub (.Constant (.int 1) k p1) p2)) p3) pos) (bnd ma fun x => lift (revD x)) := fun X hX W σ Z H st d st' Q r hm q => by
  obtain ⟨x, st1, h1, hm1⟩ := bnd_some hm
  obtain ⟨hg, rfl⟩ := lift_some hm1
  refine tU_of (pe_rev2 peU) (ha X hX W σ Z H st x _ _ r h1 fun vx Z1 H1 s1 b1 r1 => ?_)
  have q' : ∀ v Z' H', Stp W Z1 H1 Z' H' → BoxS.R st' W.β W.γ H' → Res X.K W .N H1 Z' H' d v → Q v H' := fun v Z' H' s' b' r' => q v Z' H' (s1.trans s') b' (r'.back r.box b1 s1)
  cases x with
  | tup xs =>
    cases hg
    cases r1.1 with | tup hq l => exact ⟨_, _, rfl, .inl ⟨s1.sub.sqT hq, fun p hp => fin_tup s1.zh b1 hp l.rev (by rw [List.length_reverse]; exact (s1.sz r.sz).tup (s1.sub.tupAt hq)) q'⟩⟩
  | lst xs =>
    cases hg
    obtain ⟨a, vs, rfl, hq, l⟩ := r1.1
    exact ⟨_, _, rfl, .inr ⟨.inl (.inl hq), fun p hp => fin_lst s1.zh b1 hp l.rev (by rw [List.length_reverse]; exact (s1.sz r.sz).lst hq) q'⟩⟩
  | _ => cases hg
/-! ### str(x) -/
def strD : List D → Option D
  | [.int i] => if i.natAbs.log2 < 1920 then some (.str (toString i)) else none
  | [.str z] => some (.str z)
  | _ => none
theorem o_str : OpL C (.type "str") strD := fun X hX S _ W Z H st xs dxs d Q zh sz bx r0 hg q => by
  match dxs, hg with
  | [.int i], hg =>
    have hg' : (if i.natAbs.log2 < 1920 then some (D.str (toString i)) else none) = some d := hg
    split at hg'
    · cases hg'
      obtain ⟨v, rfl, r⟩ := r0.one
      cases r
      exact cU_of call_str_int ⟨i, rfl, by assumption, fin_plain zh bx (.str _) rfl q⟩
    · cases hg'
  | [.str z], hg =>
    cases hg
    obtain ⟨v, rfl, r⟩ := r0.one
    cases r
    exact cU_of SkE.call_str_str ⟨z, rfl, fin_plain zh bx (.str _) rfl q⟩
/-! ### zip -/
def zipT (xs ys : List D) : List D := (xs.zip ys).map fun p => .tup [p.1, p.2]
theorem zipT_at {xs ys : List D} {i : Nat} {d : D} (h : (zipT xs ys)[i]? = some d) : ∃ x y, xs[i]? = some x ∧ ys[i]? = some y ∧ d = .tup [x, y] := by
  unfold zipT at h
  rw [List.getElem?_map] at h
  cases e : (xs.zip ys)[i]? with
  | none => rw [e] at h; cases h
  | some p =>
    rw [e] at h; cases h
    obtain ⟨h1, h2⟩ := List.getElem?_zip_eq_some.mp e
    exact ⟨p.1, p.2, h1, h2, rfl⟩
theorem zipT_len (xs ys : List D) : (zipT xs ys).length = min xs.length ys.length := by unfold zipT; rw [List.length_map, List.length_zip]
/-- a new pair -/
theorem yld_pair {K : PySem.W.Frag} {W : Wd} {Z2 H2 : Hp} {S : Type} [BoxS S] {st : S} {T : Addr} {x y : V} {dx dy : D} (zh : ∀ a o, Z2 a = some o → H2 a = some o ∧ ¬ W.bx a) (bx : BoxS.R st W.β W.γ H2) (hT : H2 T = none) (rx : Rep K W.β Z2 dx x) (ry : Rep K W.β Z2 dy y) :
    ∃ Z3, Stp W Z2 H2 Z3 (upd H2 T (.tup [x, y])) ∧ BoxS.R st W.β W.γ (upd H2 T (.tup [x, y])) ∧ Rep K W.β Z3 (.tup [dx, dy]) (.ref T) := by
  have s2 := Stp.layZ (o := .tup [x, y]) zh bx hT (by show 2 ≤ sizeLine; decide)
  exact ⟨_, s2, box_lay bx hT, .tup (.inl upd_same) ((RepL.cons rx (.cons ry .nil)).mono s2.zz)⟩
theorem yld_zipL {X : Cx} {W : Wd} {Z H : Hp} {a b : Addr} {vs us : List V} {xs ys : List D} (na : ¬ W.bx a) (nb : ¬ W.bx b) (ha : H a = some (.lst vs)) (hb : H b = some (.lst us)) (l : RepL X.K W.β Z xs vs) (l2 : RepL X.K W.β Z ys us) :
    Yld X.K W (Itz X.K a b) (zipT xs ys) (fun c => c = a ∨ c = b) Z H := by
  refine ⟨fun c e => ?_, fun i Z2 H2 st sz zh ka _ bx => ⟨fun hi => ?_, fun d hd => ?_⟩⟩
  · rcases e with rfl | rfl
    · exact ⟨⟨_, ha⟩, na⟩
    · exact ⟨⟨_, hb⟩, nb⟩
  · rw [zipT_len, l.length, l2.length] at hi
    exact ⟨vs, us, .inl (.inl (ka a _ (.inl rfl) ha)), .inl (.inl (ka b _ (.inr rfl) hb)), by omega⟩
  · obtain ⟨x, y, h1, h2, rfl⟩ := zipT_at hd
    obtain ⟨v, g1, rv⟩ := l.get h1
    obtain ⟨u, g2, ru⟩ := l2.get h2
    have qa : SqL X.K H2 a vs := .inl (.inl (ka a _ (.inl rfl) ha))
    have qb : SqL X.K H2 b us := .inl (.inl (ka b _ (.inr rfl) hb))
    refine ⟨⟨vs, us, v, u, qa, qb, g1, g2⟩, fun z H3 yy => ?_⟩
    obtain ⟨T, v', u', rfl, hT, rfl, e1, e2⟩ := yy
    have e1 := e1 _ qa; rw [g1] at e1; cases e1
    have e2 := e2 _ qb; rw [g2] at e2; cases e2
    exact yld_pair zh bx hT (rv.mono sz) (ru.mono sz)
theorem yld_zipT {X : Cx} {W : Wd} {Z H : Hp} {a b : Addr} {vs us : List V} {xs ys : List D} (ha : TupAt X.K Z a vs) (hb : TupAt X.K Z b us) (l : RepL X.K W.β Z xs vs) (l2 : RepL X.K W.β Z ys us) :
    Yld X.K W (RZ.ItzT X.K a b) (zipT xs ys) (fun _ => False) Z H := by
  refine ⟨fun c e => e.elim, fun i Z2 H2 st sz zh ka _ bx => ?_⟩
  have qa : SqT X.K H2 a vs := (subOf zh).sqT (sz.tupAt ha)
  have qb : SqT X.K H2 b us := (subOf zh).sqT (sz.tupAt hb)
  refine ⟨fun hi => ?_, fun d hd => ?_⟩
  · rw [zipT_len, l.length, l2.length] at hi
    exact ⟨vs, us, qa, qb, by omega⟩
  · obtain ⟨x, y, h1, h2, rfl⟩ := zipT_at hd
    obtain ⟨v, g1, rv⟩ := l.get h1
    obtain ⟨u, g2, ru⟩ := l2.get h2
    refine ⟨⟨vs, us, v, u, qa, qb, g1, g2⟩, fun z H3 yy => ?_⟩
    obtain ⟨T, v', u', rfl, hT, rfl, e1, e2⟩ := yy
    have e1 := e1 _ qa; rw [g1] at e1; cases e1
    have e2 := e2 _ qb; rw [g2] at e2; cases e2
    exact yld_pair zh bx hT (rv.mono sz) (ru.mono sz)
def zipM {S : Type} (x y : D) : M S (List D) :=
  match x, y with
  | .tup xs, .tup ys => ret (zipT xs ys)
  | .lst xs, .lst ys => ret (zipT xs ys)
  | _, _ => Sn.stuck
theorem OkI.zip {bb : Bool} {elts : List Expr} {kk : Nat} {tpos : Pos} (ha : Ok mda C Γ a ma) (hb : Ok mdb C Γ b mb) (hg : C.sc.names.lookup ("zip" : Str) = some .globalImplicit) (hm : C.G.mg "zip" = none) (h1 : mda = .V → bb = false) (h2 : mdb = .V → bb = false)
    (hp : plainArg a = true := by rfl) (hp2 : plainArg b = true := by rfl) : OkI bb C Γ (.Tuple elts kk tpos) (.Call (.Name "zip" p) [a, b] [] pos) (bnd ma fun x => bnd mb fun y => zipM x y) := fun X hX W σ Z H st xs st' R r hm' q => by
  obtain ⟨d, st1, g1, hm1⟩ := bnd_some hm'
  obtain ⟨d2, st2, g2, hm2⟩ := bnd_some hm1
  refine tUI_of (RZ.pi_zipA (hX.glob hg) (hX.none hm) (pa_cons peU (pa_cons peU pa_nil (starEach_plain _ hp2)) (starEach_plain _ hp)) (by rw [starEach_plain _ hp]) (by rw [starEach_plain _ hp2]; rfl)) ?_
  refine ha X hX W σ Z H st d st1 _ r g1 fun v1 Z1 H1 s1 b1 r1 => ?_
  refine hb X hX W σ Z1 H1 st1 d2 st2 _ (r.step s1 b1) g2 fun v2 Z2 H2 s2 b2 r2 => ?_
  have r1v := (r1.stp s2).view (s1.trans s2).zh
  have r2v := r2.view s2.zh
  have notOwn : ∀ {md : Md} {H0 : Hp} {Z0 : Hp} {d : D} {p : Addr}, Res X.K W md H0 Z2 H2 d (.ref p) → isMut d = true → (md = .V → bb = false) → bb = true → (∀ a, H0 a = none → H a = none) → ¬ ownA Γ σ p ∧ (Z2 p ≠ none ∨ H p = none) := by
    intro md H0 Z0 d p rr mu hV hbb back
    cases md with
    | V => rw [hV rfl] at hbb; cases hbb
    | E =>
      have hz : Z2 p ≠ none := by
        cases d with
        | lst ds => cases rr with | lst hz _ => rw [hz]; exact fun e => nomatch e
        | dct ds => cases rr with
          | dK hz _ => rw [hz]; exact fun e => nomatch e
          | dT hz _ => rw [hz]; exact fun e => nomatch e
        | _ => cases mu
      refine ⟨fun ho => ?_, .inl hz⟩
      obtain ⟨i, d', k1, k2⟩ := ho
      obtain ⟨b', e', zb, _, _, _⟩ := ((r.step s1 b1).step s2 b2).own i d' k1
      rw [k2] at e'; cases e'
      exact hz zb
    | N =>
      obtain ⟨f1, _, _⟩ := rr.2 p rfl mu
      refine ⟨fun ho => ?_, .inr (back _ f1)⟩
      obtain ⟨o, ho'⟩ := r.ownThere ho
      rw [back _ f1] at ho'; cases ho'
  cases d with
  | tup xs1 => cases d2 with
    | tup ys1 =>
      obtain ⟨rfl, rfl⟩ := ret_some hm2
      cases r1v.1 with | tup hq l => cases r2v.1 with | tup hq2 l2 =>
        exact ⟨_, _, _, _, rfl, .inr ⟨(s1.trans s2).sub.sqT hq, s2.sub.sqT hq2, q _ _ Z2 H2 (s1.trans s2) b2 (yld_zipT hq hq2 l l2) fun _ _ h => h.elim⟩⟩
    | _ => exact (stuck_some (S := S) (α := List D) (s := st2) hm2).elim
  | lst xs1 => cases d2 with
    | lst ys1 =>
      obtain ⟨rfl, rfl⟩ := ret_some hm2
      obtain ⟨p1, vs, rfl, hq, l⟩ := r1v.1
      obtain ⟨p2, us, rfl, hq2, l2⟩ := r2v.1
      refine ⟨p1, p2, vs, us, rfl, .inl ⟨.inl (.inl hq), .inl (.inl hq2), q _ _ Z2 H2 (s1.trans s2) b2 (yld_zipL (r1v.2 _ rfl rfl) (r2v.2 _ rfl rfl) hq hq2 l l2) fun hbb c hc => ?_⟩⟩
      rcases hc with rfl | rfl
      · exact notOwn (Z0 := Z) (r1.stp s2) rfl h1 hbb fun _ h => h
      · exact notOwn (Z0 := Z) r2 rfl h2 hbb fun _ h => fresh_back r.box b1 s1 h
    | _ => exact (stuck_some (S := S) (α := List D) (s := st2) hm2).elim
  | _ => exact (stuck_some (S := S) (α := List D) (s := st2) hm2).elim
end
section
variable {S : Type}
def revM (ma : M S D) : M S D := bnd ma fun x => lift (revD x)
def zipM2 (ma mb : M S D) : M S (List D) := bnd ma fun x => bnd mb fun y => zipM x y
end
end Sn

namespace Sn
open PySem PySem.Spec PyProof.Rows L2
/-! ### plain library, second part: ints, lists of ints, searches, loops -/
def rI (lo hi : Int) : List Int := (List.range (hi - lo).toNat).map fun k : Nat => lo + (k : Int)
theorem rng_rI (lo hi : Int) : rng lo hi = (rI lo hi).map .int := by unfold rng rI; rw [List.map_map]; rfl
theorem mem_rI {lo hi i : Int} : i ∈ rI lo hi ↔ lo ≤ i ∧ i < hi := by
  unfold rI
  rw [List.mem_map]
  constructor
  · rintro ⟨k, hk, rfl⟩
    rw [List.mem_range] at hk
    omega
  · rintro ⟨h1, h2⟩
    exact ⟨(i - lo).toNat, by rw [List.mem_range]; omega, by omega⟩
theorem rI_len (lo hi : Int) : (rI lo hi).length = (hi - lo).toNat := by unfold rI; simp
theorem rI_lt (a b : Int) : (rI a b).Pairwise (· < ·) := by
  unfold rI
  rw [List.pairwise_map]
  exact List.pairwise_lt_range.imp fun h => by omega
/-- a range from nought, by naturals -/
theorem rng_nat (n : Nat) : rng 0 (n : Int) = (List.range n).map fun k : Nat => D.int k := by
  unfold rng
  rw [show ((n : Int) - 0).toNat = n by omega]
  exact List.map_congr_left fun k _ => by rw [Int.zero_add]
theorem rng_nat1 (n : Nat) : rng 1 ((n : Int) + 1) = (List.range n).map fun k : Nat => D.int ((k + 1 : Nat) : Int) := by
  unfold rng
  rw [show ((n : Int) + 1 - 1).toNat = n by omega]
  exact List.map_congr_left fun k _ => by congr 1; omega
theorem getD_in {α : Type} {l : List α} {k : Nat} {d : α} (h : k < l.length) : l.getD k d = l[k] := by simp [List.getD, h]
theorem len_tI (w : List Int) : lenD [tI w] = some (.int w.length) := by simp [tI, lenD]
theorem len_lI (w : List Int) : lenD [lI w] = some (.int w.length) := by simp [lI, lenD]
theorem ix_tI {w : List Int} {i : Int} (h : 0 ≤ i) (h2 : i < w.length) : ixD (tI w) (.int i) = some (.int (w[i.toNat]'(by omega))) := by
  unfold tI
  rw [r_ixT, atI_map, atI_ok h h2]
  rfl
theorem ix_hd {d : D} {r : List D} : atI (d :: r) 0 = some d := by
  rw [atI_ok (by decide) (by rw [List.length_cons]; omega)]
  rfl
/-- the first of a list, of those that go up -/
theorem hd_filter {c : Nat → Bool} : ∀ {L : List Nat} {t : Nat}, L.Pairwise (· < ·) → t ∈ L → c t = true → (∀ s ∈ L, s < t → c s = false) → ∃ r, L.filter c = t :: r
  | [], _, _, h, _, _ => by cases h
  | a :: L, t, hp, h, hc, hs => by
    by_cases e : a = t
    · subst e
      rw [List.filter_cons, if_pos hc]
      exact ⟨_, rfl⟩
    · have hm : t ∈ L := (List.mem_cons.mp h).resolve_left fun h => e h.symm
      rw [List.filter_cons, if_neg (by rw [hs a List.mem_cons_self ((List.pairwise_cons.mp hp).1 t hm)]; exact Bool.false_ne_true)]
      exact hd_filter (List.pairwise_cons.mp hp).2 hm hc fun s hs' => hs s (List.mem_cons_of_mem _ hs')
/-- a search in a list of data, with the kinds of what is searched told -/
theorem forL_findG {S : Type} {α : Type} {τ' l' : Type} {f : Unit → D → M S (Fl Unit Unit)} {k : Unit → M S (Fl τ' l')} (g : α → D) (p : α → Bool) (r : α → D) : ∀ {xs : List α}, (∀ x ∈ xs, f () (g x) = if p x = true then ret (.rt (r x)) else ret (.nx ())) → forL f k (xs.map g) () = match xs.find? p with | some x => ret (.rt (r x)) | none => k ()
  | [], _ => rfl
  | x :: xs, h => by
    rw [List.map_cons, forL_cons, h x List.mem_cons_self, List.find?_cons]
    cases hp : p x
    · simp only [Bool.false_eq_true, if_false, r_bnd]
      exact forL_findG g p r fun y hy => h y (List.mem_cons_of_mem _ hy)
    · simp
theorem whileL_on {S τ τ' l' : Type} {c : τ → M S Bool} {f : τ → M S (Fl τ τ)} {k : τ → M S (Fl τ' l')} {n : Nat} {s s' : τ} (hc : c s = ret true) (hf : f s = ret (.nx s')) : whileL c f k (n + 1) s = whileL c f k n s' := by
  show bnd (c s) _ = _
  rw [hc, r_bnd, if_pos rfl, hf]
  rfl
theorem whileL_off {S τ τ' l' : Type} {c : τ → M S Bool} {f : τ → M S (Fl τ τ)} {k : τ → M S (Fl τ' l')} {n : Nat} {s : τ} (hc : c s = ret false) : whileL c f k (n + 1) s = k s := by
  show bnd (c s) _ = _
  rw [hc, r_bnd]
  rfl
theorem fuel_eq : fuel = 1000000000 := rfl
/-! ### what comes again -/
def PerI {α : Type} (f : Nat → α) (p : Nat) : Prop := ∀ t, f (t + p) = f t
theorem PerI.mul {α : Type} {f : Nat → α} {p : Nat} (h : PerI f p) : ∀ m t, f (t + m * p) = f t
  | 0, t => by simp
  | m + 1, t => by rw [Nat.add_mul, Nat.one_mul, ← Nat.add_assoc, h, h.mul m t]
theorem PerI.dvd {α : Type} {f : Nat → α} {p q : Nat} (h : PerI f p) (d : p ∣ q) : PerI f q := fun t => by
  obtain ⟨m, rfl⟩ := d
  rw [Nat.mul_comm]; exact h.mul m t
theorem PerI.mod {α : Type} {f : Nat → α} {p : Nat} (h : PerI f p) (t : Nat) : f (t % p) = f t := by
  have := h.mul (t / p) (t % p)
  rw [Nat.mul_comm, Nat.mod_add_div] at this
  exact this.symm
theorem PerI.gcd {α : Type} {f : Nat → α} (a b : Nat) (ha : PerI f a) (hb : PerI f b) : PerI f (Nat.gcd a b) := by
  induction a, b using Nat.gcd.induction with
  | H0 n => rw [Nat.gcd_zero_left]; exact hb
  | H1 m n hm ih =>
    rw [Nat.gcd_rec]
    refine ih (fun t => ?_) ha
    have e := ha.mul (n / m) (t + n % m)
    have d := Nat.mod_add_div n m
    rw [show t + n % m + n / m * m = t + n by rw [Nat.mul_comm (n / m)]; omega, hb] at e
    exact e.symm
end Sn

namespace Sn
open PySem PySem.Spec PyProof.Rows L2
/-! ### comprehensions of two clauses -/
section
variable {S : Type} [BoxS S] {K : PySem.W.Frag} {W : Wd} {Γ : SCx} {σ : L2.St} {Z H Z1 H1 Z2 H2 Z' H' : Hp} {st st' st1 : S} {D : Addr} {acc : List V} {dacc : List Sn.D}
theorem SR.lstp (r : SR K W Γ σ Z H st) (nd : ¬ ownA Γ σ D) (s : Stp W Z (upd H D (.lst [])) Z' (upd H' D (.lst []))) (zh : ∀ a o, Z' a = some o → H' a = some o ∧ ¬ W.bx a) (sz : Sz H') (b : BoxS.R st' W.β W.γ H') : SR K W Γ σ Z' H' st' where
  ln := r.ln
  sz := sz
  box := b
  zh := zh
  frz := fun i d h => by
    obtain ⟨v, e, q⟩ := r.frz i d h
    exact ⟨v, e, q.mono s.zz⟩
  own := fun i d h => by
    obtain ⟨a, e, z, n, mu, q⟩ := r.own i d h
    have hne : a ≠ D := fun ea => nd ⟨i, d, h, by rw [← ea]; exact e⟩
    obtain ⟨o, ho⟩ := r.ownThere ⟨i, d, h, e⟩
    refine ⟨a, e, ?_, n, mu, q.mono s.zz fun c ec u hu => ?_⟩
    · cases q' : Z' a with
      | none => rfl
      | some u =>
        rcases s.nw a u q' with w | w
        · rw [z] at w; cases w
        · rw [upd_ne hne, ho] at w; cases w
    · cases ec
      have := s.hh a u (by rw [upd_ne hne]; exact hu) n
      rwa [upd_ne hne] at this
  dis := r.dis
/-- the list so far lies at D, all else as steps leave it -/
structure LS {S : Type} [BoxS S] (K : PySem.W.Frag) (W : Wd) (D : Addr) (Z1 H1 Z' H' : Hp) (acc : List V) (dacc : List Sn.D) (st : S) : Prop where
  s : Stp W Z1 (upd H1 D (.lst [])) Z' (upd H' D (.lst []))
  hD : H' D = some (.lst acc)
  zD : Z' D = none
  zh : ∀ a o, Z' a = some o → H' a = some o ∧ ¬ W.bx a
  sz : Sz H'
  b : BoxS.R st W.β W.γ H'
  r : RepL K W.β Z' dacc acc
theorem Stp.at' (t : Stp W Z H Z' H') (nbD : ¬ W.bx D) {acc : List V} (hD : H D = some (.lst acc)) (zD : Z D = none) (hl : acc.length ≤ sizeLine) : Stp W Z (upd H D (.lst [])) Z' (upd H' D (.lst [])) ∧ Z' D = none ∧ H' D = some (.lst acc) := by
  have z2 : Z' D = none := by
    cases q : Z' D with
    | none => rfl
    | some u =>
      rcases t.nw D u q with w | w
      · rw [zD] at w; cases w
      · rw [hD] at w; cases w
  refine ⟨⟨t.zz, fun a o h => ?_, fun a o h nb => ?_, fun a o h => ?_, fun hs => ?_⟩, z2, t.hh D _ hD nbD⟩
  · have hne : a ≠ D := fun z => by rw [z, z2] at h; cases h
    exact ⟨by rw [upd_ne hne]; exact (t.zh a o h).1, (t.zh a o h).2⟩
  · rcases upd_get h with ⟨rfl, rfl⟩ | ⟨hne, h⟩
    · exact upd_same
    · rw [upd_ne hne]; exact t.hh a o h nb
  · rcases t.nw a o h with w | w
    · exact .inl w
    · by_cases e : a = D
      · subst e; rw [z2] at h; cases h
      · exact .inr (by rw [upd_ne e]; exact w)
  · intro a vs hr
    by_cases e : a = D
    · subst e
      rcases hr with hr | hr <;> (rw [upd_same] at hr; cases hr)
      exact Nat.zero_le _
    · have hs2 : Sz H := fun a2 vs2 hr2 => by
        by_cases e2 : a2 = D
        · subst e2
          rw [hD] at hr2
          rcases hr2 with hr2 | hr2 <;> cases hr2
          exact hl
        · exact hs a2 vs2 (by rw [upd_ne e2]; exact hr2)
      exact t.sz hs2 a vs (by rw [upd_ne e] at hr; exact hr)
theorem LS.step (l : LS K W D Z1 H1 Z' H' acc dacc st) (nbD : ¬ W.bx D) (t : Stp W Z' H' Z2 H2) (b2 : BoxS.R st' W.β W.γ H2) : LS K W D Z1 H1 Z2 H2 acc dacc st' := by
  obtain ⟨t1, t2, t3⟩ := t.at' nbD l.hD l.zD (l.sz D acc (.inl l.hD))
  exact ⟨l.s.trans t1, t3, t2, t.zh, t.sz l.sz, b2, l.r.mono t.zz⟩
theorem LS.push (l : LS K W D Z1 H1 Z' H' acc dacc st) (nbD : ¬ W.bx D) {v : V} {d : Sn.D} (q : Rep K W.β Z' d v) (hl : acc.length < sizeLine) : LS K W D Z1 H1 Z' (upd H' D (.lst (acc ++ [v]))) (acc ++ [v]) (dacc ++ [d]) st := by
  have hlen : (acc ++ [v]).length ≤ sizeLine := by rw [List.length_append, List.length_singleton]; omega
  refine ⟨by rw [upd_upd]; exact l.s, upd_same, l.zD, fun a o h => ?_, l.sz.upd hlen, BoxS.congr l.b (upd_ne fun e => nbD (.inl e.symm)) (upd_ne fun e => nbD (.inr e.symm)), l.r.append (.cons q .nil)⟩
  have hne : a ≠ D := fun z => by rw [z, l.zD] at h; cases h
  exact ⟨by rw [upd_ne hne]; exact (l.zh a o h).1, (l.zh a o h).2⟩
end
def compLL {S α β : Type} (f : α → M S (List β)) : List α → M S (List β)
  | [] => ret []
  | x :: xs => bnd (f x) fun l => bnd (compLL f xs) fun ys => ret (l ++ ys)
/-- an outer clause's tests, then the inner clause -/
def elt2M {S : Type} (mt : M S Bool) (mi : M S (List D)) (f : D → M S (Option D)) : M S (List D) := bnd mt fun t => if t = true then bnd mi fun xs => compL f xs else ret []
theorem wipe_idem : ∀ (us ws : List Nat) (ρ : L2.St), (∀ i ∈ us, i ∈ ws) → wipe (wipe ρ us) ws = wipe ρ ws := by
  intro us ws ρ
  induction us with
  | nil => intro _; rfl
  | cons u us ih =>
    intro h
    show wipe ((wipe ρ us).set u none) ws = wipe ρ ws
    rw [wipe_set (h u List.mem_cons_self), ih fun i hi => h i (List.mem_cons_of_mem _ hi)]
section
variable {S : Type} [BoxS S] {C : Stat} {Γ Γ' : SCx} {c elt tg iter tg1 iter1 : Expr} {ifs ifs1 : List Expr} {pos : Pos}
theorem lc2_rd {scope : Scope} (own : List (Str × Nat)) (vs1 : List Nat) {mi : M S (List D)} {f : D → M S (List D)} (hi : OkI false C Γ tg iter mi)
    (hb : ∀ d, BindOk (C.blk scope) (wipeΓ Γ (own.map (·.2))) [tg] [d] (fun i => i ∈ own.map (·.2)) (fun Γ' n => ∃ mt mi1 f1, OkTs (C.blk scope) Γ' ifs mt ∧ OkI true (C.blk scope) Γ' tg1 iter1 mi1 ∧
      (∀ d1, BindOk (C.blk scope) (wipeΓ Γ' vs1) [tg1] [d1] (fun i => i ∈ vs1) (fun Γ2 n1 => ∃ mt1 me, OkTs (C.blk scope) Γ2 ifs1 mt1 ∧ Ok .E (C.blk scope) Γ2 elt me ∧ n1 = eltM mt1 me) (f1 d1)) ∧ n = elt2M mt mi1 f1) (f d))
    (X : Cx) (hX : CtxP C X) (W : Wd) (σ : L2.St) (Z H : Hp) (st : S) (d : D) (st' : S) (Q : VK) (r : SR X.K W Γ σ Z H st) (hm : (bnd mi fun xs => bnd (compLL f xs) fun ys => if ys.length ≤ sizeLine then ret (.lst ys) else stuck) st = some (d, st'))
    (q : ∀ v Z' H', Stp W Z H Z' H' → BoxS.R st' W.β W.γ H' → Res X.K W .N H Z' H' d v → Q v H') : tLc2 (tUI X tg iter) (bG X scope tg) (bT X scope ifs) (bI X scope tg1 iter1) (bG X scope tg1) (bT X scope ifs1) (bE X scope elt) (own.map (·.2)) vs1 σ H Q := by
  obtain ⟨xs, st1, h1, hm1⟩ := bnd_some hm
  obtain ⟨ys, st2, h2, hm2⟩ := bnd_some hm1
  by_cases hys : ys.length ≤ sizeLine
  · rw [if_pos hys] at hm2
    obtain ⟨rfl, rfl⟩ := ret_some hm2
    refine hi X hX W σ Z H st xs st1 _ r h1 fun J A Z1 H1 s1 b1 y1 _ => fun D hD => ?_
    have r1 := r.step s1 b1
    have nbD : ¬ W.bx D := BoxS.bxThere b1 hD
    have zD : Z1 D = none := z_none s1.zh hD
    have notD : ¬ ownA Γ σ D := fun h => by
      obtain ⟨o, ho⟩ := r1.ownThere h
      rw [hD] at ho; cases ho
    refine ⟨fun i n H' => ∃ Z' acc dacc st3 rst, n = xs.length - i ∧ i ≤ xs.length ∧ LS X.K W D Z1 H1 Z' H' acc dacc st3 ∧ compLL f (xs.drop i) st3 = some (rst, st') ∧ ys = dacc ++ rst,
      ⟨xs.length, Z1, [], [], st1, ys, by omega, Nat.zero_le _, ⟨?_, upd_same, zD, fun a o h => ⟨by rw [upd_ne (ne_of_none (s1.zh a o h).1 hD)]; exact (s1.zh a o h).1, (s1.zh a o h).2⟩, (s1.sz r.sz).upd (Nat.zero_le _), box_lay b1 hD, .nil⟩, h2, rfl⟩, ?_⟩
    · rw [upd_upd]
      exact Stp.refl fun a o h => ⟨by rw [upd_ne (ne_of_none (s1.zh a o h).1 hD)]; exact (s1.zh a o h).1, (s1.zh a o h).2⟩
    rintro i n H2 ⟨Z2, acc, dacc, st3, rst, rfl, hi2, l2, run2, ey⟩
    have ka : ∀ a o, A a → H1 a = some o → H2 a = some o := fun a o ha h => by
      have hne : a ≠ D := ne_of_none h hD
      have := l2.s.hh a o (by rw [upd_ne hne]; exact h) (y1.1 a ha).2
      rwa [upd_ne hne] at this
    have yy := y1.2 i Z2 H2 st3 l2.s.zz l2.zh ka l2.sz l2.b
    have rr : SR X.K W Γ σ Z2 H2 st3 := r1.lstp notD l2.s l2.zh l2.sz l2.b
    by_cases hlt : i < xs.length
    · have hd : xs[i]? = some xs[i] := List.getElem?_eq_getElem hlt
      rw [List.drop_eq_getElem_cons hlt] at run2
      obtain ⟨l, st4, h4, run3⟩ := bnd_some (show bnd (f xs[i]) _ st3 = some (rst, st') from run2)
      obtain ⟨zs, st5, h5, run4⟩ := bnd_some run3
      obtain ⟨er, rfl⟩ := ret_some run4
      obtain ⟨go, yl⟩ := yy.2 _ hd
      refine .inr ⟨go, fun H' => ∃ Z' acc dacc st3 rst, LS X.K W D Z1 H1 Z' H' acc dacc st3 ∧ compLL f (xs.drop (i + 1)) st3 = some (rst, st') ∧ ys = dacc ++ rst, fun H' hN => ?_, fun x H3 hy => ?_⟩
      · obtain ⟨Z', acc, dacc, st3, rst, q1, q2, q3⟩ := hN
        exact ⟨xs.length - (i + 1), by omega, Z', acc, dacc, st3, rst, rfl, hlt, q1, q2, q3⟩
      · obtain ⟨Z3, s3, b3, rx⟩ := yl x H3 hy
        intro s0 H0 C' cl fp
        have hXb := hX.blk scope s0 H0 C' cl fp
        rcases hb xs[i] with hb' | ⟨Γ', vs, ht, hvs, mt, mi1, f1, ot, oi, ob, en⟩
        · rw [hb' st3] at h4; cases h4
        · obtain ⟨Γ1, v1, v2, t1, ⟨e1, e2⟩, e3⟩ := ht
          subst e1
          subst e2
          rw [List.append_nil] at e3
          subst e3
          rw [en] at h4
          obtain ⟨t, st6, h6, h7⟩ := bnd_some h4
          refine t1 _ hXb W (wipe σ (own.map (·.2))) Z3 H3 st3 x _ ((rr.step s3 b3).wipe) rx fun σ3 r4 w4 o4 => ?_
          refine ⟨by
            have := w4 (own.map (·.2)) hvs
            rw [this]
            exact wipe_idem _ _ σ fun _ h => h, fun s5 H5 C5 cl5 fp5 => ?_⟩
          have hXc := hX.blk scope s5 H5 C5 cl5 fp5
          have l3 := l2.step nbD s3 b3
          refine ot _ hXc W σ3 Z3 H3 st3 t st6 _ r4 h6 fun Z6 H6 s6 b6 => ?_
          have l6 := l3.step nbD s6 b6
          have r6 := r4.step s6 b6
          cases t with
          | false =>
            rw [if_neg Bool.false_ne_true] at h7 ⊢
            obtain ⟨rfl, rfl⟩ := ret_some h7
            exact ⟨Z6, acc, dacc, st4, zs, l6, h5, by rw [ey, er, List.nil_append]⟩
          | true =>
            rw [if_pos rfl] at h7 ⊢
            obtain ⟨xs1, st7, h8, h9⟩ := bnd_some h7
            intro s8 H8 C8 cl8 fp8
            have hXd := hX.blk scope s8 H8 C8 cl8 fp8
            refine oi _ hXd W σ3 Z6 H6 st6 xs1 st7 _ r6 h8 fun J1 A1 Z7 H7 s7 b7 y7 nA => ?_
            have l7 := l6.step nbD s7 b7
            have r7 := r6.step s7 b7
            have notD1 : ¬ ownA Γ' σ3 D := fun h => by
              rcases o4 D h with w
              obtain ⟨k, dk, g1, g2⟩ := w
              obtain ⟨g3, g4⟩ := wipeΓ_some g1
              rw [wipe_get g4] at g2
              exact notD ⟨k, dk, g3, g2⟩
            have aD : ¬ A1 D := fun h => by
              rcases (nA rfl D h).2 with w | w
              · exact w l7.zD
              · rw [l6.hD] at w; cases w
            refine ⟨fun j k H' => ∃ Z' acc' dacc' stj rstj, k = xs1.length - j ∧ j ≤ xs1.length ∧ LS X.K W D Z1 H1 Z' H' acc' dacc' stj ∧ Stp W Z7 (upd H7 D (.lst [])) Z' (upd H' D (.lst [])) ∧ compL f1 (xs1.drop j) stj = some (rstj, st4) ∧ ys = dacc' ++ (rstj ++ zs),
              ⟨xs1.length, Z7, acc, dacc, st7, l, by omega, Nat.zero_le _, l7, Stp.refl fun a o h => ?_, h9, by rw [ey, er]⟩, ?_⟩
            · have hne : a ≠ D := fun z => by rw [z, l7.zD] at h; cases h
              exact ⟨by rw [upd_ne hne]; exact (l7.zh a o h).1, (l7.zh a o h).2⟩
            rintro j k H9 ⟨Z9, acc', dacc', stj, rstj, rfl, hj, l9, s9, run9, ey9⟩
            have ka1 : ∀ a o, A1 a → H7 a = some o → H9 a = some o := fun a o ha h => by
              have hne : a ≠ D := fun z => aD (z ▸ ha)
              have := s9.hh a o (by rw [upd_ne hne]; exact h) (y7.1 a ha).2
              rwa [upd_ne hne] at this
            have yy1 := y7.2 j Z9 H9 stj s9.zz l9.zh ka1 l9.sz l9.b
            have r9 : SR X.K W Γ' σ3 Z9 H9 stj := r7.lstp notD1 s9 l9.zh l9.sz l9.b
            by_cases hjl : j < xs1.length
            · have hd1 : xs1[j]? = some xs1[j] := List.getElem?_eq_getElem hjl
              rw [List.drop_eq_getElem_cons hjl] at run9
              obtain ⟨o, stk, g4, run10⟩ := bnd_some (show bnd (f1 xs1[j]) _ stj = some (rstj, st4) from run9)
              obtain ⟨zs1, st11, g5, run11⟩ := bnd_some run10
              obtain ⟨er1, rfl⟩ := ret_some run11
              obtain ⟨go1, yl1⟩ := yy1.2 _ hd1
              refine .inr ⟨go1, fun H' => ∃ Z' acc' dacc' stj rstj, LS X.K W D Z1 H1 Z' H' acc' dacc' stj ∧ Stp W Z7 (upd H7 D (.lst [])) Z' (upd H' D (.lst [])) ∧ compL f1 (xs1.drop (j + 1)) stj = some (rstj, st4) ∧ ys = dacc' ++ (rstj ++ zs), fun H' hN => ?_, fun x1 H10 hy1 => ?_⟩
              · obtain ⟨Z', acc', dacc', stj, rstj, q1, q2, q3, q4⟩ := hN
                exact ⟨xs1.length - (j + 1), by omega, Z', acc', dacc', stj, rstj, rfl, hjl, q1, q2, q3, q4⟩
              · obtain ⟨Z10, s10, b10, rx1⟩ := yl1 x1 H10 hy1
                intro s12 H12 C12 cl12 fp12
                have hXe := hX.blk scope s12 H12 C12 cl12 fp12
                rcases ob xs1[j] with ob' | ⟨Γ2, ws, ht1, hws, mt1, me, ot1, oe, en1⟩
                · rw [ob' stj] at g4; cases g4
                · obtain ⟨Γ3, u1, u2, t2, ⟨f1', f2'⟩, f3'⟩ := ht1
                  subst f1'
                  subst f2'
                  rw [List.append_nil] at f3'
                  subst f3'
                  rw [en1] at g4
                  obtain ⟨t', st13, g6, g7⟩ := bnd_some g4
                  refine t2 _ hXe W (wipe σ3 vs1) Z10 H10 stj x1 _ ((r9.step s10 b10).wipe) rx1 fun σ4 r10 w5 o5 => ?_
                  refine ⟨by
                    have := w5 vs1 hws
                    rw [this]
                    exact wipe_idem _ _ σ3 fun _ h => h, fun s14 H14 C14 cl14 fp14 => ?_⟩
                  have hXf := hX.blk scope s14 H14 C14 cl14 fp14
                  have l10 := l9.step nbD s10 b10
                  have step7 : ∀ {Za Ha : Hp}, Stp W Z9 H9 Za Ha → Stp W Z7 (upd H7 D (.lst [])) Za (upd Ha D (.lst [])) := fun t => s9.trans (t.at' nbD l9.hD l9.zD (l9.sz D acc' (.inl l9.hD))).1
                  refine ot1 _ hXf W σ4 Z10 H10 stj t' st13 _ r10 g6 fun Z15 H15 s15 b15 => ?_
                  have l15 := l10.step nbD s15 b15
                  cases t' with
                  | false =>
                    rw [if_neg Bool.false_ne_true] at g7 ⊢
                    obtain ⟨rfl, rfl⟩ := ret_some g7
                    exact ⟨Z15, acc', dacc', stk, zs1, l15, step7 (s10.trans s15), g5, by rw [ey9, er1]⟩
                  | true =>
                    rw [if_pos rfl] at g7 ⊢
                    obtain ⟨y, st16, g8, g9⟩ := bnd_some g7
                    obtain ⟨rfl, rfl⟩ := ret_some g9
                    intro s17 H17 C17 cl17 fp17
                    have hXg := hX.blk scope s17 H17 C17 cl17 fp17
                    refine oe _ hXg W σ4 Z15 H15 st13 y _ _ (r10.step s15 b15) g8 fun v Z18 H18 s18 b18 r18 => ?_
                    have l18 := l15.step nbD s18 b18
                    have hlen : acc'.length < sizeLine := by
                      have e1 := congrArg List.length ey9
                      have e2 := l9.r.length
                      rw [er1] at e1
                      simp only [List.length_append, List.length_cons] at e1
                      omega
                    refine ⟨acc', l18.hD, hlen, Z18, acc' ++ [v], dacc' ++ [y], stk, zs1, l18.push nbD r18 hlen, ?_, g5, ?_⟩
                    · rw [upd_upd]; exact step7 ((s10.trans s15).trans s18)
                    · rw [ey9, er1]; simp
            · have e : j = xs1.length := by omega
              subst e
              rw [List.drop_length] at run9
              obtain ⟨rfl, rfl⟩ := ret_some run9
              exact .inl ⟨yy1.1 (Nat.le_refl _), Z9, acc', dacc', st4, zs, l9, h5, by rw [ey9, List.nil_append]⟩
    · have e : i = xs.length := by omega
      subst e
      rw [List.drop_length] at run2
      obtain ⟨rfl, rfl⟩ := ret_some run2
      rw [List.append_nil] at ey
      subst ey
      refine .inl ⟨yy.1 (Nat.le_refl _), ?_⟩
      refine q (.ref D) Z2 H2 ⟨s1.zz.trans l2.s.zz, l2.zh, fun a o h nb => ?_, fun a o h => ?_, fun _ => l2.sz⟩ l2.b ⟨⟨D, acc, rfl, l2.hD, l2.r⟩, fun a ea _ => ?_⟩
      · have h' := s1.hh a o h nb
        have hne : a ≠ D := ne_of_none h' hD
        have := l2.s.hh a o (by rw [upd_ne hne]; exact h') nb
        rwa [upd_ne hne] at this
      · rcases l2.s.nw a o h with w | w
        · exact s1.nw a o w
        · by_cases e : a = D
          · subst e; rw [l2.zD] at h; cases h
          · rw [upd_ne e] at w
            cases q' : H a with
            | none => exact .inr rfl
            | some u => rw [s1.hh a u q' (l2.zh a o h).2] at w; cases w
      · cases ea
        exact ⟨fresh_back r.box b1 s1 hD, l2.zD, nbD⟩
  · rw [if_neg hys] at hm2; exact (stuck_some hm2).elim
theorem Ok.lc2 {scope : Scope} (own : List (Str × Nat)) (vs1 : List Nat) {mi : M S (List D)} {f : D → M S (List D)} (hi : OkI false C Γ tg iter mi)
    (hb : ∀ d, BindOk (C.blk scope) (wipeΓ Γ (own.map (·.2))) [tg] [d] (fun i => i ∈ own.map (·.2)) (fun Γ' n => ∃ mt mi1 f1, OkTs (C.blk scope) Γ' ifs mt ∧ OkI true (C.blk scope) Γ' tg1 iter1 mi1 ∧
      (∀ d1, BindOk (C.blk scope) (wipeΓ Γ' vs1) [tg1] [d1] (fun i => i ∈ vs1) (fun Γ2 n1 => ∃ mt1 me, OkTs (C.blk scope) Γ2 ifs1 mt1 ∧ Ok .E (C.blk scope) Γ2 elt me ∧ n1 = eltM mt1 me) (f1 d1)) ∧ n = elt2M mt mi1 f1) (f d))
    (hv : ∀ i ∈ vs1, i ∈ own.map (·.2) := by decide) (ok : blkC C.N C.sc scope own = true := by (try dsimp only [Stat.blk]); decide +kernel) (hs : ∀ (env : Env) x, foldedSetIterable iter env x = pure x := by intro _ _; rfl) (hs1 : ∀ (env : Env) x, foldedSetIterable iter1 env x = pure x := by intro _ _; rfl) :
    OkC C Γ (.ListComp elt [⟨tg, iter, ifs, 0⟩, ⟨tg1, iter1, ifs1, 0⟩] scope pos) (bnd mi fun xs => bnd (compLL f xs) fun ys => if ys.length ≤ sizeLine then Sn.ret (.lst ys) else Sn.stuck) := by
  refine ⟨fun X hX W σ Z H st d st' Q r hm q => ?_, fun X hX i y py spos hN hyl hsw W σ Z H st d st' r hm => ?_⟩
  · exact tU_of (pe_lc2 (own := own) (vs1 := vs1) hX.calm (by rw [hX.N]; exact hX.nd) piU (blkOk_by (by rw [hX.N, hX.sc]; exact ok)) hv bG_ok bT_ok bI_ok bG_ok bT_ok bE_ok (hs _) hs1) (lc2_rd own vs1 hi hb X hX W σ Z H st d st' Q r hm q)
  · exact ⟨_, ps_setLc2 (own := own) (vs1 := vs1) hX.calm (by rw [hX.N]; exact hX.nd) (by rw [hX.N]; exact hN) (by rw [hX.sc]; exact hyl) hsw piU (blkOk_by (by rw [hX.N, hX.sc]; exact ok)) hv bG_ok bT_ok bI_ok bG_ok bT_ok bE_ok (hs _) hs1, fun Q q => lc2_rd own vs1 hi hb X hX W σ Z H st d st' Q r hm q⟩
end
section
variable {S : Type}
def comp2M (mi : M S (List D)) (f : D → M S (List D)) : M S D := bnd mi fun xs => bnd (compLL f xs) fun ys => if ys.length ≤ sizeLine then ret (.lst ys) else stuck
end
end Sn

namespace Sn
open PySem PySem.Spec PyProof.Rows L2
/-! ### methods of lists, as expressions -/
def mU (X : Cx) (id : String) : V → List V → Hp → VK → Prop := fun x xs H Q => ∀ (pins : List (Addr × Obj)) (s : Shared) (σ : L2.St) (v : Value) (us : List Value), Inv X pins σ H s → RelV x v → Vals xs us → wpAny (model X.prog X.w) X.A (call (.builtin id) (v :: us)) (EP X pins σ Q) X.xe s
theorem mrU {X : Cx} {id : String} : MtR X id (mU X id) := fun pins s σ H x xs v us Q I rx r h => h pins s σ v us I rx r
theorem mU_of {X : Cx} {id : String} {r : V → List V → Hp → VK → Prop} {x : V} {xs : List V} {H : Hp} {Q : VK} (h : MtR X id r) (q : r x xs H Q) : mU X id x xs H Q := fun pins s σ v us I rx r' => h pins s σ H x xs v us Q I rx r' q
/-- a method of a list, by data -/
def OpM (C : Stat) (id : String) (g : List D → List D → Option D) : Prop :=
  ∀ X, CtxP C X → ∀ {S : Type} [BoxS S] (W : Wd) (Z H : Hp) (st : S) (p : Addr) (vs : List V) (ds : List D) (xs : List V) (dxs : List D) (d : D) (Q : VK), (∀ a o, Z a = some o → H a = some o ∧ ¬ W.bx a) → Sz H → BoxS.R st W.β W.γ H →
    H p = some (.lst vs) → RepL X.K W.β Z ds vs → ResL X.K W (dxs.map fun _ => Md.V) H Z H dxs xs → g ds dxs = some d →
    (∀ v Z' H', Stp W Z H Z' H' → BoxS.R st W.β W.γ H' → Res X.K W .N H Z' H' d v → Q v H') → mU X id (.ref p) xs H Q
def mlD (g : List D → List D → Option D) (x : D) (xs : List D) : Option D :=
  match x with
  | .lst ds => g ds xs
  | _ => none
section
variable {S : Type} [BoxS S] {C : Stat} {Γ : SCx} {e a b : Expr} {es : List Expr} {m ma mb : M S D} {md : Md} {mds : List Md} {ap cp : Pos}
theorem Ok.mlist {id : String} {name : Str} {g : List D → List D → Option D} {mr : M S (List D)} (ho : OpM C id g) (slot : Slot "list" name id) (hty : typeOf (.builtin id) = pure (.type "method_descriptor")) (ha : Ok .V C Γ a ma) (hes : OkA mds C Γ (e :: es) mr)
    (hp : plainArg e = true := by rfl) (hbase : ∀ env : Env, attributeBase a name env (eval a env) = eval a env := by intro _; rfl)
    (hfew : ∀ env : Env, ((backTo cp (starEach (e :: es) env)).all (fun x => !x.1) && (backToKw cp (keywordEach [] env)).all (fun x => x.1.isSome) && decide ((e :: es).length + ([] : List Keyword).length + (if ([] : List Keyword).isEmpty then 0 else 1) < 30)) = true := by intro _; rfl)
    (hline : (ap.endLine == cp.line) = true := by rfl) (hpl : ∀ env : Env, (backTo cp (starEach es env)).any (·.1) = false := by intro _; rfl) :
    Ok .N C Γ (.Call (.Attribute a name ap) (e :: es) [] cp) (bnd ma fun x => bnd mr fun xs => lift (mlD g x xs)) := fun X hX W σ Z H st d st' Q r hm q => by
  obtain ⟨x, st1, h1, hm1⟩ := bnd_some hm
  obtain ⟨xs, st2, h2, hm2⟩ := bnd_some hm1
  obtain ⟨hg, rfl⟩ := lift_some hm2
  cases x with
  | lst ds =>
    refine tU_of (pe_bm PySem.F.plainAttrs_list slot hty mrU peU paU (hbase _) (hfew _) hline (starEach_plain _ hp) (hpl _)) ?_
    refine ha X hX W σ Z H st _ st1 _ r h1 fun v Z1 H1 s1 b1 r1 => ?_
    have nb := r1.2
    obtain ⟨p, vs, rfl, hq, l⟩ := r1.1
    refine ⟨.inl ⟨rfl, _, .inl (.inl hq)⟩, ?_⟩
    refine hes X hX W σ Z1 H1 st1 xs _ _ (r.step s1 b1) h2 fun us Z2 H2 s2 b2 r2 => ?_
    have s12 := s1.trans s2
    exact ho X hX W Z2 H2 _ p vs ds us xs d Q s12.zh (s12.sz r.sz) b2 (s2.hh _ _ hq (nb p rfl rfl)) (l.mono s2.zz) (r2.views s2.zh) hg fun v Z' H' s' b' r' => q v Z' H' (s12.trans s') b' (r'.back r.box b2 s12)
  | _ => cases hg
end
def countD (ds xs : List D) : Option D :=
  match xs with
  | [.int k] => (asInts ds).map fun is => .int (is.count k : Nat)
  | _ => none
theorem o_count {C : Stat} : OpM C "list.count" countD := fun X hX S _ W Z H st p vs ds xs dxs d Q zh sz bx hq l r0 hg q => by
  match dxs, hg with
  | [.int k], hg =>
    obtain ⟨is, e, rfl⟩ := Option.map_eq_some_iff.mp hg
    obtain ⟨v, rfl, r⟩ := r0.one
    cases r
    have := asInts_rep l e
    subst this
    exact mU_of mt_lcount ⟨p, is, k, rfl, rfl, .inl (.inl hq), fin_plain zh bx (.int _) rfl q⟩
section
variable {S : Type}
def mlM (g : List D → List D → Option D) (ma : M S D) (mr : M S (List D)) : M S D := bnd ma fun x => bnd mr fun xs => lift (mlD g x xs)
end
end Sn

namespace Sn
open PySem PySem.Spec PyProof.Rows L2
/-! ### dicts whose keys are ints and texts -/
def kq : D → Option Key
  | .int i => some (.inl i)
  | .str x => some (.inr x)
  | _ => none
theorem kq_keyD (k : Key) : kq (keyD k) = some k := by cases k <;> rfl
theorem keyD_of {d : D} {k : Key} (h : kq d = some k) : d = keyD k := by
  cases d <;> first | (cases h; rfl) | cases h
def dget (ds : List (D × D)) (k : Key) : Option D := (ds.find? fun p => decide (kq p.1 = some k)).map (·.2)
def dput (ds : List (D × D)) (k : Key) (v : D) : List (D × D) :=
  if (ds.any fun p => decide (kq p.1 = some k)) = true then ds.map (fun p => if kq p.1 = some k then (p.1, v) else p) else ds ++ [(keyD k, v)]
section
variable {K : PySem.W.Frag} {β : Addr} {Z : Hp}
theorem kq_same {k j : Key} : decide (kq (keyD k) = some j) = decide (k = j) := by
  rw [kq_keyD, decide_eq_decide]
  exact ⟨fun h => Option.some.inj h, fun h => by rw [h]⟩
theorem RepK.get {k : Key} : ∀ {ds : List (D × D)} {kvs : List (Key × V)}, RepK K β Z ds kvs → (dget ds k = none ∧ valV kvs k = none) ∨ ∃ d v, dget ds k = some d ∧ valV kvs k = some v ∧ Rep K β Z d v
  | _, _, .nil => .inl ⟨rfl, rfl⟩
  | _, _, .cons (k := k') (d := d) (v := v) (ds := ds') h r => by
    by_cases e : k' = k
    · refine .inr ⟨d, v, ?_, valV_pos e, h⟩
      unfold dget
      rw [List.find?_cons, kq_same, decide_eq_true e]
      rfl
    · have e2 : dget ((keyD k', d) :: ds') k = dget ds' k := by
        unfold dget
        rw [List.find?_cons, kq_same, decide_eq_false e]
      rw [e2, valV_neg (p := (k', v)) e]
      exact RepK.get r
theorem RepK.any {k : Key} : ∀ {ds : List (D × D)} {kvs : List (Key × V)}, RepK K β Z ds kvs → (ds.any fun p => decide (kq p.1 = some k)) = kvs.any fun kv => decide (kv.1 = k)
  | _, _, .nil => rfl
  | _, _, .cons h r => by rw [List.any_cons, List.any_cons, kq_same, RepK.any r]
theorem RepK.repl {k : Key} {d : D} {v : V} (q : Rep K β Z d v) : ∀ {ds : List (D × D)} {kvs : List (Key × V)}, RepK K β Z ds kvs → RepK K β Z (ds.map fun p => if kq p.1 = some k then (p.1, d) else p) (kvs.map fun kv => if kv.1 = k then (kv.1, v) else kv)
  | _, _, .nil => .nil
  | _, _, .cons (k := k') (d := d') (v := v') h r => by
    rw [List.map_cons, List.map_cons]
    by_cases e : k' = k
    · rw [if_pos (by rw [kq_keyD, e] : kq (keyD k', d').1 = some k), if_pos (e : (k', v').1 = k)]
      exact .cons q (RepK.repl q r)
    · rw [if_neg (fun h => e (Option.some.inj ((kq_keyD k').symm.trans h)) : ¬ kq (keyD k', d').1 = some k), if_neg (e : ¬ (k', v').1 = k)]
      exact .cons h (RepK.repl q r)
theorem RepK.app {k : Key} {d : D} {v : V} (q : Rep K β Z d v) : ∀ {ds : List (D × D)} {kvs : List (Key × V)}, RepK K β Z ds kvs → RepK K β Z (ds ++ [(keyD k, d)]) (kvs ++ [(k, v)])
  | _, _, .nil => .cons q .nil
  | _, _, .cons h r => .cons h (RepK.app q r)
theorem RepK.put {k : Key} {d : D} {v : V} {ds : List (D × D)} {kvs : List (Key × V)} (r : RepK K β Z ds kvs) (q : Rep K β Z d v) : RepK K β Z (dput ds k d) (putK kvs k v) := by
  unfold dput putK
  rw [r.any]
  split
  · exact RepK.repl q r
  · exact RepK.app q r
theorem RepT.false : ∀ {es : List (D × D)} {us : List (List Key × V)}, RepT K β Z es us → False
  | _, _, .cons _ r => RepT.false r
theorem RepK.length : ∀ {ds : List (D × D)} {kvs : List (Key × V)}, RepK K β Z ds kvs → ds.length = kvs.length
  | _, _, .nil => rfl
  | _, _, .cons _ r => by rw [List.length_cons, List.length_cons, RepK.length r]
theorem kV_rep {k : Key} {v : V} {d : D} (e : d = keyD k) (r : Rep K β Z d v) : v = kV k := by
  subst e
  cases k with
  | inl i => cases r; rfl
  | inr x => cases r; rfl
end
section
variable {S : Type} [BoxS S] {C : Stat} {Γ : SCx} {e a b c : Expr} {es : List Expr} {m ma mb mc : M S D} {md : Md} {mds : List Md} {pos ap cp : Pos}
/-- {} -/
theorem Ok.dnew : Ok (S := S) .N C Γ (.Dict [] [] pos) (ret (.dct [])) := fun X hX W σ Z H st d st' Q r hm q => by
  obtain ⟨rfl, rfl⟩ := ret_some hm
  refine tU_of pe_dnewK fun p hp => ?_
  have s2 := Stp.layH (o := .dK []) r.zh hp trivial
  refine q _ _ _ s2 (box_lay r.box hp) ⟨⟨p, rfl, .inl ⟨[], upd_same, .nil⟩⟩, fun a ea _ => ?_⟩
  cases ea
  exact ⟨hp, z_none r.zh hp, BoxS.bxThere r.box hp⟩
/-- a[k] of a dict -/
def dixD (x k : D) : Option D :=
  match x with
  | .dct ds => (kq k).bind (dget ds)
  | _ => none
/-- a[k]: lists, tuples, texts, dicts -/
def ix2D (x k : D) : Option D :=
  match x with
  | .dct ds => (kq k).bind (dget ds)
  | x => ixD x k
theorem Ok.ix2 (ha : Ok .V C Γ a ma) (hb : Ok .V C Γ b mb) (hs : PlainIx b := by exact fun _ _ => rfl) (hn : NoSl b := by exact fun _ _ => rfl) : Ok .E C Γ (.Subscript a b pos) (bnd ma fun x => bnd mb fun y => lift (ix2D x y)) := fun X hX W σ Z H st d st' Q r hm q => by
  obtain ⟨x, st1, h1, hm1⟩ := bnd_some hm
  obtain ⟨y, st2, h2, hm2⟩ := bnd_some hm1
  obtain ⟨hg, rfl⟩ := lift_some hm2
  have other : ixD x y = some d → tU X (.Subscript a b pos) σ H Q := fun hg' => by
    refine Ok.ix (pos := pos) ha hb hs X hX W σ Z H st d _ Q r ?_ q
    show bnd ma _ st = _
    unfold bnd
    rw [h1]
    show bnd mb _ st1 = _
    unfold bnd
    rw [h2]
    show lift (ixD x y) st' = _
    rw [hg']; rfl
  cases x with
  | dct ds =>
    obtain ⟨k, hk, hg2⟩ := Option.bind_eq_some_iff.mp (show (kq y).bind (dget ds) = some d from hg)
    refine tU_of (pe_dget (by have := hX.units; omega) peU peU hn) (Ok.two ha hb hX r h1 h2 fun vx vy Z2 H2 s2 b2 r1 r2 => ?_)
    have ey := keyD_of hk
    subst ey
    have ev : vy = kV k := by
      cases k with
      | inl i => cases r2.1; rfl
      | inr z => cases r2.1; rfl
    subst ev
    obtain ⟨p, rfl, ⟨kvs, hq, l⟩ | ⟨kvs, hq, l⟩⟩ := r1.1
    · rcases l.get (k := k) with ⟨g1, g2⟩ | ⟨d', v, g1, g2, g3⟩
      · rw [hg2] at g1; cases g1
      · rw [hg2] at g1; cases g1
        exact ⟨p, v, rfl, by rw [← g2]; exact DGet.k hq, q v Z2 H2 s2 b2 g3⟩
    · exact l.false.elim
  | _ => exact other hg
/-- d.get(k, z) -/
def dgetD (x k z : D) : Option D :=
  match x with
  | .dct ds => (kq k).map fun k => (dget ds k).getD z
  | _ => none
theorem Ok.get2 (ha : Ok .V C Γ a ma) (hb : Ok .V C Γ b mb) (hc : Ok .E C Γ c mc) (hm : ∀ X, CtxP C X → M2 X a "get" ap b c cp) : Ok .E C Γ (.Call (.Attribute a "get" ap) [b, c] [] cp) (bnd ma fun x => bnd mb fun y => bnd mc fun z => lift (dgetD x y z)) := fun X hX W σ Z H st d st' Q r hm' q => by
  obtain ⟨x, st1, h1, hm1⟩ := bnd_some hm'
  obtain ⟨y, st2, h2, hm2⟩ := bnd_some hm1
  obtain ⟨z, st3, h3, hm3⟩ := bnd_some hm2
  obtain ⟨hg, rfl⟩ := lift_some hm3
  cases x with
  | dct ds =>
    obtain ⟨k, hk, rfl⟩ := Option.map_eq_some_iff.mp (show (kq y).map (fun k => (dget ds k).getD z) = some d from hg)
    refine tU_of (pe_dget2 (by have := hX.units; omega) peU peU peU (hm X hX)) ?_
    refine ha X hX W σ Z H st _ st1 _ r h1 fun v1 Z1 H1 s1 b1 r1 => ?_
    have rr1 := r.step s1 b1
    have nb := r1.2
    obtain ⟨p, rfl, hd⟩ := r1.1
    refine ⟨p, rfl, hd.elim (fun ⟨kvs, hq, _⟩ => .inl ⟨kvs, .inl hq⟩) (fun ⟨kvs, hq, _⟩ => .inr ⟨kvs, .inl hq⟩), ?_⟩
    refine hb X hX W σ Z1 H1 st1 y st2 _ rr1 h2 fun v2 Z2 H2 s2 b2 r2 => ?_
    have ey := keyD_of hk
    subst ey
    have ev : v2 = kV k := by
      cases k with
      | inl i => cases r2.1; rfl
      | inr z => cases r2.1; rfl
    subst ev
    refine hc X hX W σ Z2 H2 st2 z _ _ (rr1.step s2 b2) h3 fun v3 Z3 H3 s3 b3 r3 => ?_
    have s23 := s2.trans s3
    have s13 := s1.trans s23
    rcases hd with ⟨kvs, hq, l⟩ | ⟨kvs, hq, l⟩
    · have hq3 := s23.hh _ _ hq (nb p rfl rfl)
      have l3 : RepK X.K W.β Z3 ds kvs := l.mono s23.zz
      refine ⟨valV kvs k, DGet.k hq3, ?_⟩
      rcases l3.get (k := k) with ⟨g1, g2⟩ | ⟨d', v, g1, g2, g3⟩
      · rw [g2]
        rw [g1] at q
        exact q v3 Z3 H3 s13 b3 r3
      · rw [g2]
        rw [g1] at q
        exact q v Z3 H3 s13 b3 g3
    · exact l.false.elim
  | _ => cases hg
end
/-- d[k] = e -/
def dsetD (d k y : D) : Option D :=
  match d with
  | .dct ds => if ds.length < sizeLine then (kq k).map fun k => .dct (dput ds k y) else none
  | _ => none
section
variable {S : Type} [BoxS S] {C : Stat} {Γ : SCx} {e b : Expr} {rest : List Stmt} {me mk : M S D} {pos p pp : Pos} {τ l : Type} {T : Tg τ l} {i : Nat} {x : Str} {d : D}
theorem OkB.dset {k : D → M S (Fl τ l)} (hN : C.N[i]? = some x) (hv : Vis C.sc x) (h0 : Γ[i]? = some (some (.own d))) (he : Ok .E C Γ e me) (hk : Ok .V C Γ b mk) (hb : ∀ d', OkB C (Γ.set i (some (.own d'))) rest T (k d'))
    (hd : (x == ("__debug__" : Str)) = false := by decide) (hcd : (x == ("__classdict__" : Str)) = false := by decide) (hs : ∀ env : Env, swapsWith e (some (.Subscript (.Name x p) b pp)) pos.line env = pure false := by intro _; rfl) :
    OkB C Γ (.Assign [.Subscript (.Name x p) b pp] e pos :: rest) T (bnd me fun y => bnd mk fun j => bnd (lift (dsetD d j y)) k) := fun X hX W σ Z H st f st' D r hm q => by
  obtain ⟨y, st1, h1, hm1⟩ := bnd_some hm
  obtain ⟨j, st2, h2, hm2⟩ := bnd_some hm1
  obtain ⟨d', st3, h3, hm3⟩ := bnd_some hm2
  obtain ⟨hg, rfl⟩ := lift_some h3
  cases d with
  | dct ds =>
    have hg' : (if ds.length < sizeLine then (kq j).map fun k => Sn.D.dct (dput ds k y) else none) = some d' := hg
    split at hg'
    · rename_i hl
      obtain ⟨kk, hkk, rfl⟩ := Option.map_eq_some_iff.mp hg'
      refine tUS_of (pss_cons (ps_dput (by have := hX.units; omega) (pe_var (i := i) (by rw [hX.N]; exact hN) (by rw [hX.sc]; exact hv) hd hcd) peU peU (hs _)) pssU) ?_
      refine he X hX W σ Z H st y _ _ r h1 fun v Z1 H1 s1 b1 r1 => ?_
      have rr := r.step s1 b1
      obtain ⟨pa, ep, z, nb, mu, lr⟩ := rr.own i _ h0
      refine ⟨_, ep, ?_⟩
      refine hk X hX W σ Z1 H1 st1 _ _ _ rr h2 fun vj Z2 H2 s2 b2 r2 => ?_
      have rr2 := rr.step s2 b2
      have ey := keyD_of hkk
      subst ey
      have ev : vj = kV kk := by
        cases kk with
        | inl i => cases r2.1; rfl
        | inr z => cases r2.1; rfl
      subst ev
      obtain ⟨p', ea, ⟨kvs, hq, l⟩ | ⟨kvs, hq, l⟩⟩ := lr
      · cases ea
        have hq1 := s2.hh _ _ hq nb
        have ll := l.length
        refine ⟨pa, upd H2 pa (.dK (putK kvs kk v)), rfl, DPut.k hq1 (by rw [← ll]; exact hl), ?_⟩
        refine hb _ X hX W σ Z2 (upd H2 pa (.dK (putK kvs kk v))) _ f st' D (rr2.mut (d' := Sn.D.dct (dput ds kk y)) h0 ep rfl ⟨pa, rfl, .inl ⟨_, upd_same, (l.mono s2.zz).put (r1.mono s2.zz)⟩⟩ trivial) hm3 ?_
        exact (q.after (s1.trans s2).bst OwLe.refl (Γ1 := Γ) (σ1 := σ)).after (bst_mut rr2 h0 ep trivial) fun a h => .inl (own_mut h0 h)
      · exact l.false.elim
    · cases hg'
  | _ => cases hg
end
end Sn

namespace Sn
open PySem PySem.Spec PyProof.Rows L2
/-! ### sorted -/
theorem sorted_one : ∀ {a b : List Int}, a.Perm b → a.Pairwise (· ≤ ·) → b.Pairwise (· ≤ ·) → a = b
  | [], b, h, _, _ => (List.nil_perm.mp h).symm ▸ rfl
  | x :: a, [], h, _, _ => by have := h.length_eq; simp at this
  | x :: a, y :: b, h, ha, hb => by
    have hx : x ∈ y :: b := h.mem_iff.mp List.mem_cons_self
    have hy : y ∈ x :: a := h.mem_iff.mpr List.mem_cons_self
    have e : x = y := by
      rcases List.mem_cons.mp hx with q | q
      · exact q
      · rcases List.mem_cons.mp hy with q2 | q2
        · exact q2.symm
        · have h1 := (List.pairwise_cons.mp hb).1 x q
          have h2 := (List.pairwise_cons.mp ha).1 y q2
          omega
    subst e
    rw [sorted_one (h.cons_inv) (List.pairwise_cons.mp ha).2 (List.pairwise_cons.mp hb).2]
def sortI (is : List Int) : List Int := is.mergeSort fun a b => decide (a ≤ b)
theorem sortI_perm (is : List Int) : (sortI is).Perm is := List.mergeSort_perm _ _
theorem sortI_le (is : List Int) : (sortI is).Pairwise (· ≤ ·) := by
  have := List.pairwise_mergeSort (le := fun a b : Int => decide (a ≤ b)) (fun a b c h1 h2 => by simp at h1 h2 ⊢; omega) (fun a b => by simp; omega) is
  exact this.imp fun h => of_decide_eq_true h
theorem sortI_of {is ys : List Int} (h : ys.Perm is) (h2 : ys.Pairwise (· ≤ ·)) : ys = sortI is := sorted_one (h.trans (sortI_perm is).symm) h2 (sortI_le is)
def sortedD : List D → Option D
  | [.lst xs] => (asInts xs).map fun is => .lst ((sortI is).map .int)
  | [.dct ds] => (asInts (ds.map (·.1))).bind fun is => if is.length < 64 then some (.lst ((sortI is).map .int)) else none
  | _ => none
theorem repL_ints {K : PySem.W.Frag} {β : Addr} {Z : Hp} : ∀ is : List Int, RepL K β Z (is.map D.int) (is.map V.int)
  | [] => .nil
  | i :: is => .cons (.int i) (repL_ints is)
theorem RepK.keysI {K : PySem.W.Frag} {β : Addr} {Z : Hp} : ∀ {ds : List (D × D)} {kvs : List (Key × V)} {is : List Int}, RepK K β Z ds kvs → asInts (ds.map (·.1)) = some is → kvs.map (·.1) = is.map Sum.inl
  | _, _, _, .nil, h => by cases h; rfl
  | _, _, is, .cons (k := k) (ds := ds) h r, e => by
    cases k with
    | inl i =>
      rw [List.map_cons] at e
      obtain ⟨js, e2, rfl⟩ := Option.map_eq_some_iff.mp (show (asInts (ds.map (·.1))).map (fun is => i :: is) = some is from e)
      rw [List.map_cons, List.map_cons, RepK.keysI r e2]
    | inr x => cases e
theorem o_sorted {C : Stat} : OpL C (.builtin "sorted") sortedD := fun X hX S _ W Z H st xs dxs d Q zh sz bx r0 hg q => by
  match dxs, hg with
  | [.lst ds], hg =>
    obtain ⟨is, e, rfl⟩ := Option.map_eq_some_iff.mp hg
    obtain ⟨v, rfl, r⟩ := r0.one
    obtain ⟨a, vs, rfl, h, l⟩ := r
    have ev := asInts_rep l e
    subst ev
    refine cU_of cr_sortedI ⟨a, is, rfl, .inl (.inl h), fun ys p hp hs hn => ?_⟩
    rw [sortI_of hp hs]
    have hl : ((sortI is).map V.int).length ≤ sizeLine := by rw [List.length_map, (sortI_perm is).length_eq]; have := sz.lst h; rw [List.length_map] at this; exact this
    exact fin_lst zh bx hn (repL_ints _) hl q
  | [.dct ds], hg =>
    obtain ⟨is, e, hg2⟩ := Option.bind_eq_some_iff.mp hg
    split at hg2
    · rename_i h64
      cases hg2
      obtain ⟨v, rfl, r⟩ := r0.one
      obtain ⟨a, rfl, ⟨kvs, h, l⟩ | ⟨kvs, h, l⟩⟩ := r
      · refine cU_of (call_sortedDI hX.calm) ⟨a, kvs, is, rfl, .inl h, l.keysI e, h64, fun ys p hp hs hn => ?_⟩
        rw [sortI_of hp hs]
        exact fin_lst zh bx hn (repL_ints _) (by rw [List.length_map, (sortI_perm is).length_eq, sizeLine_eq]; omega) q
      · exact l.false.elim
    · cases hg2
/-! ### dict(..) -/
def asKV : List D → Option (List (Key × D))
  | [] => some []
  | .tup [k, v] :: ds => (kq k).bind fun k => (asKV ds).map fun r => (k, v) :: r
  | _ => none
def dictD : List D → Option D
  | [.lst ps] => (asKV ps).map fun r => .dct (r.foldl (fun acc p => dput acc p.1 p.2) [])
  | [.dct ds] => some (.dct ds)
  | _ => none
theorem asKV_rep {K : PySem.W.Frag} {β : Addr} {Z H : Hp} (zh : Sub Z H) : ∀ {ds : List D} {vs : List V} {r : List (Key × D)}, RepL K β Z ds vs → asKV ds = some r → ∃ (ps : List Addr) (kvs : List (Key × V)), vs = ps.map V.ref ∧ Paired (fun p kv => SqT K H p [kV kv.1, kv.2]) ps kvs ∧ (∀ {acc : List (D × D)} {acc' : List (Key × V)}, RepK K β Z acc acc' → RepK K β Z (r.foldl (fun acc p => dput acc p.1 p.2) acc) (mergeK acc' kvs))
  | _, _, _, .nil, h => by cases h; exact ⟨[], [], rfl, .nil, fun q => q⟩
  | _, _, r, .cons (d := d) (ds := ds) h t, e => by
    cases d with
    | tup xs =>
      match xs, e with
      | [k, v], e =>
        obtain ⟨kk, hk, e2⟩ := Option.bind_eq_some_iff.mp (show (kq k).bind (fun k => (asKV ds).map fun r => (k, v) :: r) = some r from e)
        obtain ⟨r', e3, rfl⟩ := Option.map_eq_some_iff.mp e2
        obtain ⟨ps, kvs, rfl, h2, h3⟩ := asKV_rep zh t e3
        cases h with
        | tup hq l =>
          cases l with
          | cons l1 l =>
            cases l with
            | cons l2 l =>
              cases l
              have ek := kV_rep (keyD_of hk) l1
              subst ek
              exact ⟨_ :: ps, (kk, _) :: kvs, rfl, .cons (zh.sqT hq) h2, fun q => h3 (q.put l2)⟩
    | _ => cases e
theorem o_dict {C : Stat} : OpL C (.type "dict") dictD := fun X hX S _ W Z H st xs dxs d Q zh sz bx r0 hg q => by
  have fin : ∀ {p : Addr} {ds : List (D × D)} {kvs : List (Key × V)}, H p = none → RepK X.K W.β Z ds kvs → (∀ v Z' H', Stp W Z H Z' H' → BoxS.R st W.β W.γ H' → Res X.K W .N H Z' H' (.dct ds) v → Q v H') → Q (.ref p) (upd H p (.dK kvs)) := fun {p ds kvs} hp hr q => by
    have s2 := Stp.layH (o := .dK kvs) zh hp trivial
    refine q _ _ _ s2 (box_lay bx hp) ⟨⟨p, rfl, .inl ⟨kvs, upd_same, hr⟩⟩, fun a ea _ => ?_⟩
    cases ea
    exact ⟨hp, z_none zh hp, BoxS.bxThere bx hp⟩
  match dxs, hg with
  | [.lst ps], hg =>
    obtain ⟨r', e, rfl⟩ := Option.map_eq_some_iff.mp hg
    obtain ⟨v, rfl, r⟩ := r0.one
    obtain ⟨a, vs, rfl, h, l⟩ := r
    obtain ⟨as, kvs, rfl, h2, h3⟩ := asKV_rep (subOf zh) l e
    exact cU_of (call_dictP hX.calm) ⟨a, as, kvs, rfl, .inl (.inl h), h2, fun p hp => fin hp (h3 .nil) q⟩
  | [.dct ds], hg =>
    cases hg
    obtain ⟨v, rfl, r⟩ := r0.one
    obtain ⟨a, rfl, ⟨kvs, h, l⟩ | ⟨kvs, h, l⟩⟩ := r
    · exact cU_of call_dictD ⟨a, kvs, rfl, .inl h, fun p hp => fin hp l q⟩
    · exact l.false.elim
section
variable {S : Type} {τ l : Type}
def ix2M (ma mb : M S D) : M S D := bnd ma fun x => bnd mb fun y => lift (ix2D x y)
def get2M (ma mb mc : M S D) : M S D := bnd ma fun x => bnd mb fun y => bnd mc fun z => lift (dgetD x y z)
def dsetM (d : D) (me mk : M S D) (k : D → M S (Fl τ l)) : M S (Fl τ l) := bnd me fun y => bnd mk fun j => bnd (lift (dsetD d j y)) k
end
end Sn

namespace Sn
open PySem PySem.Spec PyProof.Rows L2
/-! ### sorted, min, max, < of any plain data -/
def ltB (x y : D) : Bool := PySem.W.dataLt (toPy x) (toPy y)
def leB (x y : D) : Bool := !ltB y x
def alB (x y : D) : Bool := PySem.W.alike (toPy x) (toPy y)
def isTupD : D → Bool
  | .tup (_ :: _) => true
  | _ => false
def othD : D → Bool
  | .non => false
  | .tup _ => false
  | _ => true
structure SrtOk (xs : List D) : Prop where
  sh : ∀ x ∈ xs, shD x = true
  dp : ∀ x ∈ xs, (toPy x).depth ≤ 60
  al : ∀ x ∈ xs, ∀ y ∈ xs, alB x y = true
  kd : (∀ x ∈ xs, isTupD x = true) ∨ ∀ x ∈ xs, othD x = true
def sortL (xs : List D) : List D := xs.mergeSort leB
theorem toPys_map : ∀ xs : List D, toPys xs = xs.map toPy
  | [] => rfl
  | x :: xs => by rw [toPys, toPys_map xs, List.map_cons]
def rSortedG (K : PySem.W.Frag) : List V → Hp → VK → Prop := fun us H Q => ∃ (a : Addr) (vs : List V) (ds : List D), us = [V.ref a] ∧ SqL K H a vs ∧ DpAll K H vs (ds.map toPy) ∧ SrtOk ds ∧
  ∀ (bs : List (V × D)) (p : Addr), (vs.zip ds).Perm bs → bs.map (·.2) = sortL ds → H p = none → Q (.ref p) (upd H p (.lst (bs.map (·.1))))
theorem each_of {h : Heap} : ∀ {vs : List V} {us : List Value} {ds : List D} {as : List Addr}, Vals vs us → ReadsAll h us (ds.map toPy) as → PySem.W.EachIs (fun u (b : V × D) => RelV b.1 u) us (vs.zip ds) ∧ PySem.W.EachIs (fun u (b : V × D) => ∃ as, Reads h u (toPy b.2) as) us (vs.zip ds) ∧ (vs.zip ds).map (·.2) = ds ∧ (vs.zip ds).map (·.1) = vs
  | _, _, [], _, .nil, .nil => ⟨.nil, .nil, rfl, rfl⟩
  | _, _, d :: ds, _, .cons r rs, .cons q qs => by
    obtain ⟨h1, h2, h3, h4⟩ := each_of rs qs
    exact ⟨.cons r h1, .cons ⟨_, q⟩ h2, by rw [List.zip_cons_cons, List.map_cons, h3], by rw [List.zip_cons_cons, List.map_cons, h4]⟩
theorem each_vals : ∀ {us : List Value} {bs : List (V × D)}, PySem.W.EachIs (fun u (b : V × D) => RelV b.1 u) us bs → Vals (bs.map (·.1)) us
  | _, _, .nil => .nil
  | _, _, .cons h r => .cons h (each_vals r)
theorem SrtOk.all {xs : List D} (h : SrtOk xs) : PySem.W.AllAlike (xs.map toPy) := by
  intro d hd d' hd'
  obtain ⟨x, hx, rfl⟩ := List.mem_map.mp hd
  obtain ⟨y, hy, rfl⟩ := List.mem_map.mp hd'
  exact h.al x hx y hy
theorem SrtOk.sortable {xs : List D} (h : SrtOk xs) : PySem.W.Sortable (xs.map toPy) := by
  rcases h.kd with k | k
  · refine .inl fun d hd => ?_
    obtain ⟨x, hx, rfl⟩ := List.mem_map.mp hd
    have := k x hx
    match x, this with
    | .tup (y :: r), _ => exact ⟨toPy y, toPys r, rfl⟩
  · refine .inr fun d hd => ?_
    obtain ⟨x, hx, rfl⟩ := List.mem_map.mp hd
    have := k x hx
    have s := h.sh x hx
    cases x with
    | non => cases this
    | tup _ => cases this
    | bl _ => exact ⟨by simp [toPy], by simp [toPy]⟩
    | int _ => exact ⟨by simp [toPy], by simp [toPy]⟩
    | str _ => exact ⟨by simp [toPy], by simp [toPy]⟩
    | lst _ => exact ⟨by simp [toPy], by simp [toPy]⟩
    | dct _ => simp [shD, SeqAt.shaped, toPy, PyData.canLay0] at s
    | box => simp [shD, SeqAt.shaped, toPy, PyData.canLay0] at s
theorem shD_depth {x : D} (h : shD x = true) : (toPy x).depth ≤ 64 := SeqAt.depth_of_shaped h
theorem dataLe_map (bs : List (V × D)) : (bs.mergeSort (PySem.W.dataLe false fun b : V × D => toPy b.2)).map (·.2) = sortL (bs.map (·.2)) := by
  unfold sortL
  rw [List.map_mergeSort]
  intro a _ b _
  rfl
theorem cr_sortedG {X : Cx} (hu : X.A.units + 65 < cLine) : CallR X (.builtin "sorted") (rSortedG X.K) := by
  intro pins s σ H us vs Q I r h
  obtain ⟨a, ws, ds, rfl, hs, hd, ok, q⟩ := h
  obtain ⟨its, rv, hl, hz⟩ := I.list hs
  rw [Vals.ref1 r]
  obtain ⟨as, ra⟩ := Dp.readsAll I _ _ _ hd rv
  obtain ⟨e1, e2, e3, e4⟩ := each_of rv ra
  refine PySem.W.sorted_data (enc := fun b : V × D => toPy b.2) hl.isList e1 e2 ?_ ?_ ?_ (fun b hb => ?_) fun out hlen eo => ?_
  · have := ok.all
    rw [← e3, List.map_map] at this
    exact this
  · have := ok.sortable
    rw [← e3, List.map_map] at this
    exact this
  · have := congrArg List.length e4
    rw [List.length_map] at this
    omega
  · have hb2 : b.2 ∈ ds := by rw [← e3]; exact List.mem_map.mpr ⟨b, hb, rfl⟩
    have := ok.dp _ hb2
    omega
  · obtain ⟨ep, he'⟩ := PyProof.Rows.sortedAll_at s.heap its out.toArray
    have hv := each_vals eo
    have hperm := (List.mergeSort_perm (ws.zip ds) (PySem.W.dataLe false fun b : V × D => toPy b.2)).symm
    have hlen2 : (((ws.zip ds).mergeSort (PySem.W.dataLe false fun b : V × D => toPy b.2)).map (·.1)).length ≤ sizeLine := by
      rw [List.length_map, ← hperm.length_eq]
      have := congrArg List.length e4
      rw [List.length_map] at this
      omega
    exact ⟨.ref _, upd H (s.heap.objs.size + 1) (.lst _), I.laid (t' := s.toks) (fun _ _ => PyProof.Rows.sortedAll_old) (Nat.le_succ _) ⟨hlen2, out, ep, hv, he'⟩, rfl, q _ _ hperm (by rw [dataLe_map, e3]) (I.hok.fresh (Nat.le_succ _))⟩
theorem RepL.zip {K : PySem.W.Frag} {β : Addr} {Z : Hp} : ∀ {ds : List D} {vs : List V}, RepL K β Z ds vs → ∀ b ∈ vs.zip ds, Rep K β Z b.2 b.1
  | _, _, .nil, _, h => by cases h
  | _, _, .cons r t, b, h => by
    rw [List.zip_cons_cons, List.mem_cons] at h
    rcases h with rfl | h
    · exact r
    · exact RepL.zip t b h
theorem repL_pairs {K : PySem.W.Frag} {β : Addr} {Z : Hp} : ∀ {bs : List (V × D)}, (∀ b ∈ bs, Rep K β Z b.2 b.1) → RepL K β Z (bs.map (·.2)) (bs.map (·.1))
  | [], _ => .nil
  | b :: bs, h => .cons (h b List.mem_cons_self) (repL_pairs fun c hc => h c (List.mem_cons_of_mem _ hc))
open Classical in
noncomputable def sorted2D (xs : List D) : Option D :=
  match xs with
  | [.lst xs] => if SrtOk xs then some (.lst (sortL xs)) else none
  | [.dct ds] => sortedD [.dct ds]
  | _ => none
theorem sorted2_lst {xs : List D} (h : SrtOk xs) : sorted2D [.lst xs] = some (.lst (sortL xs)) := if_pos h
theorem sorted2_inv {xs : List D} {d : D} (h : sorted2D xs = some d) : (∃ ds, xs = [.lst ds] ∧ SrtOk ds ∧ d = .lst (sortL ds)) ∨ ∃ ds, xs = [.dct ds] ∧ sortedD [.dct ds] = some d := by
  unfold sorted2D at h
  split at h
  · rename_i ds
    by_cases c : SrtOk ds
    · rw [if_pos c] at h
      exact .inl ⟨ds, rfl, c, (Option.some.inj h).symm⟩
    · rw [if_neg c] at h; cases h
  · exact .inr ⟨_, rfl, h⟩
  · cases h
theorem shD_lay {x : D} (h : shD x = true) : (toPy x).canLay0 = true := SeqAt.canLay_of_shaped h
theorem RepL.dpM {K : PySem.W.Frag} {β : Addr} {Z : Hp} : ∀ {ds : List D} {vs : List V}, RepL K β Z ds vs → (∀ x ∈ ds, shD x = true) → DpAll K Z vs (ds.map toPy)
  | _, _, .nil, _ => .nil
  | _, _, .cons r t, h => .cons (Rep.dp r (shD_lay (h _ List.mem_cons_self))) (RepL.dpM t fun x hx => h x (List.mem_cons_of_mem _ hx))
theorem o_sorted2 {C : Stat} : OpL C (.builtin "sorted") sorted2D := fun X hX S _ W Z H st xs dxs d Q zh sz bx r0 hg q => by
  rcases sorted2_inv hg with ⟨ds, rfl, ok, rfl⟩ | ⟨ds, rfl, hg⟩
  · obtain ⟨v, rfl, r⟩ := r0.one
    obtain ⟨a, vs, rfl, h, l⟩ := r
    have hz := sz.lst h
    refine cU_of (cr_sortedG (by have := hX.units; omega)) ⟨a, vs, ds, rfl, .inl (.inl h), dpAll_mono (subOf zh) (l.dpM ok.sh), ok, fun bs p hp he hn => ?_⟩
    have hb : ∀ b ∈ bs, Rep X.K W.β Z b.2 b.1 := fun b hb => l.zip b (hp.mem_iff.mpr hb)
    have hl : (bs.map (·.1)).length ≤ sizeLine := by
      rw [List.length_map, ← hp.length_eq, List.length_zip]
      omega
    have := repL_pairs hb
    rw [he] at this
    exact fin_lst zh bx hn this hl q
  · exact o_sorted X hX W Z H st xs _ d Q zh sz bx r0 hg q
end Sn

namespace Sn
open PySem PySem.Spec PyProof.Rows L2
/-! ### several at once -/
/-- what is told of a value to be stored: kept for good, or an own list or dict -/
inductive Vok (K : PySem.W.Frag) (W : Wd) (Z H : Hp) : Md → D → V → List Addr → Prop
  | frz {d : D} {v : V} : Rep K W.β Z d v → Vok K W Z H .E d v []
  | own {d : D} {p : Addr} : isMut d = true → Rep1 K W.β Z H d (.ref p) → Z p = none → ¬ W.bx p → H p ≠ none → Vok K W Z H .N d (.ref p) [p]
inductive Voks (K : PySem.W.Frag) (W : Wd) (H0 Z H : Hp) : List Md → List D → List V → List Addr → Prop
  | nil : Voks K W H0 Z H [] [] [] []
  | cons {md : Md} {d : D} {v : V} {as bs : List Addr} {mds : List Md} {ds : List D} {vs : List V} : Vok K W Z H md d v as → (∀ a ∈ as, H0 a = none ∧ a ∉ bs) → Voks K W H0 Z H mds ds vs bs → Voks K W H0 Z H (md :: mds) (d :: ds) (v :: vs) (as ++ bs)
def okMds : List Md → List D → Bool
  | [], [] => true
  | md :: mds, d :: ds => okMd md d && okMds mds ds
  | _, _ => false
def OkV {S : Type} [BoxS S] (mds : List Md) (C : Stat) (Γ : SCx) (es : List Expr) (m : M S (List D)) : Prop :=
  ∀ X, CtxP C X → ∀ (W : Wd) (σ : L2.St) (Z H : Hp) (st : S) (ds : List D) (st' : S) (Q : List V → Hp → Prop), SR X.K W Γ σ Z H st → m st = some (ds, st') → okMds mds ds = true →
    (∀ vs as Z' H', Stp W Z H Z' H' → BoxS.R st' W.β W.γ H' → Voks X.K W H Z' H' mds ds vs as → Q vs H') → tUA X es σ H Q
section
variable {S : Type} [BoxS S] {C : Stat} {Γ : SCx} {e : Expr} {es : List Expr} {m : M S D} {md : Md} {pos : Pos}
theorem Vok.stp {K : PySem.W.Frag} {W : Wd} {Z H Z' H' : Hp} {md : Md} {d : D} {v : V} {as : List Addr} (s : Stp W Z H Z' H') (h : Vok K W Z H md d v as) : Vok K W Z' H' md d v as := by
  cases h with
  | frz r => exact .frz (r.mono s.zz)
  | own mu r z nb hn =>
    obtain ⟨o, ho⟩ := Option.ne_none_iff_exists'.mp hn
    refine .own mu (r.mono s.zz fun a ea o h => ?_) ?_ nb (by rw [s.hh _ _ ho nb]; simp)
    · cases ea; exact s.hh _ _ h nb
    · cases q : Z' _ with
      | none => rfl
      | some o =>
        rcases s.nw _ _ q with w | w
        · rw [z] at w; cases w
        · exact absurd w hn
theorem Voks.stp {K : PySem.W.Frag} {W : Wd} {H0 Z H Z' H' : Hp} (s : Stp W Z H Z' H') : ∀ {mds : List Md} {ds : List D} {vs : List V} {as : List Addr}, Voks K W H0 Z H mds ds vs as → Voks K W H0 Z' H' mds ds vs as
  | _, _, _, _, .nil => .nil
  | _, _, _, _, .cons h1 h2 r => .cons (h1.stp s) h2 (Voks.stp s r)
theorem Voks.back {K : PySem.W.Frag} {W : Wd} {st st' : S} {H H0 Z Z' Z2 H2 : Hp} (b : BoxS.R st W.β W.γ H0) (b1 : BoxS.R st' W.β W.γ H) (s : Stp W Z H0 Z' H) : ∀ {mds : List Md} {ds : List D} {vs : List V} {as : List Addr}, Voks K W H Z2 H2 mds ds vs as → Voks K W H0 Z2 H2 mds ds vs as
  | _, _, _, _, .nil => .nil
  | _, _, _, _, .cons h1 h2 r => .cons h1 (fun a ha => ⟨fresh_back b b1 s (h2 a ha).1, (h2 a ha).2⟩) (Voks.back b b1 s r)
theorem Voks.fresh {K : PySem.W.Frag} {W : Wd} {H0 Z H : Hp} : ∀ {mds : List Md} {ds : List D} {vs : List V} {as : List Addr}, Voks K W H0 Z H mds ds vs as → ∀ a ∈ as, H0 a = none
  | _, _, _, _, .nil, _, h => by cases h
  | _, _, _, _, .cons h1 h2 r, a, h => by
    rcases List.mem_append.mp h with h | h
    · exact (h2 a h).1
    · exact r.fresh a h
theorem OkV.nil : OkV (S := S) [] C Γ [] (ret []) := fun X hX W σ Z H st d st' Q r hm ok q => by
  obtain ⟨rfl, rfl⟩ := ret_some hm
  exact tUA_of pa_nil (q [] [] Z H r.refl r.box .nil)
theorem OkV.cons {mds : List Md} {mr : M S (List D)} (ha : Ok md C Γ e m) (hr : OkV mds C Γ es mr) (hmd : md = .E ∨ md = .N := by first | exact .inl rfl | exact .inr rfl) (hp : plainArg e = true := by rfl) : OkV (md :: mds) C Γ (e :: es) (bnd m fun x => bnd mr fun xs => ret (x :: xs)) :=
  fun X hX W σ Z H st ds st' Q r hm ok q => by
  obtain ⟨x, st1, h1, hm_1⟩ := bnd_some hm
  obtain ⟨xs, st2, h2, hm_2⟩ := bnd_some hm_1
  obtain ⟨rfl, rfl⟩ := ret_some hm_2
  have ok' : okMd md x = true ∧ okMds mds xs = true := by rw [← Bool.and_eq_true]; exact ok
  refine tUA_of (pa_cons peU paU (starEach_plain _ hp)) ?_
  refine ha X hX W σ Z H st x st1 _ r h1 fun v Z1 H1 s1 b1 r1 => ?_
  refine hr X hX W σ Z1 H1 st1 xs _ _ (r.step s1 b1) h2 ok'.2 fun vs as Z2 H2 s2 b2 r2 => ?_
  have hv : ∃ bs, Vok X.K W Z1 H1 md x v bs ∧ ∀ a ∈ bs, H a = none ∧ H1 a ≠ none := by
    rcases hmd with rfl | rfl
    · exact ⟨[], .frz r1, fun a h => by cases h⟩
    · have mu : isMut x = true := ok'.1
      obtain ⟨q4, q5⟩ := r1
      have hv : ∃ p, v = .ref p ∧ H1 p ≠ none := by
        cases x with
        | lst ds => obtain ⟨b, vs, eb, hb, _⟩ := q4; exact ⟨b, eb, by rw [hb]; simp⟩
        | dct ds =>
          obtain ⟨b, eb, ⟨kvs, hb, _⟩ | ⟨kvs, hb, _⟩⟩ := q4
          · exact ⟨b, eb, by rw [hb]; simp⟩
          · exact ⟨b, eb, by rw [hb]; simp⟩
        | _ => cases mu
      obtain ⟨p, rfl, hn⟩ := hv
      obtain ⟨f1, f2, f3⟩ := q5 p rfl mu
      exact ⟨[p], .own mu q4 f2 f3 hn, fun a h => by rw [List.mem_singleton.mp h]; exact ⟨f1, hn⟩⟩
  obtain ⟨bs, hv1, hv2⟩ := hv
  exact q _ (bs ++ as) Z2 H2 (s1.trans s2) b2 (.cons (hv1.stp s2) (fun a ha => ⟨(hv2 a ha).1, fun hb => (hv2 a ha).2 (r2.fresh a hb)⟩) (r2.back r.box b1 s1))
end
/-- names' places -/
def NamesAt (C : Stat) : List Expr → List Nat → Prop
  | [], [] => True
  | .Name x _ :: ts, i :: is => C.N[i]? = some x ∧ Loc C.sc x ∧ (C.fn x = true ∨ C.sc.names.lookup x = some .local) ∧ NamesAt C ts is
  | _, _ => False
def setΓ : SCx → List Nat → List Md → List D → SCx
  | Γ, i :: is, md :: mds, d :: ds => setΓ (Γ.set i (some (mdEn md d))) is mds ds
  | Γ, _, _, _ => Γ
def setσ : L2.St → List Nat → List V → L2.St
  | σ, i :: is, v :: vs => setσ (σ.set i (some v)) is vs
  | σ, _, _ => σ
section
variable {S : Type} [BoxS S] {C : Stat}
theorem NamesAt.plain : ∀ {ts : List Expr} {is : List Nat}, NamesAt C ts is → ts.all plainTg = true ∧ ts.length = is.length
  | [], [], _ => ⟨rfl, rfl⟩
  | .Name x p :: ts, i :: is, h => by
    obtain ⟨h1, h2⟩ := NamesAt.plain h.2.2.2
    exact ⟨by rw [List.all_cons, h1]; rfl, by rw [List.length_cons, List.length_cons, h2]⟩
  | [], _ :: _, h => h.elim
  | .Name _ _ :: _, [], h => h.elim
theorem NamesAt.run {X : Cx} (hX : CtxP C X) : ∀ {ts : List Expr} {is : List Nat} {vs : List V} {σ : L2.St} {H : Hp} {Q : L2.St → Hp → Prop}, NamesAt C ts is → vs.length = is.length → Q (setσ σ is vs) H → tUGs X ts vs σ H Q
  | [], [], [], _, _, _, _, _, q => tUGs_of pgs_nil ⟨rfl, q⟩
  | .Name x p :: ts, i :: is, v :: vs, σ, H, Q, h, hl, q => by
    obtain ⟨hN, hx, hf, hr⟩ := h
    refine tUGs_of (pgs_cons (pg_name (i := i) (by rw [hX.N]; exact hX.nd) (by rw [hX.N]; exact hN) (by rw [hX.sc]; exact hx) (store_hyp hX hf)) pgsU (by rw [each_plain _ rfl]; rfl)) ⟨_, _, rfl, ?_⟩
    exact NamesAt.run hX hr (by simpa using hl) q
  | [], [], _ :: _, _, _, _, _, hl, _ => by cases hl
  | .Name _ _ :: _, _ :: _, [], _, _, _, _, hl, _ => by cases hl
  | [], _ :: _, _, _, _, _, h, _, _ => h.elim
  | .Name _ _ :: _, [], _, _, _, _, h, _, _ => h.elim
theorem Voks.len {K : PySem.W.Frag} {W : Wd} {H0 Z H : Hp} : ∀ {mds : List Md} {ds : List D} {vs : List V} {as : List Addr}, Voks K W H0 Z H mds ds vs as → mds.length = vs.length ∧ ds.length = vs.length
  | _, _, _, _, .nil => ⟨rfl, rfl⟩
  | _, _, _, _, .cons _ _ r => by
    obtain ⟨h1, h2⟩ := r.len
    exact ⟨by rw [List.length_cons, List.length_cons, h1], by rw [List.length_cons, List.length_cons, h2]⟩
/-- the slots stored -/
theorem Voks.store {K : PySem.W.Frag} {W : Wd} {H0 Z H : Hp} {st : S} : ∀ {mds : List Md} {ds : List D} {vs : List V} {as : List Addr} {is : List Nat} {Γ : SCx} {σ : L2.St}, Voks K W H0 Z H mds ds vs as → SR K W Γ σ Z H st → (∀ a ∈ as, ¬ ownA Γ σ a) →
    SR K W (setΓ Γ is mds ds) (setσ σ is vs) Z H st ∧ ∀ a, ownA (setΓ Γ is mds ds) (setσ σ is vs) a → ownA Γ σ a ∨ a ∈ as
  | _, _, _, _, [], Γ, σ, h, r, no => by
    cases h with
    | nil => exact ⟨r, fun a h => .inl h⟩
    | cons _ _ _ => exact ⟨r, fun a h => .inl h⟩
  | _, _, _, _, i :: is, Γ, σ, .nil, r, no => ⟨r, fun a h => .inl h⟩
  | _, _, _, _, i :: is, Γ, σ, .cons (bs := bs) h1 h2 t, r, no => by
    cases h1 with
    | frz q =>
      obtain ⟨g1, g2⟩ := t.store (is := is) (r.setF q (i := i)) fun a ha h => no a (List.mem_append_right _ ha) (own_setF h)
      exact ⟨g1, fun a h => (g2 a h).elim (fun h => .inl (own_setF h)) fun h => .inr (List.mem_append_right _ h)⟩
    | @own d p mu q z nb hn =>
      obtain ⟨g1, g2⟩ := t.store (is := is) (r.setO mu q z nb (no p (by simp)) (i := i)) fun a ha h => by
        rcases own_setO h with h | e
        · exact no a (List.mem_append_right _ ha) h
        · exact (h2 p (by simp)).2 (e ▸ ha)
      refine ⟨g1, fun a h => ?_⟩
      rcases g2 a h with h | h
      · rcases own_setO h with h | e
        · exact .inl h
        · exact .inr (by rw [e]; simp)
      · exact .inr (List.mem_append_right _ h)
/-- some name is not a plain local one: a tuple is made and taken apart -/
theorem swapped_none {sc : Scope} {env : Env} (he : env.scope = sc) {ts vs : List Expr} {kt k2 : Nat} {pt pt2 : Pos} (h : (ts.any fun t => match t with | .Name x _ => !decide (sc.names.lookup x = some .local) | _ => true) = true) :
    swappedStores [.Tuple ts kt pt] (.Tuple vs k2 pt2) env = pure none := by
  unfold swappedStores
  have hk : ∀ x, env.kindOf x = sc.names.lookup x := fun x => by rw [← he]; rfl
  have key : ∀ (line : Nat) (ts : List Expr), (ts.any fun t => match t with | .Name x _ => !decide (sc.names.lookup x = some .local) | _ => true) = true →
      (ts.filterMap fun | .Name id pos => if env.kindOf id == some .local && pos.line == line then some id else none | _ => none).length < ts.length := by
    intro line ts
    induction ts with
    | nil => intro h; cases h
    | cons t ts ih =>
      intro h
      have hle : ∀ ts : List Expr, (ts.filterMap fun | .Name id pos => if env.kindOf id == some .local && pos.line == line then some id else none | _ => none).length ≤ ts.length := fun ts => List.length_filterMap_le _ _
      rw [List.any_cons, Bool.or_eq_true] at h
      rw [List.filterMap_cons, List.length_cons]
      rcases h with h | h
      · have := hle ts
        cases t with
        | Name x p =>
          have hn : (env.kindOf x == some NameKind.local) = false := by
            rw [hk]
            simpa using h
          simp only [hn, Bool.false_and, Bool.false_eq_true, if_false]
          omega
        | _ => simp only; omega
      · have := ih h
        split
        · omega
        · rw [List.length_cons]; omega
  dsimp only
  split
  · rfl
  · split
    · rfl
    · rw [if_pos]
      · 
        rw [Bool.or_eq_true]
        left
        have := fun l => key l _ h
        simp only [bne_iff_ne, ne_eq]
        exact Nat.ne_of_lt (this _)
variable {Γ : SCx} {es : List Expr} {rest : List Stmt} {τ l : Type} {T : Tg τ l} {pos : Pos}
def parN (mds : List Md) (mr : M S (List D)) (k : List D → M S (Fl τ l)) : M S (Fl τ l) := bnd mr fun ds => if okMds mds ds = true then k ds else stuck
/-- several at once, one of them at least no plain local name -/
theorem OkB.parT {mds : List Md} {mr : M S (List D)} {tgs : List Expr} {is : List Nat} {kt k2 : Nat} {pt pt2 : Pos} {k : List D → M S (Fl τ l)} (hT : NamesAt C tgs is) (he : OkV mds C Γ es mr) (hlen : mds.length = is.length)
    (hb : ∀ ds, ds.length = mds.length → OkB C (setΓ Γ is mds ds) rest T (k ds))
    (h16 : tgs.length ≤ 16 := by decide) (hn : (tgs.any fun t => match t with | .Name x _ => !decide (C.sc.names.lookup x = some .local) | _ => true) = true := by rfl)
    (hs : ∀ env : Env, swapsWithSole [.Tuple tgs kt pt] (.Tuple es k2 pt2) pos.line env = pure false := by intro _; rfl)
    (h1 : ∀ env : Env, (assignEach [.Tuple tgs kt pt] env).map (·.2) = [assign (.Tuple tgs kt pt) env] := by intro _; rfl) :
    OkB C Γ (.Assign [.Tuple tgs kt pt] (.Tuple es k2 pt2) pos :: rest) T (parN mds mr k) := fun X hX W σ Z H st f st' D r hm q => by
  obtain ⟨ds, st1, h2, hm1⟩ := bnd_some hm
  split at hm1
  · rename_i hok
    obtain ⟨pl1, pl2⟩ := hT.plain
    refine tUS_of (pss_cons (ps_asg peU pgU (hs _) (swapped_none hX.sc hn) (h1 _)) pssU) ?_
    refine tU_of (pe_tup paU) (he X hX W σ Z H st ds st1 _ r h2 hok fun vs as Z1 H1 s1 b1 v1 => ?_)
    obtain ⟨l1, l2⟩ := v1.len
    have hle : vs.length ≤ sizeLine := by rw [← l1, hlen, ← pl2, sizeLine_eq]; omega
    refine ⟨hle, fun p hp => ?_⟩
    have s2 := Stp.layH (o := .tup vs) s1.zh hp hle
    have s3 := s1.trans s2
    refine tUG_of (pg_tup (n := tgs.length) hX.calm pgsU (each_len _ pl1).1 (each_len _ pl1).2) ⟨_, _, rfl, .inl (.inl upd_same), by rw [pl2, ← hlen, l1], NamesAt.run hX hT (by rw [← l1, hlen]) ?_⟩
    have rr := r.step s3 (box_lay b1 hp)
    have vv : Voks X.K W H Z1 (upd H1 p (.tup vs)) mds ds vs as := v1.stp s2
    have no : ∀ a ∈ as, ¬ ownA Γ σ a := fun a ha h => by
      obtain ⟨o, ho⟩ := r.ownThere h
      rw [v1.fresh a ha] at ho; cases ho
    obtain ⟨g1, g2⟩ := vv.store (is := is) rr no
    refine hb ds (by rw [l2, l1]) X hX W _ Z1 _ st1 f st' D g1 hm1 (q.after s3.bst fun a h => ?_)
    exact (g2 a h).elim .inl fun h => .inr (v1.fresh a h)
  · exact (stuck_some hm1).elim
/-- three local names on a line -/
theorem swapped_three {env : Env} {x y z : Str} {px py pz pt pt2 : Pos} {kt k2 : Nat} {u v w : Expr} (hk : env.scope.kind = .function) (hx : env.scope.names.lookup x = some .local) (hy : env.scope.names.lookup y = some .local) (hz : env.scope.names.lookup z = some .local) (hl : (px.line == py.line) = true) (hl2 : (px.line == pz.line) = true)
    (hu : plainArg u = true) (hv : plainArg v = true) (hw : plainArg w = true) (hne : (y == x) = false) (hne2 : (z == x) = false) (hne3 : (z == y) = false) (hf : [u, v, w].all (foldedForSure 8) = false) (hc : [u, v, w].all (constantsAlone 8) = false) :
    swappedStores [.Tuple [.Name x px, .Name y py, .Name z pz] kt pt] (.Tuple [u, v, w] k2 pt2) env = pure (some [x, y, z]) := by
  have kx : env.kindOf x = some .local := hx
  have ky : env.kindOf y = some .local := hy
  have kz : env.kindOf z = some .local := hz
  have hb : env.blockKind = .function := by unfold Env.blockKind; rw [hk]; rfl
  have hl' : (py.line == px.line) = true := by rw [beq_iff_eq] at hl ⊢; exact hl.symm
  have hl2' : (pz.line == px.line) = true := by rw [beq_iff_eq] at hl2 ⊢; exact hl2.symm
  unfold swappedStores
  simp only [hb, List.length_cons, List.length_nil, List.head?_cons, Option.map_some, Option.getD_some, Expr.pos, List.filterMap_cons, List.filterMap_nil, kx, ky, kz, hl', hl2', hf, hc, beq_self_eq_true, Bool.and_self, if_true]
  have hd : ([x, y, z].eraseDups).length = 3 := by
    simp [List.eraseDups, List.eraseDupsBy, List.eraseDupsBy.loop, hne, hne2, hne3]
  rw [if_neg (by decide), if_neg (by
    intro h
    simp only [List.any_cons, List.any_nil, Bool.or_false, Bool.or_eq_true] at h
    rcases h with h | h | h
    · cases u <;> first | (cases h; done) | (cases hu; done)
    · cases v <;> first | (cases h; done) | (cases hv; done)
    · cases w <;> first | (cases h; done) | (cases hw; done)), hd]
  rfl
theorem OkB.par3 {u v w : Expr} {mr : M S (List D)} {m1 m2 m3 : Md} {i j l3 : Nat} {x y z : Str} {px py pz pt pt2 : Pos} {kt k2 : Nat} {k : List D → M S (Fl τ l)} (hN : C.N[i]? = some x) (hN2 : C.N[j]? = some y) (hN3 : C.N[l3]? = some z) (hij : i ≠ j) (hil : i ≠ l3) (hjl : j ≠ l3) (hfk : C.sc.kind = .function)
    (hx : C.sc.names.lookup x = some .local) (hy : C.sc.names.lookup y = some .local) (hz : C.sc.names.lookup z = some .local) (he : OkV [m1, m2, m3] C Γ [u, v, w] mr)
    (hb : ∀ ds, ds.length = 3 → OkB C (setΓ Γ [i, j, l3] [m1, m2, m3] ds) rest T (k ds))
    (hl : (px.line == py.line) = true := by rfl) (hl2 : (px.line == pz.line) = true := by rfl) (pu : plainArg u = true := by rfl) (pv : plainArg v = true := by rfl) (pw : plainArg w = true := by rfl) (hne : (y == x) = false := by decide) (hne2 : (z == x) = false := by decide) (hne3 : (z == y) = false := by decide) (hf : [u, v, w].all (foldedForSure 8) = false := by rfl) (hc : [u, v, w].all (constantsAlone 8) = false := by rfl)
    (hs : ∀ env : Env, swapsWithSole [.Tuple [.Name x px, .Name y py, .Name z pz] kt pt] (.Tuple [u, v, w] k2 pt2) pos.line env = pure false := by intro _; rfl) :
    OkB C Γ (.Assign [.Tuple [.Name x px, .Name y py, .Name z pz] kt pt] (.Tuple [u, v, w] k2 pt2) pos :: rest) T (parN [m1, m2, m3] mr k) := fun X hX W σ Z H st f st' D r hm q => by
  obtain ⟨ds, st1, h2, hm1⟩ := bnd_some hm
  split at hm1
  · rename_i hok
    refine tUS_of (pss_cons (ps_par3 hX.calm (i := i) (j := j) (l := l3) (by rw [hX.N]; exact hX.nd) (by rw [hX.N]; exact hN) (by rw [hX.N]; exact hN2) (by rw [hX.N]; exact hN3) hij hil hjl (by rw [hX.sc]; exact hx) (by rw [hX.sc]; exact hy) (by rw [hX.sc]; exact hz) paU
      (swapped_three (by rw [hX.sc]; exact hfk) (by rw [hX.sc]; exact hx) (by rw [hX.sc]; exact hy) (by rw [hX.sc]; exact hz) hl hl2 pu pv pw hne hne2 hne3 hf hc) (hs _)) pssU) ?_
    refine he X hX W σ Z H st ds st1 _ r h2 hok fun vs as Z1 H1 s1 b1 v1 => ?_
    obtain ⟨l1, l2⟩ := v1.len
    match vs, l1, l2, v1 with
    | [v1', v2', v3'], l1, l2, v1 =>
      refine ⟨v1', v2', v3', rfl, ?_⟩
      have rr := r.step s1 b1
      have no : ∀ a ∈ as, ¬ ownA Γ σ a := fun a ha h => by
        obtain ⟨o, ho⟩ := r.ownThere h
        rw [v1.fresh a ha] at ho; cases ho
      obtain ⟨g1, g2⟩ := v1.store (is := [i, j, l3]) rr no
      refine hb ds l2 X hX W _ Z1 _ st1 f st' D g1 hm1 (q.after s1.bst fun a h => ?_)
      exact (g2 a h).elim .inl fun h => .inr (v1.fresh a h)
  · exact (stuck_some hm1).elim
/-! ### two, three at once: the same with each value's letter -/
def par3M (m1 m2 m3 : Md) (a b c : M S D) (k : D → D → D → M S (Fl τ l)) : M S (Fl τ l) := bnd a fun x => bnd b fun y => bnd c fun z => if okMd m1 x = true ∧ okMd m2 y = true ∧ okMd m3 z = true then k x y z else stuck
theorem parM_eq {m1 m2 : Md} {a b : M S D} {k : D → D → M S (Fl τ l)} : parM m1 m2 a b k = parN [m1, m2] (bnd a fun x => bnd (bnd b fun y => bnd (Sn.ret []) fun xs => Sn.ret (y :: xs)) fun xs => Sn.ret (x :: xs)) fun ds => match ds with | [x, y] => k x y | _ => stuck := by
  unfold parM parN
  simp only [bnd_bnd, bnd_ret, okMds, Bool.and_true, Bool.and_eq_true]
theorem par3M_eq {m1 m2 m3 : Md} {a b c : M S D} {k : D → D → D → M S (Fl τ l)} : par3M m1 m2 m3 a b c k = parN [m1, m2, m3] (bnd a fun x => bnd (bnd b fun y => bnd (bnd c fun z => bnd (Sn.ret []) fun xs => Sn.ret (z :: xs)) fun xs => Sn.ret (y :: xs)) fun xs => Sn.ret (x :: xs)) fun ds => match ds with | [x, y, z] => k x y z | _ => stuck := by
  unfold par3M parN
  simp only [bnd_bnd, bnd_ret, okMds, Bool.and_true, Bool.and_eq_true]
theorem OkB.parT2 {m1 m2 : Md} {u v : Expr} {a b : M S D} {i j : Nat} {x y : Str} {px py pt pt2 : Pos} {kt k2 : Nat} {k : D → D → M S (Fl τ l)} (hN : C.N[i]? = some x) (hN2 : C.N[j]? = some y) (hx : Loc C.sc x) (hy : Loc C.sc y) (fx : C.fn x = true ∨ C.sc.names.lookup x = some .local) (fy : C.fn y = true ∨ C.sc.names.lookup y = some .local)
    (hu : Ok m1 C Γ u a) (hv : Ok m2 C Γ v b) (e1 : m1 = .E ∨ m1 = .N) (e2 : m2 = .E ∨ m2 = .N) (hb : ∀ d e, OkB C ((Γ.set i (some (mdEn m1 d))).set j (some (mdEn m2 e))) rest T (k d e))
    (pu : plainArg u = true := by rfl) (pv : plainArg v = true := by rfl) (hn : (!decide (C.sc.names.lookup x = some .local) || (!decide (C.sc.names.lookup y = some .local) || false)) = true := by rfl)
    (hs : ∀ env : Env, swapsWithSole [.Tuple [.Name x px, .Name y py] kt pt] (.Tuple [u, v] k2 pt2) pos.line env = pure false := by intro _; rfl) :
    OkB C Γ (.Assign [.Tuple [.Name x px, .Name y py] kt pt] (.Tuple [u, v] k2 pt2) pos :: rest) T (parM m1 m2 a b k) := by
  rw [parM_eq]
  exact OkB.parT (is := [i, j]) ⟨hN, hx, fx, hN2, hy, fy, True.intro⟩ (OkV.cons hu (OkV.cons hv OkV.nil e2 pv) e1 pu) rfl (fun ds hl => match ds, hl with | [d, e], _ => hb d e) (by simp) hn hs (by intro _; rfl)
theorem OkB.parT3 {m1 m2 m3 : Md} {u v w : Expr} {a b c : M S D} {i j h : Nat} {x y z : Str} {px py pz pt pt2 : Pos} {kt k2 : Nat} {k : D → D → D → M S (Fl τ l)} (hN : C.N[i]? = some x) (hN2 : C.N[j]? = some y) (hN3 : C.N[h]? = some z) (hx : Loc C.sc x) (hy : Loc C.sc y) (hz : Loc C.sc z) (fx : C.fn x = true ∨ C.sc.names.lookup x = some .local) (fy : C.fn y = true ∨ C.sc.names.lookup y = some .local) (fz : C.fn z = true ∨ C.sc.names.lookup z = some .local)
    (hu : Ok m1 C Γ u a) (hv : Ok m2 C Γ v b) (hw : Ok m3 C Γ w c) (e1 : m1 = .E ∨ m1 = .N) (e2 : m2 = .E ∨ m2 = .N) (e3 : m3 = .E ∨ m3 = .N) (hb : ∀ d e f, OkB C (((Γ.set i (some (mdEn m1 d))).set j (some (mdEn m2 e))).set h (some (mdEn m3 f))) rest T (k d e f))
    (pu : plainArg u = true := by rfl) (pv : plainArg v = true := by rfl) (pw : plainArg w = true := by rfl) (hn : (!decide (C.sc.names.lookup x = some .local) || (!decide (C.sc.names.lookup y = some .local) || (!decide (C.sc.names.lookup z = some .local) || false))) = true := by rfl)
    (hs : ∀ env : Env, swapsWithSole [.Tuple [.Name x px, .Name y py, .Name z pz] kt pt] (.Tuple [u, v, w] k2 pt2) pos.line env = pure false := by intro _; rfl) :
    OkB C Γ (.Assign [.Tuple [.Name x px, .Name y py, .Name z pz] kt pt] (.Tuple [u, v, w] k2 pt2) pos :: rest) T (par3M m1 m2 m3 a b c k) := by
  rw [par3M_eq]
  exact OkB.parT (is := [i, j, h]) ⟨hN, hx, fx, hN2, hy, fy, hN3, hz, fz, True.intro⟩ (OkV.cons hu (OkV.cons hv (OkV.cons hw OkV.nil e3 pw) e2 pv) e1 pu) rfl (fun ds hl => match ds, hl with | [d, e, f], _ => hb d e f) (by simp) hn hs (by intro _; rfl)
theorem OkB.parL3 {m1 m2 m3 : Md} {u v w : Expr} {a b c : M S D} {i j h : Nat} {x y z : Str} {px py pz pt pt2 : Pos} {kt k2 : Nat} {k : D → D → D → M S (Fl τ l)} (hN : C.N[i]? = some x) (hN2 : C.N[j]? = some y) (hN3 : C.N[h]? = some z) (hij : i ≠ j) (hil : i ≠ h) (hjl : j ≠ h) (hfk : C.sc.kind = .function)
    (hx : C.sc.names.lookup x = some .local) (hy : C.sc.names.lookup y = some .local) (hz : C.sc.names.lookup z = some .local) (hu : Ok m1 C Γ u a) (hv : Ok m2 C Γ v b) (hw : Ok m3 C Γ w c) (e1 : m1 = .E ∨ m1 = .N) (e2 : m2 = .E ∨ m2 = .N) (e3 : m3 = .E ∨ m3 = .N)
    (hb : ∀ d e f, OkB C (((Γ.set i (some (mdEn m1 d))).set j (some (mdEn m2 e))).set h (some (mdEn m3 f))) rest T (k d e f))
    (hl : (px.line == py.line) = true := by rfl) (hl2 : (px.line == pz.line) = true := by rfl) (pu : plainArg u = true := by rfl) (pv : plainArg v = true := by rfl) (pw : plainArg w = true := by rfl) (hne : (y == x) = false := by decide) (hne2 : (z == x) = false := by decide) (hne3 : (z == y) = false := by decide) (hf : [u, v, w].all (foldedForSure 8) = false := by rfl) (hc : [u, v, w].all (constantsAlone 8) = false := by rfl)
    (hs : ∀ env : Env, swapsWithSole [.Tuple [.Name x px, .Name y py, .Name z pz] kt pt] (.Tuple [u, v, w] k2 pt2) pos.line env = pure false := by intro _; rfl) :
    OkB C Γ (.Assign [.Tuple [.Name x px, .Name y py, .Name z pz] kt pt] (.Tuple [u, v, w] k2 pt2) pos :: rest) T (par3M m1 m2 m3 a b c k) := by
  rw [par3M_eq]
  exact OkB.par3 hN hN2 hN3 hij hil hjl hfk hx hy hz (OkV.cons hu (OkV.cons hv (OkV.cons hw OkV.nil e3 pw) e2 pv) e1 pu) (fun ds hl => match ds, hl with | [d, e, f], _ => hb d e f) hl hl2 pu pv pw hne hne2 hne3 hf hc hs
/-! ### x += e -/
def augD (g : Int → Int → Int) : D → D → Option D
  | .int i, .int j => some (.int (g i j))
  | _, _ => none
theorem OkB.augI {i : Nat} {x : Str} {d : D} {op : Operator} {g : Int → Int → Int} {e : Expr} {m : M S D} {md : Md} {p : Pos} {k : D → M S (Fl τ l)} (ho : ∀ X, PIp X op (ipI g)) (hN : C.N[i]? = some x) (hx : Loc C.sc x) (hf : C.fn x = true ∨ C.sc.names.lookup x = some .local) (h0 : Γ[i]? = some (some (.frz d))) (he : Ok md C Γ e m)
    (hb : ∀ d', OkB C (Γ.set i (some (.frz d'))) rest T (k d')) : OkB C Γ (.AugAssign (.Name x p) op e pos :: rest) T (bnd m fun y => bnd (lift (augD g d y)) k) := fun X hX W σ Z H st f st' D r hm q => by
  obtain ⟨y, st1, h1, hm1⟩ := bnd_some hm
  obtain ⟨d', st2, h2, hm2⟩ := bnd_some hm1
  obtain ⟨hg, rfl⟩ := lift_some h2
  match d, y, hg with
  | .int a, .int b, hg =>
    cases hg
    obtain ⟨v, ev, rv⟩ := r.frz i _ h0
    cases rv
    refine tUS_of (pss_cons (ps_aug (i := i) (by rw [hX.N]; exact hX.nd) (by rw [hX.N]; exact hN) (by rw [hX.sc]; exact hx) peU (ho X) (store_hyp hX hf)) pssU) ?_
    refine ⟨_, ev, he X hX W σ Z H st _ _ _ r h1 fun v Z1 H1 s1 b1 r1 => ?_⟩
    have hv : Rep X.K W.β Z1 (.int b) v := (r1.view s1.zh).1
    cases hv
    refine ⟨a, b, rfl, rfl, ?_⟩
    exact hb _ X hX W _ Z1 H1 st2 f st' D ((r.step s1 b1).setF (.int _)) hm2 (q.after s1.bst fun a h => .inl (own_setF h))
end
end Sn

namespace Sn
open PySem PySem.Spec PyProof.Rows L2
/-! ### enumerate -/
/-- the tuple at a, each item with its number -/
def IteT (K : PySem.W.Frag) (a : Addr) : It :=
  ⟨fun i H => ∃ (xs : List V) (x : V), SqT K H a xs ∧ xs[i]? = some x, fun i H v H' => ∃ T x, v = .ref T ∧ H T = none ∧ H' = upd H T (.tup [.int (i : Nat), x]) ∧ ∀ xs, SqT K H a xs → xs[i]? = some x, fun i H => ∃ xs : List V, SqT K H a xs ∧ xs.length ≤ i⟩
theorem draws_end {prog : Program} {w : World} {A : Around} (hh : A.handled = none) (it t : Addr) (items : Array Value) (i : Nat) (hx : items.size ≤ i) :
    Draws prog w A it [it, t] i (fun _ _ => True) (fun j h => j = i ∧ h.IsTupleIter it t i ∧ h.IsTuple t items) where
  live := fun _ _ st => let ⟨o, ho, _⟩ := st.2.1; ⟨o, ho⟩
  frame := fun _ _ _ st hk => ⟨st.1, st.2.1.at fun o e => hk it (by simp) o e, st.2.2.at fun o e => hk t (by simp) o e⟩
  item := fun j s Q E hi st hQ => by have := st.1; omega
  done := fun s Q E st hE => wpAny_nextOf_tuple_end hh st.2.1 st.2.2 (by simp; omega) hE
theorem turn_enumT {P : Program} {w : World} {K : PySem.W.Frag} {elts : List Expr} {kk : Nat} {tpos : Pos} (a e it : Addr) :
    Turn P w K (.Tuple elts kk tpos) (IteT K a) [e, it] e (fun i h => (∃ old, IsEnum h e it ((i : Nat) : Int) old) ∧ h.IsTupleIter it a i ∧ e ≠ it ∧ a ≠ it ∧ e ≠ a) where
  mem := by simp
  obj := fun i h st b hb => by
    obtain ⟨⟨old, he⟩, ⟨o, ho, hc, hd⟩, _⟩ := st
    have e' : b = e ∨ b = it := by simpa using hb
    rcases e' with z | z
    · rw [z]; exact ⟨_, he, fun v q => nomatch q⟩
    · rw [z]; exact ⟨o, ho, fun v q => by rw [hd] at q; cases q⟩
  keep := fun i h h' st k => let ⟨⟨old, he⟩, hi, hne⟩ := st; ⟨⟨old, k e (by simp) _ he⟩, hi.at fun o q => k it (by simp) o q, hne⟩
  item := by
    intro X hP hw hK hc i pins s σ H E I hf st hg
    subst hP hw hK
    obtain ⟨⟨old, he⟩, hit, hne, hai, hea⟩ := st
    obtain ⟨xs, x, hq, hx⟩ := hg
    obtain ⟨its, rv, p, hz⟩ := I.tuple hq
    obtain ⟨u, hu, ru⟩ := rv.get hx
    have hel : e < s.heap.objs.size := Heap.lt_size he
    have hil : it < s.heap.objs.size := by obtain ⟨_, q, _⟩ := hit; exact Heap.lt_size q
    have hlt : i < its.toArray.size := by
      have := rv.length
      have := List.getElem?_eq_some_iff.mp hx
      obtain ⟨h1, _⟩ := this
      simp only [List.size_toArray]
      omega
    refine wpAny_pyNext_enum_itemC (Draws.tuple (A := X.A.in1) (by exact I.ok.hd hc) it a hai its.toArray) he ⟨hit, p⟩ hlt hne (by simp; exact ⟨hne, hea⟩) fun u' h' tk hP ho ⟨hit', _⟩ hT hsz hk => ?_
    have eu : u' = u := by
      have h1 : its.toArray[i]? = some u := by simpa using hu
      rw [hP] at h1
      exact Option.some.inj h1
    subst eu
    refine ⟨_, rfl, wpAny_letOwnedTupleGo_enum (s := { s with heap := h', toks := tk + 1 }) ho fun h'' he' sb => ?_⟩
    have hT2 : h''.get? s.heap.objs.size = some { cls := .type "tuple", data := .seq #[.int i tk, u'] } := (sb.2 _ (Nat.ne_of_gt hel)).trans hT
    have new : ObjOk X.prog X.w (upd H s.heap.objs.size (.tup [.int (i : Nat), x])) h'' s.heap.objs.size (.tup [.int (i : Nat), x]) :=
      ⟨by show 2 ≤ sizeLine; decide, [.int i tk, u'], .cons ⟨_, rfl⟩ (.cons ru .nil), ⟨_, hT2, rfl, _, rfl⟩⟩
    have I1 : Inv X pins σ (upd H s.heap.objs.size (.tup [.int (i : Nat), x])) { s with heap := h'', toks := tk + 1 } :=
      I.turnedNew (ch := [e, it]) (fun b ob hb q => (sb.2 b (fun z => hb (by simp [z]))).trans (hk b ob (fun z => hb (by simp [z])) (fun z => hb (by simp [z])) q)) hf (Nat.le_refl _) new
    refine ⟨.ref s.heap.objs.size, _, I1, rfl, ⟨_, x, rfl, I.hok.fresh (Nat.le_refl _), rfl, fun ys hy => by rw [I.tuple_inj hy hq]; exact hx⟩, ⟨⟨u', ?_⟩, hit'.at fun o q => (sb.2 it (Ne.symm hne)).trans q, hne, hai, hea⟩, fun b hb => ?_⟩
    · have e1 : ((i + 1 : Nat) : Int) = (i : Int) + 1 := by omega
      rw [e1]; exact he'
    · have hb' : b < s.heap.objs.size := by
        have e' : b = e ∨ b = it := by simpa using hb
        rcases e' with z | z
        · rw [z]; exact hel
        · rw [z]; exact hil
      rw [upd_ne (Nat.ne_of_lt hb')]
      exact (hf b hb).1
  done := by
    intro X hP hw hK hc i pins s σ H E I hf st hg
    subst hP hw hK
    obtain ⟨⟨old, he⟩, hit, hne, hai, hea⟩ := st
    obtain ⟨xs, hq, hx⟩ := hg
    obtain ⟨its, rv, p, hz⟩ := I.tuple hq
    obtain ⟨f0, f1, f2, f3, f4, f5⟩ := hf it (by simp)
    have hl := rv.length
    exact wpAny_pyNext_enum_endD (draws_end (A := X.A.in1) (by exact I.ok.hd hc) it a its.toArray i (by simp; omega)) he ⟨rfl, hit, p⟩ fun h' eb => ⟨rfl, I.turned (t' := s.toks) (fun b o hb q => eb b o hb q) f0 f1 f3 f4 f5⟩
  self := fun A i s Q E st h => let ⟨⟨_, he⟩, _⟩ := st; wpAny_pyIter_enum he h
set_option maxHeartbeats 1000000 in
theorem meets_enumerate_new1 {v : Value} {o : Obj} {H : Heap → Prop} (B : Begins v o H) :
    Meets (Builtin.«enumerate.__new__» ⟨[.type "enumerate", v], []⟩) (fun _ R s => H s.heap ∧
      R (.ok (.ret (.ref (s.heap.push o).objs.size))) { s with heap := (s.heap.push o).push { cls := .type "enumerate", data := .fields #[.none, .bool false, .ref s.heap.objs.size, rawInt 0, .none, .none] } }) :=
  .of_wp fun prog w A R s h => by
    obtain ⟨hp, g, d, tk, os⟩ := s; obtain ⟨h1, h⟩ := h
    have hsub := sub_enumerate
    have q1 : ∀ {A' : Around} {E : Value → Shared → Prop} {Q : Value → Shared → Prop}, Q (.ref hp.objs.size) ⟨hp.push o, g, d, tk, os⟩ → wpAny (model prog w) A' (pyIter v) Q E ⟨hp, g, d, tk, os⟩ :=
      fun q => B.iter prog w _ _ ⟨hp, g, d, tk, os⟩ _ h1 q
    wp_walk using q1
    refine wpAny_stack_any fun st => wpAny_pure ?_
    split
    · rename_i c _ _ _ _ _
      cases (c == Value.type "enumerate")
      · wp_walk using q1
        exact ⟨_, rfl, h⟩
      · wp_walk using q1
        exact ⟨_, rfl, h⟩
    · wp_walk using q1
      exact ⟨_, rfl, h⟩
theorem call_enumerate_tuple {prog : Program} {w : World} {A : Around} {E : Value → Shared → Prop} {s : Shared} {l : Addr} {items : Array Value} {Q : Value → Shared → Prop} (hL : s.heap.IsTuple l items)
    (h : ∀ h', IsEnum h' (s.heap.objs.size + 1) s.heap.objs.size 0 .none → h'.IsTupleIter s.heap.objs.size l 0 → h'.objs.size = s.heap.objs.size + 2 →
      (∀ b o, s.heap.get? b = some o → h'.get? b = some o) → Q (.ref (s.heap.objs.size + 1)) { s with heap := h' }) :
    wpAny (model prog w) A (call (.type "enumerate") [.ref l]) Q E s := by
  have B := begins_tuple l items
  refine callType_new F.called_enumerate (by decide) (F.typeCall_enumerate_1 _) (F.newCall_enumerate_1 _) (fun obj => F.args_object_init_2 obj _) F.entry_enumerate_new
    (meets_enumerate_new1 B) ⟨hL, ?_⟩
  have hz : (s.heap.push { cls := .type "tuple_iterator", data := .fields #[.ref l, .int 0 0] }).objs.size = s.heap.objs.size + 1 := Heap.size_push ..
  show _ ∧ _
  rw [hz]
  have he : IsEnum ((s.heap.push { cls := .type "tuple_iterator", data := .fields #[.ref l, .int 0 0] }).push
      { cls := .type "enumerate", data := .fields #[.none, .bool false, .ref s.heap.objs.size, rawInt 0, .none, .none] }) (s.heap.objs.size + 1) s.heap.objs.size 0 .none := by
    have := Heap.get?_push_size (s.heap.push { cls := .type "tuple_iterator", data := .fields #[.ref l, .int 0 0] })
      (o := { cls := .type "enumerate", data := .fields #[.none, .bool false, .ref s.heap.objs.size, rawInt 0, .none, .none] }) rfl
    rw [hz] at this; exact this
  refine ⟨⟨_, he, rfl⟩, h _ he ⟨_, Heap.get?_push_of_some _ (Heap.get?_push_size _ rfl), rfl, rfl⟩ (by rw [Heap.size_push, hz]) fun b o x => Heap.get?_push_of_some _ (Heap.get?_push_of_some _ x)⟩
def iEnumT (K : PySem.W.Frag) (ta : TA) : TI := fun σ H R => ta σ H fun vs H1 => ∃ a xs, vs = [.ref a] ∧ ((SqT K H1 a xs ∧ R (IteT K a) H1) ∨ (SqL K H1 a xs ∧ R (Ite K a) H1))
theorem pi_enumT {X : Cx} {e : Expr} {ta : TA} {p pos tpos : Pos} {elts : List Expr} {kk : Nat} (hg : Gl X "enumerate") (hm : X.mg "enumerate" = none) (ha : PA X [e] ta) (hs : starEach [e] X.env = [(false, eval e X.env)]) :
    PI X (.Tuple elts kk tpos) (.Call (.Name "enumerate" p) [e] [] pos) (iEnumT X.K ta) := by
  refine ⟨fun pins s σ H R I h => ?_⟩
  refine Call_ (ld_blt I hg hm boot_enumerate (PyProof.Rows.callWith_type1 (thn (ha.run pos pins s σ H _ I h) fun us s1 ⟨vs, H1, I1, r1, q1⟩ => ?_) hs rfl))
  obtain ⟨a, xs, ex, q1⟩ := q1
  subst ex
  cases r1 with
  | cons r rr =>
    cases rr
    cases r
    have hfp : ∀ (h' : Heap) (I2 : Inv X pins σ H1 { s1 with heap := h' }), ∀ b ∈ [s1.heap.objs.size + 1, s1.heap.objs.size], FpOk X pins H1 b := fun h' I2 b hb => by
      have e' : b = s1.heap.objs.size + 1 ∨ b = s1.heap.objs.size := by simpa using hb
      have hle : s1.heap.objs.size ≤ b := by
        rcases e' with z | z
        · rw [z]; exact Nat.le_add_right _ _
        · rw [z]; exact Nat.le_refl _
      exact I1.fpOk hle (I1.hok.fresh hle)
    rcases q1 with ⟨hq, q⟩ | ⟨hq, q⟩
    · obtain ⟨its, rv, p', hz⟩ := I1.tuple hq
      have hal : a < s1.heap.objs.size := by obtain ⟨_, ho, _⟩ := p'; exact Heap.lt_size ho
      refine call_enumerate_tuple (show s1.heap.IsTuple a its.toArray from p') fun h' he hit hsz hk => wpAny_pyIter_enum he ?_
      have I2 : Inv X pins σ H1 { s1 with heap := h' } := I1.kept (t' := s1.toks) hk
      exact ⟨s1.heap.objs.size + 1, [s1.heap.objs.size + 1, s1.heap.objs.size], _, _, H1, rfl, I2, turn_enumT a (s1.heap.objs.size + 1) s1.heap.objs.size, ⟨⟨.none, he⟩, hit, Nat.succ_ne_self _, Nat.ne_of_lt hal, Nat.ne_of_gt (Nat.lt_succ_of_lt hal)⟩, hfp h' I2, q⟩
    · obtain ⟨its, rv, p', hz⟩ := I1.list hq
      refine call_enumerate_list p'.isList fun h' he hit hsz hk => wpAny_pyIter_enum he ?_
      have I2 : Inv X pins σ H1 { s1 with heap := h' } := I1.kept (t' := s1.toks) hk
      exact ⟨s1.heap.objs.size + 1, [s1.heap.objs.size + 1, s1.heap.objs.size], _, _, H1, rfl, I2, turn_enum a (s1.heap.objs.size + 1) s1.heap.objs.size, ⟨⟨.none, he⟩, hit, Nat.succ_ne_self _⟩, hfp h' I2, q⟩
def enumT (xs : List D) : List D := xs.zipIdx.map fun p => .tup [.int ((p.2 : Nat) : Int), p.1]
theorem enumT_len (xs : List D) : (enumT xs).length = xs.length := by unfold enumT; rw [List.length_map, List.length_zipIdx]
theorem enumT_at {xs : List D} {i : Nat} {d : D} (h : (enumT xs)[i]? = some d) : ∃ x, xs[i]? = some x ∧ d = .tup [.int (i : Nat), x] := by
  unfold enumT at h
  rw [List.getElem?_map, List.getElem?_zipIdx] at h
  cases e : xs[i]? with
  | none => rw [e] at h; cases h
  | some x =>
    rw [e] at h
    simp only [Option.map_some, Option.some.injEq, Nat.zero_add] at h
    exact ⟨x, rfl, h.symm⟩
theorem yld_enumL {X : Cx} {W : Wd} {Z H : Hp} {a : Addr} {vs : List V} {xs : List D} (na : ¬ W.bx a) (ha : H a = some (.lst vs)) (l : RepL X.K W.β Z xs vs) :
    Yld X.K W (Ite X.K a) (enumT xs) (fun c => c = a) Z H := by
  refine ⟨fun c e => ?_, fun i Z2 H2 st sz zh ka _ bx => ⟨fun hi => ?_, fun d hd => ?_⟩⟩
  · subst e
    exact ⟨⟨_, ha⟩, na⟩
  · rw [enumT_len, l.length] at hi
    exact ⟨vs, .inl (.inl (ka a _ rfl ha)), hi⟩
  · obtain ⟨x, h1, rfl⟩ := enumT_at hd
    obtain ⟨v, g1, rv⟩ := l.get h1
    have qa : SqL X.K H2 a vs := .inl (.inl (ka a _ rfl ha))
    refine ⟨⟨vs, v, qa, g1⟩, fun z H3 yy => ?_⟩
    obtain ⟨T, v', rfl, hT, rfl, e1⟩ := yy
    have e1 := e1 _ qa; rw [g1] at e1; cases e1
    exact yld_pair zh bx hT (.int _) (rv.mono sz)
theorem yld_enumT {X : Cx} {W : Wd} {Z H : Hp} {a : Addr} {vs : List V} {xs : List D} (ha : TupAt X.K Z a vs) (l : RepL X.K W.β Z xs vs) :
    Yld X.K W (IteT X.K a) (enumT xs) (fun _ => False) Z H := by
  refine ⟨fun c e => e.elim, fun i Z2 H2 st sz zh ka _ bx => ?_⟩
  have qa : SqT X.K H2 a vs := (subOf zh).sqT (sz.tupAt ha)
  refine ⟨fun hi => ?_, fun d hd => ?_⟩
  · rw [enumT_len, l.length] at hi
    exact ⟨vs, qa, hi⟩
  · obtain ⟨x, h1, rfl⟩ := enumT_at hd
    obtain ⟨v, g1, rv⟩ := l.get h1
    refine ⟨⟨vs, v, qa, g1⟩, fun z H3 yy => ?_⟩
    obtain ⟨T, v', rfl, hT, rfl, e1⟩ := yy
    have e1 := e1 _ qa; rw [g1] at e1; cases e1
    exact yld_pair zh bx hT (.int _) (rv.mono sz)
def enumDM {S : Type} (x : D) : M S (List D) :=
  match x with
  | .tup xs => ret (enumT xs)
  | .lst xs => ret (enumT xs)
  | _ => Sn.stuck
def enumM {S : Type} (ma : M S D) : M S (List D) := bnd ma enumDM
section
variable {S : Type} [BoxS S] {C : Stat} {Γ : SCx} {a : Expr} {ma : M S D} {mda : Md} {p pos : Pos}
theorem OkI.enum {bb : Bool} {elts : List Expr} {kk : Nat} {tpos : Pos} (ha : Ok mda C Γ a ma) (hg : C.sc.names.lookup ("enumerate" : Str) = some .globalImplicit) (hm : C.G.mg "enumerate" = none) (h1 : mda = .V → bb = false)
    (hp : plainArg a = true := by rfl) : OkI bb C Γ (.Tuple elts kk tpos) (.Call (.Name "enumerate" p) [a] [] pos) (enumM ma) := fun X hX W σ Z H st xs st' R r hm' q => by
  obtain ⟨d, st1, g1, hm1⟩ := bnd_some hm'
  refine tUI_of (pi_enumT (hX.glob hg) (hX.none hm) (pa_cons peU pa_nil (starEach_plain _ hp)) (by rw [starEach_plain _ hp]; rfl)) ?_
  refine ha X hX W σ Z H st d st1 _ r g1 fun v1 Z1 H1 s1 b1 r1 => ?_
  have r1v := r1.view s1.zh
  cases d with
  | tup xs1 =>
    obtain ⟨rfl, rfl⟩ := ret_some hm1
    cases r1v.1 with | tup hq l =>
      exact ⟨_, _, rfl, .inl ⟨s1.sub.sqT hq, q _ _ Z1 H1 s1 b1 (yld_enumT hq l) fun _ _ h => h.elim⟩⟩
  | lst xs1 =>
    obtain ⟨rfl, rfl⟩ := ret_some hm1
    obtain ⟨p1, vs, rfl, hq, l⟩ := r1v.1
    refine ⟨p1, vs, rfl, .inr ⟨.inl (.inl hq), q _ _ Z1 H1 s1 b1 (yld_enumL (r1v.2 _ rfl rfl) hq l) fun hbb c hc => ?_⟩⟩
    subst hc
    cases mda with
    | V => rw [h1 rfl] at hbb; cases hbb
    | E =>
      have hz : Z1 c ≠ none := by cases r1 with | lst hz _ => rw [hz]; exact fun e => nomatch e
      refine ⟨fun ho => ?_, .inl hz⟩
      obtain ⟨i, d', k1, k2⟩ := ho
      obtain ⟨b', e', zb, _, _, _⟩ := (r.step s1 b1).own i d' k1
      rw [k2] at e'; cases e'
      exact hz zb
    | N =>
      obtain ⟨f1, _, _⟩ := r1.2 c rfl rfl
      refine ⟨fun ho => ?_, .inr f1⟩
      obtain ⟨o, ho'⟩ := r.ownThere ho
      rw [f1] at ho'; cases ho'
  | _ => exact (stuck_some (S := S) (α := List D) (s := st1) hm1).elim
end
end Sn

namespace Sn
open PySem PySem.Spec PyProof.Rows L2
/-! ### great ints -/
instance (i j : Int) : Decidable (CMulX i j) := by unfold CMulX; infer_instance
instance (i j : Int) : Decidable (CDivW i j) := by unfold CDivW; infer_instance
def mulWD (x y : D) : Option D :=
  match x, y with
  | .int i, .int j => if CMulX i j then some (.int (i * j)) else none
  | x, y => mulD x y
def divWD (x y : D) : Option D :=
  match x, y with
  | .int i, .int j => if CDivW i j then some (.int (i / j)) else none
  | _, _ => none
section
variable {C : Stat}
theorem o_mulW : Op2 C (binaryOp .Mult) mulWD := fun X hX S _ W Z H st x y dx dy d Q zh sz bx r1 r2 hg q => by
  by_cases hh : ∃ i j, dx = .int i ∧ dy = .int j
  · obtain ⟨i, j, rfl, rfl⟩ := hh
    have hg' : (if CMulX i j then some (D.int (i * j)) else none) = some d := hg
    split at hg'
    · rename_i hc
      cases hg'
      cases r1; cases r2
      exact rU_of op_mulX ⟨i, j, rfl, rfl, hc, fin_plain zh bx (.int _) rfl q⟩
    · cases hg'
  · have : mulWD dx dy = mulD dx dy := by
      cases dx <;> cases dy <;> first | rfl | exact absurd ⟨_, _, rfl, rfl⟩ hh
    exact o_mul X hX W Z H st x y dx dy d Q zh sz bx r1 r2 (this ▸ hg) q
theorem o_divW : Op2 C (binaryOp .FloorDiv) divWD := fun X hX S _ W Z H st x y dx dy d Q zh sz bx r1 r2 hg q => by
  match dx, dy, hg with
  | .int i, .int j, hg =>
    have hg' : (if CDivW i j then some (D.int (i / j)) else none) = some d := hg
    split at hg'
    · rename_i hc
      cases hg'
      cases r1; cases r2
      exact rU_of op_fdivW ⟨i, j, rfl, rfl, hc, fin_plain zh bx (.int _) rfl q⟩
    · cases hg'
end
/-! ### list(range(..)), tuple(range(..)); range of three -/
section
variable {S : Type} [BoxS S] {C : Stat} {Γ : SCx} {e a b c : Expr} {es : List Expr} {rest : List Stmt} {m ma mb mc : M S D} {md mda mdb mdc : Md} {pos p p2 pos2 : Pos} {τ l : Type} {T : Tg τ l} {i : Nat} {x : Str}
def rgD (lo hi : D) : Option (Int × Int) :=
  match lo, hi with
  | .int i, .int j => if -(2 ^ 62) ≤ i ∧ i < 2 ^ 62 ∧ -(2 ^ 62) ≤ j ∧ j < 2 ^ 62 ∧ (j - i).toNat ≤ 2 ^ 24 then some (i, j) else none
  | _, _ => none
theorem rgD_some {lo hi : D} {i j : Int} (h : rgD lo hi = some (i, j)) : lo = .int i ∧ hi = .int j ∧ RgOk i j := by
  match lo, hi, h with
  | .int a, .int b, h =>
    have h' : (if -(2 ^ 62) ≤ a ∧ a < 2 ^ 62 ∧ -(2 ^ 62) ≤ b ∧ b < 2 ^ 62 ∧ (b - a).toNat ≤ 2 ^ 24 then some (a, b) else none) = some (i, j) := h
    split at h'
    · rename_i hc
      cases h'
      exact ⟨rfl, rfl, hc⟩
    · cases h'
def lrgD (lo hi : D) : Option D := (rgD lo hi).map fun p => .lst (rng p.1 p.2)
def trgD (lo hi : D) : Option D := (rgD lo hi).map fun p => .tup (rng p.1 p.2)
theorem repL_rg {K : PySem.W.Frag} {β : Addr} {Z : Hp} (i j : Int) : RepL K β Z (rng i j) (rgV i j) := by
  unfold rng rgV
  generalize (j - i).toNat = n
  have : ∀ l : List Nat, RepL K β Z (l.map fun k : Nat => D.int (i + (k : Int))) (l.map fun k : Nat => V.int (i + (k : Int))) := by
    intro l
    induction l with
    | nil => exact .nil
    | cons k l ih => exact .cons (.int _) ih
  exact this _
theorem rg_len {i j : Int} (h : RgOk i j) : (rgV i j).length ≤ sizeLine := by
  rw [rgV_length, sizeLine_eq]
  exact h.2.2.2.2
def rg1M (g : D → D → Option D) (ma : M S D) : M S D := bnd ma fun x => lift (g (.int 0) x)
def rg2M (g : D → D → Option D) (ma mb : M S D) : M S D := bnd ma fun x => bnd mb fun y => lift (g x y)
theorem Ok.lrg1 (ha : Ok mda C Γ a ma) (hg : C.sc.names.lookup ("list" : Str) = some .globalImplicit) (hm : C.G.mg "list" = none) (hg2 : C.sc.names.lookup ("range" : Str) = some .globalImplicit) (hm2 : C.G.mg "range" = none) (hp : plainArg a = true := by rfl) :
    Ok .N C Γ (.Call (.Name "list" p) [.Call (.Name "range" p2) [a] [] pos2] [] pos) (rg1M lrgD ma) := fun X hX W σ Z H st d st' Q r hm' q => by
  obtain ⟨x, st1, h1, hm1⟩ := bnd_some hm'
  obtain ⟨hgd, rfl⟩ := lift_some hm1
  obtain ⟨⟨i, j⟩, e1, rfl⟩ := Option.map_eq_some_iff.mp hgd
  obtain ⟨ei, rfl, ok⟩ := rgD_some e1
  cases ei
  refine tU_of (pe_listRg hX.calm (hX.glob hg) (hX.none hm) (prg_1 (hX.glob hg2) (hX.none hm2) peU (starEach_plain _ hp))) ?_
  refine ha X hX W σ Z H st _ _ _ r h1 fun v Z1 H1 s1 b1 r1 => ?_
  cases (r1.view s1.zh).1
  refine ⟨j, rfl, ok, fun pn hn => ?_⟩
  have s2 := Stp.layH (o := .lst (rgV 0 j)) s1.zh hn (rg_len ok)
  refine q _ _ _ (s1.trans s2) (box_lay b1 hn) ⟨⟨pn, _, rfl, upd_same, repL_rg 0 j⟩, fun a ea _ => ?_⟩
  cases ea
  exact ⟨fresh_back r.box b1 s1 hn, z_none s1.zh hn, BoxS.bxThere b1 hn⟩
theorem Ok.lrg2 (ha : Ok mda C Γ a ma) (hb : Ok mdb C Γ b mb) (hg : C.sc.names.lookup ("list" : Str) = some .globalImplicit) (hm : C.G.mg "list" = none) (hg2 : C.sc.names.lookup ("range" : Str) = some .globalImplicit) (hm2 : C.G.mg "range" = none) (hp : plainArg a = true := by rfl) (hp2 : plainArg b = true := by rfl) :
    Ok .N C Γ (.Call (.Name "list" p) [.Call (.Name "range" p2) [a, b] [] pos2] [] pos) (rg2M lrgD ma mb) := fun X hX W σ Z H st d st' Q r hm' q => by
  obtain ⟨x, st1, h1, hm1⟩ := bnd_some hm'
  obtain ⟨y, st2, h2, hm2'⟩ := bnd_some hm1
  obtain ⟨hgd, rfl⟩ := lift_some hm2'
  obtain ⟨⟨i, j⟩, e1, rfl⟩ := Option.map_eq_some_iff.mp hgd
  obtain ⟨rfl, rfl, ok⟩ := rgD_some e1
  refine tU_of (pe_listRg hX.calm (hX.glob hg) (hX.none hm) (prg_2 (hX.glob hg2) (hX.none hm2) peU peU (starEach_plain _ hp) (starEach_plain _ hp2) (by rw [starEach_plain _ hp2]; rfl))) ?_
  refine ha X hX W σ Z H st _ _ _ r h1 fun v Z1 H1 s1 b1 r1 => ?_
  refine hb X hX W σ Z1 H1 st1 _ _ _ (r.step s1 b1) h2 fun u Z2 H2 s12 b2 r2 => ?_
  cases (r1.view s1.zh).1
  cases (r2.view s12.zh).1
  have s2 := s1.trans s12
  refine ⟨i, j, rfl, rfl, ok, fun pn hn => ?_⟩
  have s3 := Stp.layH (o := .lst (rgV i j)) s2.zh hn (rg_len ok)
  refine q _ _ _ (s2.trans s3) (box_lay b2 hn) ⟨⟨pn, _, rfl, upd_same, repL_rg i j⟩, fun a ea _ => ?_⟩
  cases ea
  exact ⟨fresh_back r.box b2 s2 hn, z_none s2.zh hn, BoxS.bxThere b2 hn⟩
theorem Ok.trg1 (ha : Ok mda C Γ a ma) (hg : C.sc.names.lookup ("tuple" : Str) = some .globalImplicit) (hm : C.G.mg "tuple" = none) (hg2 : C.sc.names.lookup ("range" : Str) = some .globalImplicit) (hm2 : C.G.mg "range" = none) (hp : plainArg a = true := by rfl) :
    Ok .E C Γ (.Call (.Name "tuple" p) [.Call (.Name "range" p2) [a] [] pos2] [] pos) (rg1M trgD ma) := fun X hX W σ Z H st d st' Q r hm' q => by
  obtain ⟨x, st1, h1, hm1⟩ := bnd_some hm'
  obtain ⟨hgd, rfl⟩ := lift_some hm1
  obtain ⟨⟨i, j⟩, e1, rfl⟩ := Option.map_eq_some_iff.mp hgd
  obtain ⟨ei, rfl, ok⟩ := rgD_some e1
  cases ei
  refine tU_of (pe_tupRg hX.calm (hX.glob hg) (hX.none hm) (prg_1 (hX.glob hg2) (hX.none hm2) peU (starEach_plain _ hp))) ?_
  refine ha X hX W σ Z H st _ _ _ r h1 fun v Z1 H1 s1 b1 r1 => ?_
  cases (r1.view s1.zh).1
  refine ⟨j, rfl, ok, fun pn hn => ?_⟩
  have s2 := Stp.layZ (o := .tup (rgV 0 j)) s1.zh b1 hn (rg_len ok)
  exact q _ _ _ (s1.trans s2) (box_lay b1 hn) (.tup (.inl upd_same) (repL_rg 0 j))
theorem Ok.trg2 (ha : Ok mda C Γ a ma) (hb : Ok mdb C Γ b mb) (hg : C.sc.names.lookup ("tuple" : Str) = some .globalImplicit) (hm : C.G.mg "tuple" = none) (hg2 : C.sc.names.lookup ("range" : Str) = some .globalImplicit) (hm2 : C.G.mg "range" = none) (hp : plainArg a = true := by rfl) (hp2 : plainArg b = true := by rfl) :
    Ok .E C Γ (.Call (.Name "tuple" p) [.Call (.Name "range" p2) [a, b] [] pos2] [] pos) (rg2M trgD ma mb) := fun X hX W σ Z H st d st' Q r hm' q => by
  obtain ⟨x, st1, h1, hm1⟩ := bnd_some hm'
  obtain ⟨y, st2, h2, hm2'⟩ := bnd_some hm1
  obtain ⟨hgd, rfl⟩ := lift_some hm2'
  obtain ⟨⟨i, j⟩, e1, rfl⟩ := Option.map_eq_some_iff.mp hgd
  obtain ⟨rfl, rfl, ok⟩ := rgD_some e1
  refine tU_of (pe_tupRg hX.calm (hX.glob hg) (hX.none hm) (prg_2 (hX.glob hg2) (hX.none hm2) peU peU (starEach_plain _ hp) (starEach_plain _ hp2) (by rw [starEach_plain _ hp2]; rfl))) ?_
  refine ha X hX W σ Z H st _ _ _ r h1 fun v Z1 H1 s1 b1 r1 => ?_
  refine hb X hX W σ Z1 H1 st1 _ _ _ (r.step s1 b1) h2 fun u Z2 H2 s12 b2 r2 => ?_
  cases (r1.view s1.zh).1
  cases (r2.view s12.zh).1
  have s2 := s1.trans s12
  refine ⟨i, j, rfl, rfl, ok, fun pn hn => ?_⟩
  have s3 := Stp.layZ (o := .tup (rgV i j)) s2.zh b2 hn (rg_len ok)
  exact q _ _ _ (s2.trans s3) (box_lay b2 hn) (.tup (.inl upd_same) (repL_rg i j))
/-- lo, lo - 1, .. above hi -/
def rngDn (lo hi : Int) : List D := (List.range (lo - hi).toNat).map fun k : Nat => .int (lo - (k : Int))
/-- lo, lo + c, .. below hi, c above nought -/
def rngUp (lo hi c : Int) : List D := (List.range ((hi - lo + c - 1) / c).toNat).map fun k : Nat => .int (lo + (k : Int) * c)
def rng3D (x y z : D) : M S (List D) :=
  match x, y, z with
  | .int i, .int j, .int c => if -(2 ^ 62) ≤ i ∧ i < 2 ^ 62 ∧ -(2 ^ 62) ≤ j ∧ j < 2 ^ 62 ∧ c = -1 then ret (rngDn i j) else Sn.stuck
  | _, _, _ => Sn.stuck
def rng3M (ma mb mc : M S D) : M S (List D) := bnd ma fun x => bnd mb fun y => bnd mc fun z => rng3D x y z
theorem yld_dn {K : PySem.W.Frag} {W : Wd} {Z H : Hp} {lo hi : Int} : Yld K W (Itc lo (-1) (lo - hi).toNat) (rngDn lo hi) (fun _ => False) Z H := by
  refine ⟨fun b e => e.elim, fun i Z2 H2 st sz zh ka _ bx => ⟨fun h => ?_, fun d hd => ?_⟩⟩
  · unfold rngDn at h
    rw [List.length_map, List.length_range] at h
    exact h
  · unfold rngDn at hd
    rw [List.getElem?_map] at hd
    obtain ⟨k, hk, rfl⟩ := Option.map_eq_some_iff.mp hd
    obtain ⟨h1, h2⟩ := List.getElem?_eq_some_iff.mp hk
    rw [List.length_range] at h1
    rw [List.getElem_range] at h2
    subst h2
    refine ⟨h1, fun x H3 yy => ?_⟩
    obtain ⟨rfl, rfl⟩ := yy
    refine ⟨Z2, Stp.refl zh, bx, ?_⟩
    rw [show lo + (i : Int) * -1 = lo - (i : Int) by omega]
    exact .int _
theorem OkI.range3 {bb : Bool} {tg : Expr} (ha : Ok mda C Γ a ma) (hb : Ok mdb C Γ b mb) (hc : Ok mdc C Γ c mc) (hg : C.sc.names.lookup ("range" : Str) = some .globalImplicit) (hm : C.G.mg "range" = none) (hp : plainArg a = true := by rfl) (hp2 : plainArg b = true := by rfl) (hp3 : plainArg c = true := by rfl) :
    OkI bb C Γ tg (.Call (.Name "range" p) [a, b, c] [] pos) (rng3M ma mb mc) := fun X hX W σ Z H st xs st' R r hm' q => by
  obtain ⟨d1, st1, h1, hm1⟩ := bnd_some hm'
  obtain ⟨d2, st2, h2, hm2⟩ := bnd_some hm1
  obtain ⟨d3, st3, h3, hm3⟩ := bnd_some hm2
  match d1, d2, d3, hm3 with
  | .int i, .int j, .int k, hm3 =>
    have hm4 : (if -(2 ^ 62) ≤ i ∧ i < 2 ^ 62 ∧ -(2 ^ 62) ≤ j ∧ j < 2 ^ 62 ∧ k = -1 then ret (rngDn i j) else Sn.stuck : M S (List D)) st3 = some (xs, st') := hm3
    split at hm4
    · rename_i ok
      obtain ⟨k1, k2, k3, k4, rfl⟩ := ok
      obtain ⟨rfl, rfl⟩ := ret_some hm4
      refine tUI_of (pi_range3 (hX.glob hg) (hX.none hm) (pa_cons peU (pa_cons peU (pa_cons peU pa_nil (starEach_plain _ hp3)) (starEach_plain _ hp2)) (starEach_plain _ hp)) (by rw [starEach_plain _ hp]) (by rw [starEach_plain _ hp2, starEach_plain _ hp3]; rfl)) ?_
      refine ha X hX W σ Z H st _ _ _ r h1 fun v1 Z1 H1 s1 b1 r1 => ?_
      refine hb X hX W σ Z1 H1 st1 _ _ _ (r.step s1 b1) h2 fun v2 Z2 H2 s2 b2 r2 => ?_
      refine hc X hX W σ Z2 H2 st2 _ _ _ ((r.step s1 b1).step s2 b2) h3 fun v3 Z3 H3 s3 b3 r3 => ?_
      cases (r1.view s1.zh).1
      cases (r2.view s2.zh).1
      cases (r3.view s3.zh).1
      exact ⟨i, j, -1, (i - j).toNat, rfl, RgC.neg k1 k2 k3 k4, q _ _ Z3 H3 ((s1.trans s2).trans s3) b3 yld_dn fun _ _ h => h.elim⟩
    · exact (stuck_some hm4).elim
end
end Sn

namespace Sn
open PySem PySem.Spec PyProof.Rows L2
/-! ### xs += ys of own lists; xs[i] += e; {k: v} -/
section
variable {S : Type} [BoxS S] {C : Stat} {Γ : SCx} {e a b c : Expr} {es : List Expr} {rest : List Stmt} {m ma mb me mk : M S D} {md mda mdb mde : Md} {pos p p2 pos2 tpos : Pos} {τ l : Type} {T : Tg τ l} {i : Nat} {x : Str} {d : D}
theorem Γ_same (h : Γ[i]? = some (some (En.own d))) (σ : L2.St) (v : V) (hs : σ[i]? = some (some v)) : σ.set i (some v) = σ := by
  apply List.ext_getElem?
  intro j
  by_cases e : i = j
  · subst e
    obtain ⟨hl, _⟩ := List.getElem?_eq_some_iff.mp hs
    rw [List.getElem?_set_self hl, hs]
  · rw [List.getElem?_set_ne e]
def extLD (d y : D) : Option D :=
  match d, y with
  | .lst xs, .lst ys => if xs.length + ys.length ≤ sizeLine then some (.lst (xs ++ ys)) else none
  | _, _ => none
theorem extLD_some {d y d' : D} (h : extLD d y = some d') : ∃ xs ys, d = .lst xs ∧ y = .lst ys ∧ xs.length + ys.length ≤ sizeLine ∧ d' = .lst (xs ++ ys) := by
  match d, y, h with
  | .lst xs, .lst ys, h =>
    have h' : (if xs.length + ys.length ≤ sizeLine then some (D.lst (xs ++ ys)) else none) = some d' := h
    split at h'
    · cases h'
      exact ⟨xs, ys, rfl, rfl, by assumption, rfl⟩
    · cases h'
def extLM (d : D) (me : M S D) (k : D → M S (Fl τ l)) : M S (Fl τ l) := bnd me fun y => bnd (lift (extLD d y)) k
/-- xs += ys, ys a list -/
theorem OkB.augL {k : D → M S (Fl τ l)} (hN : C.N[i]? = some x) (hv : Vis C.sc x) (hx : Loc C.sc x) (hf : C.fn x = true ∨ C.sc.names.lookup x = some .local) (h0 : Γ[i]? = some (some (.own d))) (he : Ok .V C Γ e me) (hb : ∀ d', OkB C (Γ.set i (some (.own d'))) rest T (k d')) :
    OkB C Γ (.AugAssign (.Name x p) .Add e pos :: rest) T (extLM d me k) := fun X hX W σ Z H st f st' D r hm q => by
  obtain ⟨y, st1, h1, hm1⟩ := bnd_some hm
  obtain ⟨d', st2, h2, hm2⟩ := bnd_some hm1
  obtain ⟨hg, rfl⟩ := lift_some h2
  obtain ⟨xs, ys, rfl, rfl, hl, rfl⟩ := extLD_some hg
  obtain ⟨pa, ep, z, nb, mu, a', vs, ea, hq, lr⟩ := r.own i _ h0
  cases ea
  · refine tUS_of (pss_cons (ps_aug (i := i) (by rw [hX.N]; exact hX.nd) (by rw [hX.N]; exact hN) (by rw [hX.sc]; exact hx) peU (ti := fun x y H Q => rExt2 x y H Q) (fun pins s σ H x y v u Q I r1 r2 h => iop_ext pins s σ H x y v u Q I r1 r2 h) (store_hyp hX hf)) pssU) ?_
    refine ⟨_, ep, he X hX W σ Z H st _ _ _ r h1 fun v Z1 H1 s1 b1 r1 => ?_⟩
    have rr := r.step s1 b1
    have hq1 := s1.hh _ _ hq nb
    have ll := lr.length
    obtain ⟨pb, us, rfl, hqb, lb⟩ := r1.1
    have lb' := lb.length
    refine ⟨pa, pb, vs, us, rfl, rfl, hq1, hqb, by omega, ?_⟩
    have so : SzO (.lst (vs ++ us)) := by
      show (vs ++ us).length ≤ sizeLine
      rw [List.length_append]; omega
    show tUS X rest D (List.set σ i (some (V.ref pa))) (upd H1 pa (HO.lst (vs ++ us)))
    rw [Γ_same h0 σ _ ep]
    refine hb _ X hX W σ Z1 (upd H1 pa (.lst (vs ++ us))) _ f st' D (rr.mut (d' := Sn.D.lst (xs ++ ys)) h0 ep rfl ⟨pa, _, rfl, upd_same, (lr.mono s1.zz).append lb⟩ so) hm2 ?_
    exact (q.after s1.bst OwLe.refl (Γ1 := Γ) (σ1 := σ)).after (bst_mut rr h0 ep so) fun a h => .inl (own_mut h0 h)
/-- xs[i] += e -/
def aug2D (g : Int → Int → Int) (d k y : D) : Option D :=
  match d, k, y with
  | .lst xs, .int i, .int b => if 0 ≤ i then match xs[i.toNat]? with
      | some (.int a) => some (.lst (xs.set i.toNat (.int (g a b))))
      | _ => none
    else none
  | _, _, _ => none
def aug2M (g : Int → Int → Int) (d : D) (mk me : M S D) (k : D → M S (Fl τ l)) : M S (Fl τ l) := bnd mk fun j => bnd me fun y => bnd (lift (aug2D g d j y)) k
def rGetN : V → V → Hp → VK → Prop := fun o i H Q => ∃ p xs k v, o = .ref p ∧ i = .int k ∧ H p = some (.lst xs) ∧ 0 ≤ k ∧ k < 2 ^ 63 ∧ xs[k.toNat]? = some v ∧ Q v H
theorem get_listN {X : Cx} : PGet X rGetN := by
  intro pins s σ H o i ov iv Q I ro ri h
  obtain ⟨p, xs, k, v, rfl, rfl, hp, h0, h63, hx, q⟩ := h
  cases ro
  obtain ⟨t, rfl⟩ := ri
  obtain ⟨its, r, pl, hz⟩ := I.list (.inl (.inl hp))
  obtain ⟨w, ew, rw'⟩ := r.get hx
  exact wpAny_getItem_list pl.isList h0 h63 (by simpa using ew) ⟨v, H, I, rw', q⟩
theorem OkB.aug2 {k : D → M S (Fl τ l)} {op : Operator} {g : Int → Int → Int} (ho : ∀ X, PIp X op (ipI g)) (hN : C.N[i]? = some x) (hv : Vis C.sc x) (h0 : Γ[i]? = some (some (.own d))) (hk : Ok .V C Γ b mk) (he : Ok .V C Γ e me) (hb : ∀ d', OkB C (Γ.set i (some (.own d'))) rest T (k d'))
    (hd : (x == ("__debug__" : Str)) = false := by decide) (hcd : (x == ("__classdict__" : Str)) = false := by decide)
    (ha : ∀ ov iv new, augStore b ov iv new = (do holding [new, ov, iv] (setItem ov iv new); release [new, ov, iv] []; pure .next) := by intros; rfl) :
    OkB C Γ (.AugAssign (.Subscript (.Name x p) b tpos) op e pos :: rest) T (aug2M g d mk me k) := fun X hX W σ Z H st f st' D r hm q => by
  obtain ⟨j, st1, h1, hm1⟩ := bnd_some hm
  obtain ⟨y, st2, h2, hm2⟩ := bnd_some hm1
  obtain ⟨d', st3, h3, hm3⟩ := bnd_some hm2
  obtain ⟨hg, rfl⟩ := lift_some h3
  match d, j, y, hg with
  | .lst xs, .int ii, .int bb, hg =>
    have hg1 : (if 0 ≤ ii then match xs[ii.toNat]? with
      | some (.int a) => some (Sn.D.lst (xs.set ii.toNat (.int (g a bb))))
      | _ => none
    else none) = some d' := hg
    by_cases hii : 0 ≤ ii
    case neg => rw [if_neg hii] at hg1; cases hg1
    rw [if_pos hii] at hg1
    generalize hjn : ii.toNat = jj at hg1
    cases exj : xs[jj]? with
    | none => rw [exj] at hg1; cases hg1
    | some dv =>
      rw [exj] at hg1
      have hg2 := hg1
      cases dv with
      | int aa =>
        cases hg2
        refine tUS_of (pss_cons (ps_augS (pe_var (i := i) (by rw [hX.N]; exact hN) (by rw [hX.sc]; exact hv) hd hcd) peU get_listN peU (ho X) set_list ha) pssU) ?_
        obtain ⟨pa, ep, z, nb, mu, a', vs, ea, hq, lr⟩ := r.own i _ h0
        cases ea
        refine ⟨_, ep, hk X hX W σ Z H st _ _ _ r h1 fun vj Z1 H1 s1 b1 r1 => ?_⟩
        cases r1.1
        have rr := r.step s1 b1
        have hq1 := s1.hh _ _ hq nb
        obtain ⟨v, hvv, rv⟩ := lr.get exj
        cases rv
        have ll := lr.length
        have hz := rr.sz.lst hq1
        have hsl : sizeLine = 16777216 := sizeLine_eq
        have hlt : jj < xs.length := (List.getElem?_eq_some_iff.mp exj).1
        have hjj : 0 ≤ ii ∧ ii < 2 ^ 63 ∧ ii.toNat = jj := ⟨hii, by omega, hjn⟩
        have ej : ixN xs.length ii = some jj := by
          unfold ixN
          rw [if_pos hii, if_pos (by omega), hjn]
        refine ⟨pa, vs, ii, _, rfl, rfl, hq1, hjj.1, hjj.2.1, by rw [hjj.2.2]; exact hvv, ?_⟩
        refine he X hX W σ Z1 H1 st1 _ _ _ rr h2 fun ve Z2 H2 s2 b2 r2 => ?_
        cases r2.1
        have rr2 := rr.step s2 b2
        have hq2 := s2.hh _ _ hq1 nb
        refine ⟨aa, bb, rfl, rfl, pa, vs, ii, jj, rfl, rfl, hq2, by rw [← ll]; exact ej, ?_⟩
        have so : SzO (.lst (vs.set jj (.int (g aa bb)))) := by
          show (vs.set jj _).length ≤ sizeLine
          rw [List.length_set]; exact hz
        refine hb _ X hX W σ Z2 (upd H2 pa (.lst (vs.set jj (.int (g aa bb))))) _ f st' D (rr2.mut (d' := Sn.D.lst (xs.set jj (.int (g aa bb)))) h0 ep rfl ⟨pa, _, rfl, upd_same, (lr.mono (s1.trans s2).zz).set (.int _) jj⟩ so) hm3 ?_
        exact (q.after (s1.trans s2).bst OwLe.refl (Γ1 := Γ) (σ1 := σ)).after (bst_mut rr2 h0 ep so) fun a h => .inl (own_mut h0 h)
      | _ => cases hg2
/-- {k: v} -/
theorem Stp.over {W : Wd} {Z H Z2 H2 : Hp} {p : Addr} {o u : HO} {st : S} (zh0 : ∀ a o, Z a = some o → H a = some o ∧ ¬ W.bx a) (bx : BoxS.R st W.β W.γ H) (hp : H p = none) (s : Stp W Z (upd H p o) Z2 H2) (su : SzO u) (so : SzO o) : Stp W Z H Z2 (upd H2 p u) ∧ Z2 p = none := by
  have zp : Z2 p = none := by
    cases q : Z2 p with
    | none => rfl
    | some w =>
      rcases s.nw p w q with h | h
      · rw [(zh0 p w h).1] at hp; cases hp
      · rw [upd_same] at h; cases h
  refine ⟨⟨s.zz, fun a w h => ?_, fun a w h nb => ?_, fun a w h => ?_, fun hs => (s.sz (hs.upd so)).upd su⟩, zp⟩
  · have hne : a ≠ p := fun e => by rw [e, zp] at h; cases h
    exact ⟨by rw [upd_ne hne]; exact (s.zh a w h).1, (s.zh a w h).2⟩
  · have hne : a ≠ p := fun e => by rw [e, hp] at h; cases h
    rw [upd_ne hne]
    exact s.hh a w (by rw [upd_ne hne]; exact h) nb
  · rcases s.nw a w h with h | h
    · exact .inl h
    · by_cases e : a = p
      · rw [e, upd_same] at h; cases h
      · rw [upd_ne e] at h; exact .inr h
def d1D (k v : D) : Option D := (kq k).map fun kk => .dct [(keyD kk, v)]
def d1M (mk mv : M S D) : M S D := bnd mk fun k => bnd mv fun v => lift (d1D k v)
theorem Ok.d1 {mv : M S D} (hk : Ok .V C Γ a mk) (hv : Ok .E C Γ b mv) : Ok .N C Γ (.Dict [some a] [b] pos) (d1M mk mv) := fun X hX W σ Z H st d st' Q r hm q => by
  obtain ⟨k, st1, h1, hm1⟩ := bnd_some hm
  obtain ⟨v, st2, h2, hm2⟩ := bnd_some hm1
  obtain ⟨hg, rfl⟩ := lift_some hm2
  obtain ⟨kk, hkk, rfl⟩ := Option.map_eq_some_iff.mp hg
  have ek := keyD_of hkk
  subst ek
  refine tU_of (pe_disp (pps_cons peU peU pps_nil) rfl rfl (by simp) (by simp)) fun p hp => ?_
  have s0 := Stp.layH (o := .dK []) r.zh hp trivial
  have r0 := r.step s0 (box_lay r.box hp)
  show tU X a σ (upd H p (.dK [])) fun x H1 => tU X b σ H1 fun y H2 => _
  refine hk X hX W σ Z _ st _ st1 _ r0 h1 fun vk Z1 H1 s1 b1 r1 => ?_
  refine hv X hX W σ Z1 H1 st1 _ _ _ (r0.step s1 b1) h2 fun vv Z2 H2 s2 b2 r2 => ?_
  have hrep := r2
  have s12 := s1.trans s2
  have ek : vk = kV kk := by
    cases kk with
    | inl i => cases r1.1; rfl
    | inr z => cases r1.1; rfl
  subst ek
  have nbp : ¬ W.bx p := BoxS.bxThere r.box hp
  have hH2 : H2 p = some (.dK []) := s12.hh p _ upd_same nbp
  refine ⟨hH2, [(kk, vv)], rfl, by simp, ?_⟩
  obtain ⟨s3, zp⟩ := Stp.over r.zh r.box hp s12 (u := .dK (mergeK [] [(kk, vv)])) trivial trivial
  have hb : BoxS.R st' W.β W.γ (upd H2 p (.dK (mergeK [] [(kk, vv)]))) := BoxS.congr b2 (upd_ne fun e => nbp (.inl e.symm)) (upd_ne fun e => nbp (.inr e.symm))
  refine q _ _ _ s3 hb ⟨⟨p, rfl, .inl ⟨_, upd_same, ?_⟩⟩, fun a ea _ => ?_⟩
  · exact RepK.cons hrep .nil
  · cases ea
    exact ⟨hp, zp, nbp⟩
end
end Sn

namespace Sn
open PySem PySem.Spec PyProof.Rows L2
/-! ### plain library, third part -/
section
variable {S : Type} {α β : Type}
theorem compLL_cons {f : α → M S (List β)} (x : α) (xs : List α) : compLL f (x :: xs) = bnd (f x) fun l => bnd (compLL f xs) fun ys => ret (l ++ ys) := rfl
theorem compLL_all {f : α → M S (List β)} (g : α → List β) : ∀ {xs : List α}, (∀ x ∈ xs, f x = ret (g x)) → compLL f xs = ret (xs.flatMap g)
  | [], _ => rfl
  | x :: xs, h => by
    rw [compLL_cons, h x List.mem_cons_self, r_bnd, compLL_all g fun y hy => h y (List.mem_cons_of_mem _ hy), r_bnd, List.flatMap_cons]
theorem compLL_map {γ : Type} {f : α → M S (List β)} (g : γ → α) : ∀ xs : List γ, compLL f (xs.map g) = compLL (fun c => f (g c)) xs
  | [] => rfl
  | x :: xs => by rw [List.map_cons, compLL_cons, compLL_cons, compLL_map g xs]
theorem comp2_ok {xs : List D} {f : D → M S (List D)} {ys : List D} (h : compLL f xs = ret ys) (hl : ys.length ≤ 16777216) : comp2M (ret xs) f = ret (.lst ys) := by
  unfold comp2M
  rw [r_bnd, h, r_bnd, if_pos (by rw [sizeLine_eq]; exact hl)]
theorem elt2_ok {m : M S (List D)} {f : D → M S (Option D)} : elt2M (ret true) m f = bnd m fun xs => compL f xs := rfl
end
theorem extT_ok {S τ l : Type} {xs ys : List D} {k : D → M S (Fl τ l)} (h : xs.length + ys.length ≤ 16777216) : extM (.lst xs) (ret (.tup ys)) k = k (.lst (xs ++ ys)) := by
  show bnd (lift (if xs.length + ys.length ≤ sizeLine then some (D.lst (xs ++ ys)) else none)) k = _
  rw [if_pos (by rw [sizeLine_eq]; exact h)]; rfl
end Sn

namespace Sn
open PySem PySem.Spec PyProof.Rows L2
/-! ### plain dicts -/
theorem dget_none {ds : List (D × D)} {k : Key} : dget ds k = none ↔ (ds.any fun p => decide (kq p.1 = some k)) = false := by
  unfold dget
  rw [Option.map_eq_none_iff, List.find?_eq_none, List.any_eq_false]
theorem keys_dput {ds : List (D × D)} {k : Key} {v : D} : (dput ds k v).map (·.1) = if (dget ds k).isSome = true then ds.map (·.1) else ds.map (·.1) ++ [keyD k] := by
  unfold dput
  cases e : dget ds k with
  | none =>
    rw [dget_none.mp e, if_neg Bool.false_ne_true, if_neg (by simp), List.map_append]
    rfl
  | some w =>
    have h : (ds.any fun p => decide (kq p.1 = some k)) = true := by
      cases q : (ds.any fun p => decide (kq p.1 = some k)) with
      | true => rfl
      | false => rw [dget_none.mpr q] at e; cases e
    rw [h, if_pos rfl, if_pos (by simp), List.map_map]
    apply List.map_congr_left
    intro p _
    show (if kq p.1 = some k then (p.1, v) else p).1 = p.1
    split <;> rfl
theorem dget_app {ds : List (D × D)} {k j : Key} {v : D} : dget (ds ++ [(keyD k, v)]) j = (dget ds j).or (if k = j then some v else none) := by
  unfold dget
  rw [List.find?_append]
  cases (ds.find? fun p => decide (kq p.1 = some j)) with
  | some p => rfl
  | none =>
    rw [List.find?_cons, kq_same]
    by_cases e : k = j
    · rw [decide_eq_true e, if_pos e]; rfl
    · rw [decide_eq_false e, if_neg e]; rfl
theorem dget_repl {k j : Key} {v : D} : ∀ {ds : List (D × D)}, dget (ds.map fun p => if kq p.1 = some k then (p.1, v) else p) j = if k = j then (dget ds j).map (fun _ => v) else dget ds j
  | [] => by simp [dget]
  | p :: ds => by
    have ih := dget_repl (k := k) (j := j) (v := v) (ds := ds)
    unfold dget at ih ⊢
    rw [List.map_cons, List.find?_cons, List.find?_cons]
    by_cases e : kq p.1 = some k
    · rw [if_pos e]
      by_cases e2 : k = j
      · subst e2
        rw [decide_eq_true e, if_pos rfl]
        rfl
      · have e3 : ¬ kq p.1 = some j := fun q => e2 (Option.some.inj (e.symm.trans q))
        rw [decide_eq_false e3, if_neg e2]
        rw [if_neg e2] at ih
        exact ih
    · rw [if_neg e]
      by_cases e2 : kq p.1 = some j
      · rw [decide_eq_true e2]
        have : ¬ k = j := fun q => e (q ▸ e2)
        rw [if_neg this]
      · rw [decide_eq_false e2]
        exact ih
theorem dget_dput {ds : List (D × D)} {k j : Key} {v : D} : dget (dput ds k v) j = if k = j then some v else dget ds j := by
  unfold dput
  by_cases h : (ds.any fun p => decide (kq p.1 = some k)) = true
  · rw [if_pos h, dget_repl]
    by_cases e : k = j
    · subst e
      rw [if_pos rfl, if_pos rfl]
      cases q : dget ds k with
      | none => rw [dget_none] at q; rw [q] at h; cases h
      | some w => rfl
    · rw [if_neg e, if_neg e]
  · rw [if_neg h, dget_app]
    have hn : dget ds k = none := dget_none.mpr (by simpa using h)
    by_cases e : k = j
    · subst e
      rw [hn, if_pos rfl]; rfl
    · rw [if_neg e, if_neg e]
      cases dget ds j <;> rfl
theorem sortI_ext {a b : List Int} (ha : a.Nodup) (hb : b.Nodup) (h : ∀ x, x ∈ a ↔ x ∈ b) : sortI a = sortI b :=
  sortI_of ((sortI_perm a).trans ((List.perm_ext_iff_of_nodup ha hb).mpr h)) (sortI_le a)
theorem mem_sortI {a : List Int} {x : Int} : x ∈ sortI a ↔ x ∈ a := (sortI_perm a).mem_iff
end Sn

namespace Sn
open PySem PySem.Spec PyProof.Rows L2
/-! ### stepping mirrors by simp: `sym` -/
section
variable {S : Type} {α β γ : Type} {τ l τ' l' : Type}
theorem compL_congr {f g : α → M S (Option β)} {xs ys : List α} (h : xs = ys) (hf : ∀ x ∈ ys, f x = g x) : compL f xs = compL g ys := by
  subst h
  induction xs with
  | nil => rfl
  | cons x xs ih => rw [compL_cons, compL_cons, hf x List.mem_cons_self, ih fun y hy => hf y (List.mem_cons_of_mem _ hy)]
/-- a comprehension, a loop, each turn told that its item is one of the list (a plain `if`, so that simp knows it in the turn) -/
def InP (xs : List α) (x : α) : Prop := x ∈ xs
theorem InP.mem {xs : List α} {x : α} (h : InP xs x) : x ∈ xs := h
noncomputable instance (xs : List α) (x : α) : Decidable (InP xs x) := Classical.propDecidable _
def compG (f : α → M S (Option β)) (xs : List α) : M S (List β) := compL f xs
theorem compG_of (f : α → M S (Option β)) (xs : List α) : compG (fun x => if InP xs x then f x else stuck) xs = compL f xs := compL_congr rfl fun x hx => if_pos hx
theorem compG_ret (g : α → β) (xs : List α) : compG (S := S) (fun x => if InP xs x then ret (some (g x)) else stuck) xs = ret (xs.map g) := (compG_of _ xs).trans (compL_all g fun _ _ => rfl)
theorem compG_none (xs : List α) : compG (S := S) (β := β) (fun x => if InP xs x then ret none else stuck) xs = ret [] := by
  refine (compG_of _ xs).trans ?_
  induction xs with
  | nil => rfl
  | cons x xs ih => rw [compL_cons, ih]; rfl
theorem compG_retIf (p : α → Bool) (g : α → β) (xs : List α) : compG (S := S) (fun x => if InP xs x then ret (if p x = true then some (g x) else none) else stuck) xs = ret ((xs.filter p).map g) := (compG_of _ xs).trans (compL_if p g fun x _ => by split <;> rfl)
theorem compL_filt (p : α → Bool) (m : α → M S (Option β)) (xs : List α) : compL (S := S) (fun x => if p x = true then m x else ret none) xs = compL m (xs.filter p) := by
  induction xs with
  | nil => rfl
  | cons x xs ih =>
    rw [compL_cons, List.filter_cons]
    cases p x
    · simp only [Bool.false_eq_true, if_false, r_bnd, ih]
      exact bnd_id _
    · simp only [if_true]
      rw [compL_cons, ih]
theorem compG_filt (p : α → Bool) (m : α → M S (Option β)) (xs : List α) : compG (S := S) (fun x => if InP xs x then (if p x = true then m x else ret none) else stuck) xs = compG (fun x => if InP (xs.filter p) x then m x else stuck) (xs.filter p) := by
  rw [compG_of, compG_of, compL_filt]
theorem eltM_ret (b : Bool) (m : M S D) : eltM (ret b) m = if b = true then bnd m fun y => ret (some y) else ret none := (rfl)
/-- a loop over items told by others -/
def forE (f : τ → α → M S (Fl τ τ)) (k : τ → M S (Fl τ' l')) : List α → τ → M S (Fl τ' l')
  | [], s => k s
  | x :: xs, s => bnd (f s x) fun fl => match fl with
    | .nx s' => forE f k xs s'
    | .ct s' => forE f k xs s'
    | .bk s' => k s'
    | .rt d => Sn.ret (.rt d)
theorem forL_E (e : α → D) (f : τ → D → M S (Fl τ τ)) (k : τ → M S (Fl τ' l')) : ∀ (xs : List α) (s : τ), forL f k (xs.map e) s = forE (fun s x => f s (e x)) k xs s
  | [], _ => rfl
  | x :: xs, s => by
    rw [List.map_cons, forL_cons]
    show _ = bnd _ _
    congr 1
    funext fl
    cases fl with
    | nx s => exact forL_E e f k xs s
    | ct s => exact forL_E e f k xs s
    | bk s => rfl
    | rt d => rfl
theorem forE_congr {f g : τ → α → M S (Fl τ τ)} {k k' : τ → M S (Fl τ' l')} {xs ys : List α} {s s' : τ} (h : xs = ys) (hf : ∀ s, ∀ x ∈ ys, f s x = g s x) (hk : ∀ s, k s = k' s) (hs : s = s') : forE f k xs s = forE g k' ys s' := by
  subst h hs
  induction xs generalizing s with
  | nil => exact hk s
  | cons x xs ih =>
    show bnd _ _ = bnd _ _
    rw [hf s x List.mem_cons_self]
    congr 1
    funext fl
    cases fl with
    | nx s => exact ih fun s y hy => hf s y (List.mem_cons_of_mem _ hy)
    | ct s => exact ih fun s y hy => hf s y (List.mem_cons_of_mem _ hy)
    | bk s => exact hk s
    | rt d => rfl
def forG (f : τ → α → M S (Fl τ τ)) (k : τ → M S (Fl τ' l')) (xs : List α) (s : τ) : M S (Fl τ' l') := forE f k xs s
theorem forG_E (f : τ → α → M S (Fl τ τ)) (k : τ → M S (Fl τ' l')) (xs : List α) (s : τ) : forG (fun s x => if InP xs x then f s x else stuck) k xs s = forE f k xs s := forE_congr rfl (fun _ x hx => if_pos hx) (fun _ => rfl) rfl
theorem forL_G (e : α → D) (f : τ → D → M S (Fl τ τ)) (k : τ → M S (Fl τ' l')) (xs : List α) (s : τ) : forL f k (xs.map e) s = forG (fun s x => if InP xs x then f s (e x) else stuck) k xs s := by rw [forG_E, forL_E]
theorem forG_unit (k : Unit → M S (Fl τ' l')) (xs : List α) : forG (fun _ x => if InP xs x then ret (.nx ()) else stuck) k xs () = k () := by
  rw [forG_E]
  induction xs with
  | nil => rfl
  | cons x xs ih => exact ih
theorem forE_find (p : α → Bool) (r : α → D) (k : Unit → M S (Fl τ' l')) (xs : List α) : forE (fun _ x => if p x = true then ret (.rt (r x)) else ret (.nx ())) k xs () = match xs.find? p with | some x => ret (.rt (r x)) | none => k () := by
  induction xs with
  | nil => rfl
  | cons x xs ih =>
    show bnd (if p x = true then ret (Fl.rt (r x)) else ret (Fl.nx ())) _ = _
    rw [List.find?_cons]
    cases p x
    · exact ih
    · rfl
theorem forG_find (p : α → Bool) (r : α → D) (k : Unit → M S (Fl τ' l')) (xs : List α) : forG (fun _ x => if InP xs x then (if p x = true then ret (.rt (r x)) else ret (.nx ())) else stuck) k xs () = match xs.find? p with | some x => ret (.rt (r x)) | none => k () := by rw [forG_E, forE_find]
/-- a loop whose state is told by a plain one -/
theorem forE_fold {σ : Type} (e : σ → τ) (g : σ → α → σ) (I : σ → Prop) {f : τ → α → M S (Fl τ τ)} {k : τ → M S (Fl τ' l')} : ∀ {xs : List α} {s : σ}, I s → (∀ s, I s → ∀ x ∈ xs, f (e s) x = ret (.nx (e (g s x))) ∧ I (g s x)) → forE f k xs (e s) = k (e (xs.foldl g s))
  | [], _, _, _ => rfl
  | x :: xs, s, hi, h => by
    obtain ⟨h1, h2⟩ := h s hi x List.mem_cons_self
    show bnd _ _ = _
    rw [h1, r_bnd, List.foldl_cons]
    exact forE_fold e g I h2 fun s hs y hy => h s hs y (List.mem_cons_of_mem _ hy)
theorem iteF_ret (b : Bool) (mA mB : M S (Fl τ' l)) (k : τ' → M S (Fl τ l)) : iteF (ret b) mA mB k = if b = true then bnd mA (fun f => seqF f k) else bnd mB (fun f => seqF f k) := r_iteF b mA mB k
theorem bcM_bnd (g : List D → Option D) (d : D) : bcM (S := S) g (ret [d]) = lift (g [d]) := (rfl)
theorem chainM_ret (g g' : D → D → Option D) (a b c : D) : chainM (S := S) g g' (ret a) (ret b) (ret c) = bnd (bnd (lift (g a b)) asB) fun t => if t = true then lift (g' b c) else ret (.bl false) := (rfl)
theorem chainT_ret (g g' : D → D → Option D) (a b c : D) : chainT (S := S) g g' (ret a) (ret b) (ret c) = bnd (bnd (lift (g a b)) asB) fun t => if t = true then bnd (lift (g' b c)) asB else ret false := (rfl)
theorem s_iteB (b c : Bool) : (if b = true then ret (.bl c) else ret (.bl false) : M S D) = ret (.bl (b && c)) := by cases b <;> rfl
theorem s_iteT (b c : Bool) : (if b = true then ret c else ret false : M S Bool) = ret (b && c) := by cases b <;> rfl
theorem lstD_map (f : α → D) (xs : List α) (h : xs.length ≤ 16777216) : lstD (xs.map f) = some (.lst (xs.map f)) := lstD_le (by rw [List.length_map]; exact h)
theorem lenT_map (f : α → D) (xs : List α) : lenD [.tup (xs.map f)] = some (.int xs.length) := by rw [r_lenT, List.length_map]
theorem lenL_map (f : α → D) (xs : List α) : lenD [.lst (xs.map f)] = some (.int xs.length) := by rw [r_lenL, List.length_map]
theorem s_comp {e : α → D} {xs : List α} {f : D → M S (Option D)} (h : xs.length ≤ 16777216) : compM (ret (xs.map e)) f = bnd (compG (fun x => if InP xs x then f (e x) else stuck) xs) fun ys => ret (.lst ys) := by
  rw [comp_ok (by rw [List.length_map]; exact h), compL_map, compG_of]
theorem s_all (p : α → Bool) (xs : List α) : allD [.lst (xs.map fun x => .bl (p x))] = some (.bl (xs.all p)) := by
  have : (xs.map fun x => D.bl (p x)) = (xs.map p).map D.bl := by rw [List.map_map]; rfl
  rw [this, all_bls, List.all_map]; rfl
theorem s_any (p : α → Bool) (xs : List α) : anyD [.lst (xs.map fun x => .bl (p x))] = some (.bl (xs.any p)) := by
  have : (xs.map fun x => D.bl (p x)) = (xs.map p).map D.bl := by rw [List.map_map]; rfl
  rw [this, any_bls, List.any_map]; rfl
theorem s_sum (p : α → Int) (xs : List α) : sumD [.lst (xs.map fun x => .int (p x))] = some (.int (xs.map p).sum) := by
  have : (xs.map fun x => D.int (p x)) = (xs.map p).map D.int := by rw [List.map_map]; rfl
  rw [this, sum_ints]
/-- the greatest, the least of a list that is not empty -/
def maxL : List Int → Int
  | [] => 0
  | i :: is => is.foldl (fun a b => if a < b then b else a) i
def minL : List Int → Int
  | [] => 0
  | i :: is => is.foldl (fun a b => if b < a then b else a) i
theorem s_max (p : α → Int) (xs : List α) (h : xs ≠ []) : maxD [.lst (xs.map fun x => .int (p x))] = some (.int (maxL (xs.map p))) := by
  have : (xs.map fun x => D.int (p x)) = (xs.map p).map D.int := by rw [List.map_map]; rfl
  rw [this]
  show ((asInts ((xs.map p).map D.int)).bind maxI).map D.int = _
  rw [asInts_map]
  cases xs with
  | nil => exact absurd rfl h
  | cons x xs => rfl
theorem s_min (p : α → Int) (xs : List α) (h : xs ≠ []) : minD [.lst (xs.map fun x => .int (p x))] = some (.int (minL (xs.map p))) := by
  have : (xs.map fun x => D.int (p x)) = (xs.map p).map D.int := by rw [List.map_map]; rfl
  rw [this]
  show ((asInts ((xs.map p).map D.int)).bind minI).map D.int = _
  rw [asInts_map]
  cases xs with
  | nil => exact absurd rfl h
  | cons x xs => rfl
theorem max2_ok (i j : Int) : maxD [.int i, .int j] = some (.int (max i j)) := by
  show some (D.int (if j > i then j else i)) = _
  congr 2
  split <;> omega
theorem min2_ok (i j : Int) : minD [.int i, .int j] = some (.int (min i j)) := by
  show some (D.int (if j < i then j else i)) = _
  congr 2
  split <;> omega
theorem maxL_spec : ∀ {xs : List Int}, xs ≠ [] → maxL xs ∈ xs ∧ ∀ y ∈ xs, y ≤ maxL xs := by
  intro xs h
  cases xs with
  | nil => exact absurd rfl h
  | cons i is =>
    show is.foldl (fun a b => if a < b then b else a) i ∈ i :: is ∧ ∀ y ∈ i :: is, y ≤ is.foldl (fun a b => if a < b then b else a) i
    clear h
    induction is generalizing i with
    | nil => exact ⟨by simp, fun y hy => by simp at hy; subst hy; exact Int.le_refl _⟩
    | cons j js ih =>
      rw [List.foldl_cons]
      obtain ⟨h1, h2⟩ := ih (if i < j then j else i)
      constructor
      · rcases List.mem_cons.mp h1 with e | e
        · rw [e]; split <;> simp
        · exact List.mem_cons_of_mem _ (List.mem_cons_of_mem _ e)
      · intro y hy
        have h3 := h2 (if i < j then j else i) List.mem_cons_self
        have h4 : i ≤ (if i < j then j else i) ∧ j ≤ (if i < j then j else i) := by split <;> omega
        rcases List.mem_cons.mp hy with e | hy
        · rw [e]; exact Int.le_trans h4.1 h3
        · rcases List.mem_cons.mp hy with e | hy
          · rw [e]; exact Int.le_trans h4.2 h3
          · exact h2 y (List.mem_cons_of_mem _ hy)
theorem minL_spec : ∀ {xs : List Int}, xs ≠ [] → minL xs ∈ xs ∧ ∀ y ∈ xs, minL xs ≤ y := by
  intro xs h
  cases xs with
  | nil => exact absurd rfl h
  | cons i is =>
    show is.foldl (fun a b => if b < a then b else a) i ∈ i :: is ∧ ∀ y ∈ i :: is, is.foldl (fun a b => if b < a then b else a) i ≤ y
    clear h
    induction is generalizing i with
    | nil => exact ⟨by simp, fun y hy => by simp at hy; subst hy; exact Int.le_refl _⟩
    | cons j js ih =>
      rw [List.foldl_cons]
      obtain ⟨h1, h2⟩ := ih (if j < i then j else i)
      constructor
      · rcases List.mem_cons.mp h1 with e | e
        · rw [e]; split <;> simp
        · exact List.mem_cons_of_mem _ (List.mem_cons_of_mem _ e)
      · intro y hy
        have h3 := h2 (if j < i then j else i) List.mem_cons_self
        have h4 : (if j < i then j else i) ≤ i ∧ (if j < i then j else i) ≤ j := by split <;> omega
        rcases List.mem_cons.mp hy with e | hy
        · rw [e]; exact Int.le_trans h3 h4.1
        · rcases List.mem_cons.mp hy with e | hy
          · rw [e]; exact Int.le_trans h3 h4.2
          · exact h2 y (List.mem_cons_of_mem _ hy)
theorem maxL_iff {xs : List Int} (h : xs ≠ []) (k : Int) : maxL xs ≤ k ↔ ∀ x ∈ xs, x ≤ k := ⟨fun q x hx => Int.le_trans ((maxL_spec h).2 x hx) q, fun q => q _ (maxL_spec h).1⟩
theorem in_ints {α : Type} (x : Int) (xs : List α) (p : α → Int) : inD (.int x) (.lst (xs.map fun y => .int (p y))) = some (.bl (decide (x ∈ xs.map p))) := by
  have e : (xs.map fun y => D.int (p y)) = (xs.map p).map D.int := by rw [List.map_map]; rfl
  rw [e, inL_pl (n := 1) (.int _) (pl_ints _) (by decide)]
  congr 2
  rw [decide_eq_decide, List.mem_map]
  constructor
  · rintro ⟨y, hy, e⟩; cases e; exact hy
  · intro h; exact ⟨x, h, rfl⟩
theorem s_zipL (xs ys : List D) : zipM2 (S := S) (ret (.lst xs)) (ret (.lst ys)) = ret (zipT xs ys) := (rfl)
theorem s_zipT (xs ys : List D) : zipM2 (S := S) (ret (.tup xs)) (ret (.tup ys)) = ret (zipT xs ys) := (rfl)
theorem zipT_map {β : Type} (f : α → D) (g : β → D) : ∀ (xs : List α) (ys : List β), zipT (xs.map f) (ys.map g) = (xs.zip ys).map fun p => .tup [f p.1, g p.2]
  | [], _ => by cases ‹List β› <;> rfl
  | _ :: _, [] => rfl
  | x :: xs, y :: ys => by
    rw [List.map_cons, List.map_cons, List.zip_cons_cons, List.map_cons, ← zipT_map f g xs ys]
    rfl
theorem s_count (x : Int) (xs : List Int) : mlM (S := S) countD (ret (.lst (xs.map .int))) (ret [.int x]) = ret (.int (xs.count x : Nat)) := by
  show lift (countD (xs.map .int) [.int x]) = _
  unfold countD
  rw [asInts_map]
  rfl
theorem s_atR {α : Type} (g : Nat → α) {n s : Nat} (h : s < n) : atI ((List.range n).map g) (s : Int) = some (g s) := by
  rw [atI_ok (by omega) (by rw [List.length_map, List.length_range]; omega)]
  simp
theorem s_atC0 {α : Type} (x : α) (xs : List α) : atI (x :: xs) 0 = some x := by
  rw [atI_ok (by decide) (by rw [List.length_cons]; omega)]
  rfl
theorem s_atC1 {α : Type} (x y : α) (xs : List α) : atI (x :: y :: xs) 1 = some y := by
  rw [atI_ok (by decide) (by rw [List.length_cons, List.length_cons]; omega)]
  rfl
theorem s_atC2 {α : Type} (x y z : α) (xs : List α) : atI (x :: y :: z :: xs) 2 = some z := by
  rw [atI_ok (by decide) (by rw [List.length_cons, List.length_cons, List.length_cons]; omega)]
  rfl
theorem s_in_nats (x : Nat) (xs : List Nat) : inD (.int (x : Int)) (.lst (xs.map fun k : Nat => .int (k : Int))) = some (.bl (decide (x ∈ xs))) := by
  have e : (xs.map fun k : Nat => D.int (k : Int)) = (xs.map fun k : Nat => (k : Int)).map D.int := by rw [List.map_map]; rfl
  rw [e, inL_pl (n := 1) (.int _) (pl_ints _) (by decide)]
  congr 2
  rw [decide_eq_decide, List.mem_map]
  constructor
  · rintro ⟨y, hy, e⟩
    obtain ⟨z, hz, rfl⟩ := List.mem_map.mp hy
    cases e; exact hz
  · intro h; exact ⟨x, List.mem_map.mpr ⟨x, h, rfl⟩, rfl⟩
theorem s_nin_nats (x : Nat) (xs : List Nat) : ninD (.int (x : Int)) (.lst (xs.map fun k : Nat => .int (k : Int))) = some (.bl (!decide (x ∈ xs))) := by
  have e : (xs.map fun k : Nat => D.int (k : Int)) = (xs.map fun k : Nat => (k : Int)).map D.int := by rw [List.map_map]; rfl
  rw [e, ninL_pl (n := 1) (.int _) (pl_ints _) (by decide)]
  congr 3
  rw [decide_eq_decide, List.mem_map]
  constructor
  · rintro ⟨y, hy, e⟩
    obtain ⟨z, hz, rfl⟩ := List.mem_map.mp hy
    cases e; exact hz
  · intro h; exact ⟨x, List.mem_map.mpr ⟨x, h, rfl⟩, rfl⟩
theorem s_app {xs : List D} {y : D} {k : D → M S (Fl τ l)} (h : xs.length < 16777216) : appM (.lst xs) (ret y) k = k (.lst (xs ++ [y])) := Sn.app_ok h
theorem s_extL {xs ys : List D} {k : D → M S (Fl τ l)} (h : xs.length + ys.length ≤ 16777216) : extM (.lst xs) (ret (.lst ys)) k = k (.lst (xs ++ ys)) := Sn.ext_ok h
theorem s_extT {xs ys : List D} {k : D → M S (Fl τ l)} (h : xs.length + ys.length ≤ 16777216) : extM (.lst xs) (ret (.tup ys)) k = k (.lst (xs ++ ys)) := Sn.extT_ok h
theorem s_pat2 {γ : Type} (f : D → D → M S γ) (a b : D) : pat2 f (.tup [a, b]) = f a b := (rfl)
theorem s_pat3 {γ : Type} (f : D → D → D → M S γ) (a b c : D) : pat3 f (.tup [a, b, c]) = f a b c := (rfl)
end
end Sn

namespace Sn
open PySem PySem.Spec PyProof.Rows L2
/-! ### sorted(dict([(x, ..) for x in xs])): the members once each, in order -/
/-- the members, once each -/
def dedI {α : Type} [DecidableEq α] (xs : List α) : List α := xs.foldr (fun x acc => if x ∈ acc then acc else x :: acc) []
theorem dedI_cons {α : Type} [DecidableEq α] (x : α) (xs : List α) : dedI (x :: xs) = if x ∈ dedI xs then dedI xs else x :: dedI xs := rfl
theorem mem_dedI {α : Type} [DecidableEq α] {xs : List α} {x : α} : x ∈ dedI xs ↔ x ∈ xs := by
  induction xs with
  | nil => exact Iff.rfl
  | cons y xs ih =>
    rw [dedI_cons]
    split
    · rename_i h
      rw [ih, List.mem_cons]
      constructor
      · exact .inr
      · rintro (rfl | h2)
        · exact ih.mp h
        · exact h2
    · rw [List.mem_cons, List.mem_cons, ih]
theorem nodup_dedI {α : Type} [DecidableEq α] (xs : List α) : (dedI xs).Nodup := by
  induction xs with
  | nil => exact .nil
  | cons y xs ih =>
    rw [dedI_cons]
    split
    · exact ih
    · rename_i h
      exact List.nodup_cons.mpr ⟨h, ih⟩
/-- .. ascending -/
def uniqI (xs : List Int) : List Int := sortI (dedI xs)
theorem mem_uniqI {xs : List Int} {x : Int} : x ∈ uniqI xs ↔ x ∈ xs := by unfold uniqI; rw [mem_sortI, mem_dedI]
theorem uniqI_lt (xs : List Int) : (uniqI xs).Pairwise (· < ·) := by
  have h1 := sortI_le (dedI xs)
  have h2 : (sortI (dedI xs)).Nodup := (sortI_perm (dedI xs)).nodup_iff.mpr (nodup_dedI xs)
  unfold uniqI
  exact (h1.and h2).imp fun ⟨a, b⟩ => by omega
theorem uniqI_of {ks xs : List Int} (h : ks.Nodup) (m : ∀ x, x ∈ ks ↔ x ∈ xs) : sortI ks = uniqI xs := sortI_ext h (nodup_dedI xs) fun x => by rw [m, mem_dedI]
theorem asKV_map {α : Type} (k : α → Int) (v : α → D) : ∀ xs : List α, asKV (xs.map fun x => .tup [.int (k x), v x]) = some (xs.map fun x => (.inl (k x), v x))
  | [] => rfl
  | x :: xs => by
    rw [List.map_cons]
    show (kq (.int (k x))).bind (fun q => (asKV (xs.map fun x => .tup [.int (k x), v x])).map fun r => (q, v x) :: r) = _
    rw [asKV_map k v xs]
    rfl
theorem dput_keys {α : Type} (k : α → Int) (v : α → D) : ∀ (xs : List α) (ds : List (D × D)) (ks pre : List Int), ds.map (·.1) = ks.map D.int → ks.Nodup → (∀ x, x ∈ ks ↔ x ∈ pre) →
    ∃ (ds' : List (D × D)) (ks' : List Int), ((xs.map fun x => ((.inl (k x) : Key), v x)).foldl (fun acc p => dput acc p.1 p.2) ds) = ds' ∧ ds'.map (·.1) = ks'.map D.int ∧ ks'.Nodup ∧ (∀ x, x ∈ ks' ↔ x ∈ pre ++ xs.map k)
  | [], ds, ks, pre, h1, h2, h3 => ⟨ds, ks, rfl, h1, h2, by simpa using h3⟩
  | x :: xs, ds, ks, pre, h1, h2, h3 => by
    rw [List.map_cons, List.foldl_cons]
    have hk := keys_dput (ds := ds) (k := .inl (k x)) (v := v x)
    by_cases hx : k x ∈ ks
    · have : (dget ds (.inl (k x))).isSome = true := by
        cases q : dget ds (.inl (k x)) with
        | some _ => rfl
        | none =>
          rw [dget_none, List.any_eq_false] at q
          have : D.int (k x) ∈ ds.map (·.1) := by rw [h1]; exact List.mem_map.mpr ⟨_, hx, rfl⟩
          obtain ⟨p, hp, e⟩ := List.mem_map.mp this
          have := q p hp
          rw [e] at this
          exact absurd (decide_eq_true (rfl : kq (D.int (k x)) = some (Sum.inl (k x)))) this
      rw [if_pos this] at hk
      have hm : ∀ y, y ∈ ks ↔ y ∈ pre ++ [k x] := fun y => by
        rw [h3 y, List.mem_append, List.mem_singleton]
        constructor
        · exact .inl
        · rintro (h | rfl)
          · exact h
          · exact (h3 _).mp hx
      obtain ⟨ds', ks', e1, e2, e3, e4⟩ := dput_keys k v xs (dput ds (.inl (k x)) (v x)) ks (pre ++ [k x]) (hk.trans h1) h2 hm
      exact ⟨ds', ks', e1, e2, e3, fun y => by rw [e4 y, List.append_assoc]; rfl⟩
    · have : ¬ (dget ds (.inl (k x))).isSome = true := by
        intro q
        cases q2 : dget ds (.inl (k x)) with
        | none => rw [q2] at q; cases q
        | some w =>
          unfold dget at q2
          obtain ⟨p, hp, _⟩ := Option.map_eq_some_iff.mp q2
          have hm := List.mem_of_find?_eq_some hp
          have hq : kq p.1 = some (Sum.inl (k x)) := by simpa using List.find?_some hp
          have he := keyD_of hq
          have : p.1 ∈ ds.map (·.1) := List.mem_map.mpr ⟨p, hm, rfl⟩
          rw [h1] at this
          obtain ⟨z, hz, ez⟩ := List.mem_map.mp this
          rw [← ez] at hq
          have : z = k x := by simpa [kq] using hq
          exact hx (this ▸ hz)
      rw [if_neg this] at hk
      obtain ⟨ds', ks', e1, e2, e3, e4⟩ := dput_keys k v xs (dput ds (.inl (k x)) (v x)) (ks ++ [k x]) (pre ++ [k x]) (by rw [hk, h1, List.map_append]; rfl) (by
        rw [List.nodup_append]
        exact ⟨h2, by simp, fun a ha b hb e => by rw [List.mem_singleton] at hb; subst hb; subst e; exact hx ha⟩) (fun y => by rw [List.mem_append, List.mem_append, h3 y])
      exact ⟨ds', ks', e1, e2, e3, fun y => by rw [e4 y, List.append_assoc]; rfl⟩
/-- dict([(k x, v x) for x in xs]) -/
def dctI {α : Type} (k : α → Int) (v : α → D) (xs : List α) : List (D × D) := (xs.map fun x => ((.inl (k x) : Key), v x)).foldl (fun acc p => dput acc p.1 p.2) []
theorem dict_map {α : Type} (k : α → Int) (v : α → D) (xs : List α) : dictD [.lst (xs.map fun x => .tup [.int (k x), v x])] = some (.dct (dctI k v xs)) := by
  show (asKV _).map _ = _
  rw [asKV_map, Option.map_some]
  rfl
theorem sorted_dctI {α : Type} (k : α → Int) (v : α → D) (xs : List α) (h : (uniqI (xs.map k)).length < 64) : sortedD [.dct (dctI k v xs)] = some (.lst ((uniqI (xs.map k)).map .int)) := by
  obtain ⟨ds', ks', e1, e2, e3, e4⟩ := dput_keys k v xs [] [] [] rfl .nil fun _ => Iff.rfl
  rw [List.nil_append] at e4
  have eu := uniqI_of e3 e4
  show (asInts ((dctI k v xs).map (·.1))).bind _ = _
  rw [show dctI k v xs = ds' from e1, e2, asInts_map, Option.bind_some, if_pos (by
    have h1 := congrArg List.length eu
    rw [(sortI_perm ks').length_eq] at h1
    omega), eu]
/-! ### rules for whatever the box gives -/
section
variable {S : Type} {α β : Type} {τ l τ' l' : Type}
theorem Wp.val {m : M S α} {v : α} {k : α → M S β} {P : β → Prop} (h : m = Sn.ret v) (q : Wp (k v) P) : Wp (Sn.bnd m k) P := Wp.bnd (Wp.eq h (Wp.ret q))
theorem Wp.off {n : M S Bool} {mA : M S (Fl τ' l)} {s : τ'} {k : τ' → M S (Fl τ l)} {P : Fl τ l → Prop} (h : n = Sn.ret false) (q : Wp (k s) P) : Wp (iteF n mA (Sn.ret (.nx s)) k) P := by
  subst h
  exact q
theorem Wp.ownV {m : M S D} {d : D} {k : D → M S (Fl τ l)} {P : Fl τ l → Prop} (h : m = Sn.ret d) (e : isMut d = true) (q : Wp (k d) P) : Wp (ownM m k) P := Wp.own (Wp.eq h (Wp.ret ⟨e, q⟩))
theorem Wp.parE {mu mv : M S D} {k : D → D → M S (Fl τ l)} {P : Fl τ l → Prop} (h : Wp mu fun d => Wp mv fun e => Wp (k d e) P) : Wp (parM .E .E mu mv k) P :=
  Wp.bnd (h.mono fun _ h => Wp.bnd (h.mono fun _ h => by rw [if_pos ⟨rfl, rfl⟩]; exact h))
theorem Wp.forN {f : Unit → D → M S (Fl Unit Unit)} {k : Unit → M S (Fl τ' l')} {mi : M S (List D)} {xs : List D} {P : Fl τ' l' → Prop} (hi : mi = Sn.ret xs) (h : ∀ x ∈ xs, Wp (f () x) fun fl => fl = .nx ()) (hk : Wp (k ()) P) : Wp (forM' mi f () k) P := by
  subst hi
  exact Wp.forU h hk
/-- .. some items of a comprehension, as draws have it -/
theorem Wp.compS {f : α → M S (Option β)} {R : β → Prop} : ∀ {xs : List α} {P : List β → Prop}, (∀ x ∈ xs, Wp (f x) fun o => ∀ y, o = some y → R y) → (∀ ys, ys.length ≤ xs.length → (∀ y ∈ ys, R y) → P ys) → Wp (compL f xs) P
  | [], P, _, q => Wp.ret (q [] (Nat.le_refl _) fun _ h => by cases h)
  | x :: xs, P, h, q => by
    rw [compL_cons]
    refine Wp.bnd (Wp.mono (h x List.mem_cons_self) fun o ho => ?_)
    refine Wp.bnd (Wp.compS (R := R) (fun z hz => h z (List.mem_cons_of_mem _ hz)) fun ys hl hr => Wp.ret ?_)
    cases o with
    | none => exact q ys (by rw [List.length_cons]; omega) hr
    | some y =>
      refine q (y :: ys) (by rw [List.length_cons, List.length_cons]; omega) fun z hz => ?_
      rcases List.mem_cons.mp hz with e | hz
      · rw [e]; exact ho _ rfl
      · exact hr z hz
theorem Wp.eltC {n : M S Bool} {m : M S D} {P : Option D → Prop} (h : Wp n fun b => if b = true then Wp m fun y => P (some y) else P none) : Wp (eltM n m) P :=
  Wp.bnd (h.mono fun b h => by
    cases b with
    | true => exact Wp.bnd ((show Wp m _ from h).mono fun _ p => Wp.ret p)
    | false => exact Wp.ret h)
theorem Wp.drawn {k : Int} {P : D → Prop} (h : 0 < k) (h2 : k < 1073741824) (q : ∀ d : Nat, (d : Int) < k → P (.int (d : Int))) : Wp (Sn.bnd (consM (Sn.ret .box) (consM (Sn.ret (.int k)) (Sn.ret []))) m_draw) P :=
  Wp.drawc h h2 fun d d1 d2 => by
    have := q d.toNat (by omega)
    rwa [Int.toNat_of_nonneg d1] at this
end
theorem nodup_len {α : Type} [DecidableEq α] : ∀ {a b : List α}, a.Nodup → (∀ x ∈ a, x ∈ b) → a.length ≤ b.length
  | [], _, _, _ => Nat.zero_le _
  | x :: a, b, h, m => by
    rw [List.nodup_cons] at h
    have hx := m x List.mem_cons_self
    have := nodup_len (a := a) (b := b.erase x) h.2 fun y hy => (List.mem_erase_of_ne (fun e : y = x => h.1 (by rw [← e]; exact hy))).mpr (m y (List.mem_cons_of_mem _ hy))
    rw [List.length_erase_of_mem hx] at this
    have := List.length_pos_of_mem hx
    rw [List.length_cons]
    omega
/-- a loop that appends -/
theorem forE_app {S α γ : Type} {τ' l' : Type} {enc : γ → D} (g : α → γ) {f : D → α → M S (Fl D D)} {k : D → M S (Fl τ' l')} : ∀ {xs : List α} (acc : List γ), acc.length + xs.length ≤ 16777216 →
    (∀ ls : List γ, ls.length < 16777216 → ∀ x ∈ xs, f (.lst (ls.map enc)) x = ret (.nx (.lst (ls.map enc ++ [enc (g x)])))) → forE f k xs (.lst (acc.map enc)) = k (.lst ((acc ++ xs.map g).map enc))
  | [], acc, _, _ => by rw [List.map_nil, List.append_nil]; rfl
  | x :: xs, acc, hl, h => by
    rw [List.length_cons] at hl
    show bnd (f (.lst (acc.map enc)) x) _ = _
    rw [h acc (by omega) x List.mem_cons_self, r_bnd]
    have := forE_app (k := k) g (xs := xs) (acc ++ [g x]) (by rw [List.length_append]; simp; omega) fun ls hls y hy => h ls hls y (List.mem_cons_of_mem _ hy)
    rw [List.map_append] at this
    rw [List.map_cons, show acc ++ g x :: xs.map g = acc ++ [g x] ++ xs.map g by simp]
    exact this
theorem Wp.pure {S τ l τ' l' : Type} {s : τ'} {m : (τ' → M S (Fl τ l)) → M S (Fl τ l)} {k : τ' → M S (Fl τ l)} {P : Fl τ l → Prop} (h : ∀ k, m k = k s) (q : Wp (k s) P) : Wp (m k) P := Wp.eq (h k) q
theorem Wp.forP {S τ τ' l' : Type} {mi : M S (List D)} {f : τ → D → M S (Fl τ τ)} {s0 s1 : τ} {k : τ → M S (Fl τ' l')} {P : Fl τ' l' → Prop} (h : ∀ k' : τ → M S (Fl τ' l'), forM' mi f s0 k' = k' s1) (q : Wp (k s1) P) : Wp (forM' mi f s0 k) P := Wp.eq (h k) q
/-- a search that finds at the first that does -/
def hitF {S τ l : Type} (k : τ) (o : Option D) : M S (Fl τ l) := match o with
  | some d => ret (.rt d)
  | none => ret (.nx k)
theorem forE_hit {S α : Type} {τ' l' : Type} (g : α → Option D) (k : Unit → M S (Fl τ' l')) (xs : List α) : forE (fun (_ : Unit) x => hitF () (g x)) k xs () = match xs.findSome? g with | some d => ret (.rt d) | none => k () := by
  induction xs with
  | nil => rfl
  | cons x xs ih =>
    show bnd (hitF () (g x)) _ = _
    rw [List.findSome?_cons]
    cases g x
    · exact ih
    · rfl
end Sn

namespace Sn
open PySem PySem.Spec PyProof.Rows L2
/-! ### sorted(set(xs)), tuples of ints -/
def asTups : List D → Option (List (List Int))
  | [] => some []
  | .tup xs :: ds => (asInts xs).bind fun is => (asTups ds).map fun r => is :: r
  | _ => none
def cod (k : List Int) : Int := TS.code 64 k
def tupOk (d : Nat) (ks : List (List Int)) : Prop := ks.length < 64 ∧ 1 ≤ d ∧ ∀ k ∈ ks, k.length = d ∧ TS.Bd 64 k
def canT (ks : List (List Int)) : List (List Int) := (uniqI (ks.map cod)).map fun c => (ks.find? fun k => decide (cod k = c)).getD []
def tI' (is : List Int) : D := .tup (is.map .int)
open Classical in
noncomputable def ssD : List D → Option D
  | [.lst xs] => (asTups xs).bind fun ks => if ∃ d, tupOk d ks then some (.lst ((canT ks).map tI')) else none
  | _ => none
theorem cod_inj : ∀ {x y : List Int}, x.length = y.length → TS.Bd 64 x → TS.Bd 64 y → cod x = cod y → x = y
  | [], [], _, _, _, _ => rfl
  | [], _ :: _, h, _, _, _ => by simp at h
  | _ :: _, [], h, _, _, _ => by simp at h
  | a :: x, b :: y, h, hx, hy, e => by
    have hl : x.length = y.length := by simpa using h
    have hab : a = b := by
      rcases Int.lt_trichotomy a b with q | q | q
      · have := TS.code_lt hl hx.tail hy.tail q
        unfold cod at e; omega
      · exact q
      · have := TS.code_lt hl.symm hy.tail hx.tail q
        unfold cod at e; omega
    subst hab
    have e2 : cod x = cod y := by
      have h1 := TS.code_same (B := 64) (d := a) hl
      have h2 := TS.code_same (B := 64) (d := a) hl.symm
      unfold cod at e ⊢
      omega
    rw [cod_inj hl hx.tail hy.tail e2]
theorem find_cod {d : Nat} {ks : List (List Int)} (h : tupOk d ks) {k : List Int} (hk : k ∈ ks) : (ks.find? fun k' => decide (cod k' = cod k)).getD [] = k := by
  cases e : ks.find? fun k' => decide (cod k' = cod k) with
  | none => exact absurd (List.find?_eq_none.mp e k hk) (by simp)
  | some k' =>
    have h1 := List.mem_of_find?_eq_some e
    have h2 := List.find?_some e
    obtain ⟨l1, b1⟩ := h.2.2 k hk
    obtain ⟨l2, b2⟩ := h.2.2 k' h1
    show k' = k
    exact cod_inj (by rw [l1, l2]) b2 b1 (of_decide_eq_true h2)
theorem canT_mem {ks : List (List Int)} {d : Nat} (h : tupOk d ks) {k : List Int} : k ∈ canT ks ↔ k ∈ ks := by
  unfold canT
  rw [List.mem_map]
  constructor
  · rintro ⟨c, hc, rfl⟩
    obtain ⟨k, hk, rfl⟩ := List.mem_map.mp (mem_uniqI.mp hc)
    rw [find_cod h hk]
    exact hk
  · intro hk
    exact ⟨cod k, mem_uniqI.mpr (List.mem_map.mpr ⟨k, hk, rfl⟩), find_cod h hk⟩
theorem canT_len (ks : List (List Int)) : (canT ks).length ≤ ks.length := by
  unfold canT uniqI
  rw [List.length_map, (sortI_perm _).length_eq]
  have : ∀ xs : List Int, (dedI xs).length ≤ xs.length := fun xs => by
    have hn := nodup_dedI xs
    exact nodup_len hn fun x hx => mem_dedI.mp hx
  have := this (ks.map cod)
  rwa [List.length_map] at this
/-- what the machine gives is just this -/
theorem canT_of {d : Nat} {ks L : List (List Int)} (h : tupOk d ks) (m : ∀ k, k ∈ L ↔ k ∈ ks) (nd : L.Nodup) (pw : L.Pairwise fun q r => cod q ≤ cod r) : L = canT ks := by
  have hc : L.map cod = uniqI (ks.map cod) := by
    have hnd : (L.map cod).Nodup := by
      unfold List.Nodup
      rw [List.pairwise_map]
      refine (List.Pairwise.and_mem.mp nd).imp fun {x y} ⟨hx, hy, hne⟩ e => hne ?_
      obtain ⟨l1, b1⟩ := h.2.2 x ((m x).mp hx)
      obtain ⟨l2, b2⟩ := h.2.2 y ((m y).mp hy)
      exact cod_inj (by rw [l1, l2]) b1 b2 e
    rw [← uniqI_of hnd (fun x => by simp only [List.mem_map, m])]
    exact sortI_of (List.Perm.refl _) (List.pairwise_map.mpr pw)
  unfold canT
  rw [← hc, List.map_map]
  conv => lhs; rw [← List.map_id L]
  apply List.map_congr_left
  intro k hk
  exact (find_cod h ((m k).mp hk)).symm
theorem asInts_eq : ∀ {ds : List D} {is : List Int}, asInts ds = some is → ds = is.map D.int
  | [], is, h => by cases h; rfl
  | d :: ds, is, h => by
    cases d with
    | int i =>
      cases e : asInts ds with
      | none => simp [asInts, e] at h
      | some js =>
        have : is = i :: js := by simp [asInts, e] at h; exact h.symm
        subst this
        rw [List.map_cons, ← asInts_eq e]
    | _ => simp [asInts] at h
theorem asTups_rep {K : PySem.W.Frag} {β : Addr} {Z H : Hp} (zh : Sub Z H) : ∀ {ds : List D} {vs : List V} {ks : List (List Int)}, RepL K β Z ds vs → asTups ds = some ks → ∃ ps : List (Addr × List Int), vs = ps.map (fun p => V.ref p.1) ∧ ps.map (·.2) = ks ∧ (∀ p ∈ ps, SqT K H p.1 (p.2.map V.int)) ∧ ∀ p ∈ ps, Rep K β Z (tI' p.2) (.ref p.1)
  | _, _, ks, .nil, h => by cases h; exact ⟨[], rfl, rfl, fun p h => (by cases h), fun p h => (by cases h)⟩
  | _, _, ks, .cons (d := d) (ds := ds) r t, e => by
    cases d with
    | tup xs =>
      obtain ⟨is, h1, e2⟩ := Option.bind_eq_some_iff.mp (show (asInts xs).bind (fun is => (asTups ds).map fun r => is :: r) = some ks from e)
      obtain ⟨r', e3, rfl⟩ := Option.map_eq_some_iff.mp e2
      obtain ⟨ps, rfl, h2, h3, h4⟩ := asTups_rep zh t e3
      cases r with
      | tup hq l =>
        have := asInts_rep l h1
        subst this
        have hx : xs = is.map D.int := asInts_eq h1
        subst hx
        refine ⟨(_, is) :: ps, rfl, by rw [List.map_cons, h2], fun p hp => ?_, fun p hp => ?_⟩
        · rcases List.mem_cons.mp hp with rfl | hp
          · exact zh.sqT hq
          · exact h3 p hp
        · rcases List.mem_cons.mp hp with rfl | hp
          · exact .tup hq l
          · exact h4 p hp
    | _ => cases e
open Classical in
theorem ssD_inv {x d : D} (h : ssD [x] = some d) : ∃ xs ks n, x = .lst xs ∧ asTups xs = some ks ∧ tupOk n ks ∧ d = .lst ((canT ks).map tI') := by
  unfold ssD at h
  split at h
  · rename_i xs e
    cases e
    obtain ⟨ks, e1, e2⟩ := Option.bind_eq_some_iff.mp h
    split at e2
    · rename_i hok
      obtain ⟨n, hok⟩ := hok
      cases e2
      exact ⟨xs, ks, n, rfl, e1, hok, rfl⟩
    · cases e2
  · cases h
section
variable {S : Type} [BoxS S] {C : Stat} {Γ : SCx} {a : Expr} {ma : M S D} {mda : Md} {pos pos2 p p2 : Pos}
noncomputable def ssM (ma : M S D) : M S D := bnd ma fun x => lift (ssD [x])
theorem Ok.sset (ha : Ok mda C Γ a ma) (hg : C.sc.names.lookup ("sorted" : Str) = some .globalImplicit) (hm : C.G.mg "sorted" = none) (hg2 : C.sc.names.lookup ("set" : Str) = some .globalImplicit) (hm2 : C.G.mg "set" = none) (hp : plainArg a = true := by rfl)
    (hb : bootBuiltins "sorted" = some (.builtin "sorted") := by decide +kernel) (hb2 : bootBuiltins "set" = some (.type "set") := by decide +kernel) :
    Ok .N C Γ (.Call (.Name "sorted" p) [.Call (.Name "set" p2) [a] [] pos2] [] pos) (ssM ma) := fun X hX W σ Z H st d st' Q r hm' q => by
  obtain ⟨x, st1, h1, hm1⟩ := bnd_some hm'
  obtain ⟨hgd, rfl⟩ := lift_some hm1
  have hu := hX.units
  refine tU_of (pe_callB (cr_sortedT hX.calm) (hX.glob hg) (hX.none hm) hb (pa_cons (pe_callTy (cr_setOfT hX.calm (by omega)) (hX.glob hg2) (hX.none hm2) hb2 (pa_cons peU pa_nil (starEach_plain _ hp)) (by decide) (by decide) (starEach_plain _ hp)) pa_nil)) ?_
  refine ha X hX W σ Z H st x _ _ r h1 fun v Z1 H1 s1 b1 r1 => ?_
  have r1v := r1.view s1.zh
  obtain ⟨xs, ks, n, rfl, e1, hok, rfl⟩ := ssD_inv hgd
  obtain ⟨p1, vs, rfl, hq, l⟩ := r1v.1
  obtain ⟨ps, rfl, hk, hT, hR⟩ := asTups_rep (subOf s1.zh) l e1
  refine ⟨p1, ps, rfl, .inl (.inl hq), hT, ?_, fun pa L hn hsub hall => ?_⟩
  · have := hok.1
    rw [← hk, List.length_map] at this
    exact this
  have hTL : ∀ q ∈ L, SqT X.K (upd H1 pa (SetTO X.prog X.w pa L)) q.1 (q.2.map V.int) := fun q hq => (Sub.sqTT (fun a o h => upd_none hn h) (hT q (hsub q hq)))
  have hin : ∀ q ∈ L, q.2 ∈ ks := fun q hq => by rw [← hk]; exact List.mem_map.mpr ⟨q, hsub q hq, rfl⟩
  refine ⟨pa, L, n, 64, rfl, upd_same, hTL, hok.2.1, fun q hq => hok.2.2 _ (hin q hq), fun L' pl pm nd hlen pw hn2 => ?_⟩
  have hc : L'.map (·.2) = canT ks := canT_of hok (fun k => by
    constructor
    · intro h
      obtain ⟨q, hq, rfl⟩ := List.mem_map.mp h
      exact hin q (pm.mem_iff.mp hq)
    · intro h
      rw [← hk] at h
      obtain ⟨q, hq, rfl⟩ := List.mem_map.mp h
      have := hall q hq
      obtain ⟨q', hq', e⟩ := List.mem_map.mp this
      exact List.mem_map.mpr ⟨q', pm.mem_iff.mpr hq', e⟩) nd (List.pairwise_map.mpr pw)
  have hRL : ∀ q ∈ L', Rep X.K W.β Z1 (tI' q.2) (.ref q.1) := fun q hq => hR q (hsub q (pm.mem_iff.mp hq))
  have hrl : RepL X.K W.β Z1 ((canT ks).map tI') (L'.map fun q => V.ref q.1) := by
    rw [← hc, List.map_map]
    clear hc pm nd pw hlen
    induction L' with
    | nil => exact .nil
    | cons q qs ih => exact .cons (hRL q List.mem_cons_self) (ih fun q' h => hRL q' (List.mem_cons_of_mem _ h))
  have s2 := Stp.layH (W := W) (o := SetTO X.prog X.w pa L) s1.zh hn trivial
  have b2 := box_lay (o := SetTO X.prog X.w pa L) b1 hn
  refine fin_lst (H := upd H1 pa (SetTO X.prog X.w pa L)) s2.zh b2 hn2 hrl (by rw [List.length_map, sizeLine_eq]; omega) fun v Z' H' s' b' r' => ?_
  exact q v Z' H' ((s1.trans s2).trans s') b' (r'.back r.box b2 (s1.trans s2))
end
/-! ### a yes or no less another one -/
def subB : D → D → Option D
  | .bl a, .bl b => some (.int (b2i a - b2i b))
  | _, _ => none
theorem op_subB {X : Cx} : OpR X (binaryOp .Sub) (fun x y H Q => ∃ a b, x = .bl a ∧ y = .bl b ∧ Q (.int (b2i a - b2i b)) H) := by
  intro pins s σ H x y v u Q I rx ry h
  obtain ⟨a, b, rfl, rfl, q⟩ := h
  cases rx; cases ry
  exact sub_bool ⟨.int _, H, I.tok _, ⟨_, rfl⟩, q⟩
theorem o_subB {C : Stat} : Op2 C (binaryOp .Sub) subB := fun X hX S _ W Z H st x y dx dy d Q zh sz bx r1 r2 hg q => by
  cases dx with
  | bl i => cases dy with
    | bl j => cases r1; cases r2; cases hg; exact rU_of op_subB ⟨i, j, rfl, rfl, fin_plain zh bx (.int _) rfl q⟩
    | _ => cases hg
  | _ => cases hg
/-! ### sum and any of a tuple of ints -/
theorem any_rangeI (ns : List Int) : (List.range ns.length).any (fun i => ns.getD i 0 != 0) = ns.any fun i => i != 0 := by
  induction ns with
  | nil => rfl
  | cons b bs ih =>
    rw [List.length_cons, List.range_succ_eq_map, List.any_cons, List.any_map, List.any_cons, ← ih]
    rfl
theorem truth_ints {prog : Program} {w : World} {A : Around} {ns : List Int} {its : List Value} (e : Vals (ns.map V.int) its) :
    TruthOf prog w A (fun i v => its.toArray[i]? = some v) (fun i => ns.getD i 0 != 0) := fun i v s Q E hv hq => by
  have hv' : its[i]? = some v := by simpa using hv
  obtain ⟨x, hx, r⟩ : ∃ x, (ns.map V.int)[i]? = some x ∧ RelV x v := by
    clear hv hq
    generalize hm : ns.map V.int = xs at e
    clear hm
    induction e generalizing i with
    | nil => simp at hv'
    | cons h t ih =>
      cases i with
      | zero => cases hv'; exact ⟨_, rfl, h⟩
      | succ i => exact ih i hv'
  rw [List.getElem?_map] at hx
  obtain ⟨n, hn, rfl⟩ := Option.map_eq_some_iff.mp hx
  obtain ⟨t, rfl⟩ := r
  have hg : ns.getD i 0 = n := by rw [List.getD_eq_getElem?_getD, hn]; rfl
  have hq' : Q (ns.getD i 0 != 0) s := hq
  rw [hg] at hq'
  exact PyProof.Rows.truthy_int hq'
section
variable {X : Cx}
theorem cr_anyT (hc : X.calm = true) : CallR X (.builtin "any") (fun vs H Q => ∃ (a : Addr) (ns : List Int), vs = [V.ref a] ∧ SqT X.K H a (ns.map V.int) ∧ Q (.bl (ns.any fun i => i != 0)) H) := by
  intro pins s σ H vs us Q I r h
  obtain ⟨a, ns, rfl, hs, q⟩ := h
  obtain ⟨its, rv, ⟨o, ho, hcl, n, hd⟩, _⟩ := I.tuple hs
  rw [Vals.ref1 r]
  have ht : s.heap.IsTuple a its.toArray := ⟨o, ho, hcl, n, hd⟩
  have hne : a ≠ s.heap.objs.size := Nat.ne_of_lt (Heap.lt_size ho)
  refine call_any_walk (wpAny_pyIter_tuple ht ?_)
  refine ⟨s.heap.objs.size, _, _, _, _, _, (fun i => ns.getD i 0 != 0), rfl, Walks.tuple (A := X.A.in1) (I.ok.hd hc) s.heap.objs.size a hne its.toArray, ⟨⟨_, Heap.get?_push_size _ rfl, rfl, rfl⟩, ht.at fun o e => Heap.get?_push_of_some _ e⟩, truth_ints rv, fun h' tk hk => ?_⟩
  refine ⟨.bl _, H, I.kept fun b o eo => hk b o (fun hmem => ?_) (Heap.get?_push_of_some _ eo), ?_, q⟩
  · exact absurd (Heap.lt_size eo) (by rw [List.mem_singleton.mp hmem]; exact Nat.lt_irrefl _)
  · have e := rv.length
    rw [List.length_map] at e
    show Value.bool _ = Value.bool _
    rw [← any_rangeI, List.size_toArray, ← e]
theorem cr_sumT (hc : X.calm = true) : CallR X (.builtin "sum") (fun vs H Q => ∃ (a : Addr) (ns : List Int), vs = [V.ref a] ∧ SqT X.K H a (ns.map V.int) ∧ Q (.int ns.sum) H) := by
  intro pins s σ H vs us Q I r h
  obtain ⟨a, ns, rfl, hs, q⟩ := h
  obtain ⟨its, rv, ⟨o, ho, hcl, n, hd⟩, _⟩ := I.tuple hs
  rw [Vals.ref1 r]
  have ht : s.heap.IsTuple a its.toArray := ⟨o, ho, hcl, n, hd⟩
  have hi := rv.ints
  obtain ⟨xs, e⟩ := hi.allInts.items
  have hn : numsOf (intItems xs).toList = ns := by rw [← e]; exact hi.numsOf
  rw [nums_intItems] at hn
  rw [e] at ht
  refine PySem.W.ktm_sumG (I.ok.hd hc) ht fun h' tk t' hk => ⟨.int _, H, I.kept hk, ⟨_, rfl⟩, ?_⟩
  rw [preSum_eq, List.take_of_length_le (by simp), hn]
  exact q
end
def sum2D : List D → Option D
  | [.lst xs] => (asInts xs).map fun is => .int is.sum
  | [.tup xs] => (asInts xs).map fun is => .int is.sum
  | _ => none
theorem o_sum2 {C : Stat} : OpL C (.builtin "sum") sum2D := fun X hX S _ W Z H st xs dxs d Q zh sz bx r0 hg q => by
  match dxs, hg with
  | [.lst xs], hg => exact o_sum X hX W Z H st _ _ d Q zh sz bx r0 hg q
  | [.tup xs], hg =>
    obtain ⟨v, rfl, r⟩ := r0.one
    cases r with
    | tup h l =>
      obtain ⟨ns, e1, rfl⟩ := Option.map_eq_some_iff.mp hg
      have ev := asInts_rep l e1
      subst ev
      exact cU_of (cr_sumT hX.calm) ⟨_, ns, rfl, (subOf zh).sqT h, fin_plain zh bx (.int _) rfl q⟩
def any2D : List D → Option D
  | [.lst xs] => anyD [.lst xs]
  | [.tup xs] => (asInts xs).map fun is => .bl (is.any fun i => i != 0)
  | _ => none
theorem o_any2 {C : Stat} : OpL C (.builtin "any") any2D := fun X hX S _ W Z H st xs dxs d Q zh sz bx r0 hg q => by
  match dxs, hg with
  | [.lst xs], hg => exact o_any X hX W Z H st _ _ d Q zh sz bx r0 hg q
  | [.tup xs], hg =>
    obtain ⟨v, rfl, r⟩ := r0.one
    cases r with
    | tup h l =>
      obtain ⟨ns, e1, rfl⟩ := Option.map_eq_some_iff.mp hg
      have ev := asInts_rep l e1
      subst ev
      exact cU_of (cr_anyT hX.calm) ⟨_, ns, rfl, (subOf zh).sqT h, fin_plain zh bx (.bl _) rfl q⟩
/-! ### several at once, constants alone -/
theorem swapped_fold {env : Env} {tgs es : List Expr} {kt k2 : Nat} {pt pt2 : Pos} (hf : es.all (foldedForSure 8) = true) : swappedStores [.Tuple tgs kt pt] (.Tuple es k2 pt2) env = pure none := by
  unfold swappedStores
  simp only [hf, if_true]
  split
  · rfl
  · split
    · rfl
    · split <;> rfl
section
variable {S : Type} [BoxS S] {C : Stat} {Γ : SCx} {es : List Expr} {rest : List Stmt} {τ l : Type} {T : Tg τ l} {pos : Pos}
theorem OkB.parF {mds : List Md} {mr : M S (List D)} {tgs : List Expr} {is : List Nat} {kt k2 : Nat} {pt pt2 : Pos} {k : List D → M S (Fl τ l)} (hT : NamesAt C tgs is) (he : OkV mds C Γ es mr) (hlen : mds.length = is.length)
    (hb : ∀ ds, ds.length = mds.length → OkB C (setΓ Γ is mds ds) rest T (k ds))
    (h16 : tgs.length ≤ 16 := by decide) (hf : es.all (foldedForSure 8) = true := by rfl)
    (hs : ∀ env : Env, swapsWithSole [.Tuple tgs kt pt] (.Tuple es k2 pt2) pos.line env = pure false := by intro _; rfl)
    (h1 : ∀ env : Env, (assignEach [.Tuple tgs kt pt] env).map (·.2) = [assign (.Tuple tgs kt pt) env] := by intro _; rfl) :
    OkB C Γ (.Assign [.Tuple tgs kt pt] (.Tuple es k2 pt2) pos :: rest) T (parN mds mr k) := fun X hX W σ Z H st f st' D r hm q => by
  obtain ⟨ds, st1, h2, hm1⟩ := bnd_some hm
  split at hm1
  · rename_i hok
    obtain ⟨pl1, pl2⟩ := hT.plain
    refine tUS_of (pss_cons (ps_asg peU pgU (hs _) (swapped_fold hf) (h1 _)) pssU) ?_
    refine tU_of (pe_tup paU) (he X hX W σ Z H st ds st1 _ r h2 hok fun vs as Z1 H1 s1 b1 v1 => ?_)
    obtain ⟨l1, l2⟩ := v1.len
    have hle : vs.length ≤ sizeLine := by rw [← l1, hlen, ← pl2, sizeLine_eq]; omega
    refine ⟨hle, fun p hp => ?_⟩
    have s2 := Stp.layH (o := .tup vs) s1.zh hp hle
    have s3 := s1.trans s2
    refine tUG_of (pg_tup (n := tgs.length) hX.calm pgsU (each_len _ pl1).1 (each_len _ pl1).2) ⟨_, _, rfl, .inl (.inl upd_same), by rw [pl2, ← hlen, l1], NamesAt.run hX hT (by rw [← l1, hlen]) ?_⟩
    have rr := r.step s3 (box_lay b1 hp)
    have vv : Voks X.K W H Z1 (upd H1 p (.tup vs)) mds ds vs as := v1.stp s2
    have no : ∀ a ∈ as, ¬ ownA Γ σ a := fun a ha h => by
      obtain ⟨o, ho⟩ := r.ownThere h
      rw [v1.fresh a ha] at ho; cases ho
    obtain ⟨g1, g2⟩ := vv.store (is := is) rr no
    refine hb ds (by rw [l2, l1]) X hX W _ Z1 _ st1 f st' D g1 hm1 (q.after s3.bst fun a h => ?_)
    exact (g2 a h).elim .inl fun h => .inr (v1.fresh a h)
  · exact (stuck_some hm1).elim
theorem OkB.parC2 {m1 m2 : Md} {u v : Expr} {a b : M S D} {i j : Nat} {x y : Str} {px py pt pt2 : Pos} {kt k2 : Nat} {k : D → D → M S (Fl τ l)} (hN : C.N[i]? = some x) (hN2 : C.N[j]? = some y) (hx : Loc C.sc x) (hy : Loc C.sc y) (fx : C.fn x = true ∨ C.sc.names.lookup x = some .local) (fy : C.fn y = true ∨ C.sc.names.lookup y = some .local)
    (hu : Ok m1 C Γ u a) (hv : Ok m2 C Γ v b) (e1 : m1 = .E ∨ m1 = .N) (e2 : m2 = .E ∨ m2 = .N) (hb : ∀ d e, OkB C ((Γ.set i (some (mdEn m1 d))).set j (some (mdEn m2 e))) rest T (k d e))
    (pu : plainArg u = true := by rfl) (pv : plainArg v = true := by rfl) (hf : [u, v].all (foldedForSure 8) = true := by rfl)
    (hs : ∀ env : Env, swapsWithSole [.Tuple [.Name x px, .Name y py] kt pt] (.Tuple [u, v] k2 pt2) pos.line env = pure false := by intro _; rfl) :
    OkB C Γ (.Assign [.Tuple [.Name x px, .Name y py] kt pt] (.Tuple [u, v] k2 pt2) pos :: rest) T (parM m1 m2 a b k) := by
  rw [parM_eq]
  exact OkB.parF (is := [i, j]) ⟨hN, hx, fx, hN2, hy, fy, True.intro⟩ (OkV.cons hu (OkV.cons hv OkV.nil e2 pv) e1 pu) rfl (fun ds hl => match ds, hl with | [d, e], _ => hb d e) (by simp) hf hs (by intro _; rfl)
end
end Sn

namespace Lw
open PySem PySem.Spec PyProof.Rows L2 Sn
def topS (i : Nat) : Stmt := PySem.Challenge.pw_albumsfilled_k23_whole_guesses_of_weight.main.body.getD i (.Pass ⟨0, 0, 0, 0⟩)
abbrev s__law_load : Stmt := topS 13
abbrev s__law_draw : Stmt := topS 14
abbrev s__law_box : Stmt := topS 12
theorem sc__law_load : FnScope ["box", "cells", "cell", "size", "first", "second"] ["box"] (defScope s__law_load) := ⟨rfl, rfl, rfl, by decide +kernel, rfl, by decide +kernel, by decide +kernel⟩
theorem sc__law_draw : FnScope ["box", "many", "digit"] ["box", "many"] (defScope s__law_draw) := ⟨rfl, rfl, rfl, by decide +kernel, rfl, by decide +kernel, by decide +kernel⟩
theorem sc__law_box : FnScope ["script"] ["script"] (defScope s__law_box) := ⟨rfl, rfl, rfl, by decide +kernel, rfl, by decide +kernel, by decide +kernel⟩
section
variable {P : Program} {w : World} {K : PySem.W.Frag} {mg : Str → Option Value} {base : Heap}
theorem ok_load {f : Addr} {fd : FuncData} {k : Nat} (F : Fun K "_law_load" "_law_load" s__law_load f fd) (ml : mg "len" = none) (mi : mg "int" = none) : FnOk P w K mg base CX0 (k + 1) f fd ["box"] spLoad := by
  refine F.ok sc__law_load (fun vs H Q E h => ?_) (fun cdv A outer s H vs Q E hr h => ?_)
  · obtain ⟨β, γ, cells, dig, seed, rfl, _⟩ := h
    rfl
  · obtain ⟨β, γ, cells, dig, seed, rfl, hβ, hγ, hlen, hs0, hs1, q⟩ := h
    have hne : β ≠ γ := ne_of hβ hγ (by intro e; cases cells <;> cases e)
    -- the end, from any seed and any cells
    obtain ⟨tR, hR, qR⟩ : ∃ t, PSs (cxOf CX0 P w K mg base ["box", "cells", "cell", "size", "first", "second"] "_law_load" (defScope s__law_load) f cdv A outer s H E).nox ((defBody s__law_load).drop 2) t ∧
        ∀ (H1 : Hp) (cs : List Int) (sd : Int) (o1 o2 o3 : Option V), Else2 H H1 β γ → H1 β = some (.lst [.ref γ, .int dig, .int sd]) → H1 γ = some (.lst (cs.map V.int)) → 0 ≤ sd → sd < 2147483648 → bxLoad cells seed = bxLast cs sd →
          t { nx := fun _ H' => Q .non H', rt := Q } [some (.ref β), o1, o2, o3, none, none] H1 := by
      refine ⟨_, (pss_cons (ps_set (i := 4) sc__law_load.nd rfl (.inl rfl) (pe_op op_mod (pe_callTy call_int1 (by rfl) mi (by decide +kernel) (pa_cons (pe_op op_add (pe_op op_mul (pe_ix ix_list (pv 0) pe_int (fun _ _ => rfl)) pe_int) pe_int) pa_nil)) pe_int))
        (pss_cons (ps_set (i := 5) sc__law_load.nd rfl (.inl rfl) (pe_op op_mod (pe_callTy call_int1 (by rfl) mi (by decide +kernel) (pa_cons (pe_op op_add (pe_op op_mul (pv 4) pe_int) pe_int) pa_nil)) pe_int))
        (pss_cons (ps_asg (pe_op op_mod (pe_callTy call_int1 (by rfl) mi (by decide +kernel) (pa_cons (pe_op op_add (pe_op op_mul (pv 5) pe_int) pe_int) pa_nil)) pe_int) (pg_sub (pv 0) pe_int set_list))
        (pss_one (ps_ret (pe_op op_add (pe_op op_add (pe_op op_mul (pv 4) pe_int) (pe_op op_mul (pv 5) pe_int)) (pe_ix ix_list (pv 0) pe_int (fun _ _ => rfl)))))))), ?_⟩
      intro H1 cs sd o1 o2 o3 el h1 h2 g0 g1 e
      obtain ⟨b1, b2, b3⟩ := bxSeed_nn sd
      have e1 : (sd * 48271 + 17) % 2147483629 = (bxSeed sd).1 := rfl
      have e2 : ((bxSeed sd).1 * 69621 + 5) % 2147483587 = (bxSeed sd).2.1 := rfl
      have e3 : ((bxSeed sd).2.1 * 40692 + 3) % 2147483563 = (bxSeed sd).2.2 := rfl
      refine ⟨.ref β, rfl, β, _, 2, .int sd, rfl, rfl, .inl (.inl h1), rfl, sd, 48271, rfl, rfl, .inl (by omega), _, 17, rfl, rfl, .inl ⟨_, rfl, _, 2147483629, rfl, rfl, (by show (0 : Int) < 2147483629; decide), ?_⟩⟩
      refine ⟨.int (bxSeed sd).1, rfl, (bxSeed sd).1, 69621, rfl, rfl, .inl (by omega), _, 5, rfl, rfl, .inl ⟨_, rfl, _, 2147483587, rfl, rfl, (by show (0 : Int) < 2147483587; decide), ?_⟩⟩
      refine ⟨.int (bxSeed sd).2.1, rfl, (bxSeed sd).2.1, 40692, rfl, rfl, .inl (by omega), _, 3, rfl, rfl, .inl ⟨_, rfl, _, 2147483563, rfl, rfl, (by show (0 : Int) < 2147483563; decide), ?_⟩⟩
      refine ⟨.ref β, rfl, β, _, 2, 2, rfl, rfl, h1, rfl, ?_⟩
      refine ⟨.int (bxSeed sd).1, rfl, (bxSeed sd).1, 4611686014132420609, rfl, rfl, .inl (by omega), .int (bxSeed sd).2.1, rfl, (bxSeed sd).2.1, 2147483647, rfl, rfl, .inl (by omega), _, _, rfl, rfl, .ref β, rfl, β, _, 2, .int (bxSeed sd).2.2, rfl, rfl, .inl (.inl upd_same), rfl, _, _, rfl, rfl, ?_⟩
      have qq := q (upd H1 β (.lst [.ref γ, .int dig, .int (bxSeed sd).2.2])) (fun a n1 n2 => by rw [upd_ne n1]; exact el a n1 n2)
      rw [e] at qq
      exact qq upd_same (by rw [upd_ne hne.symm]; exact h2)
    refine ⟨_, pss_cons (ps_set (i := 1) sc__law_load.nd rfl (.inl rfl) (pe_ix ix_list (pv 0) pe_int (fun _ _ => rfl)))
      (pss_cons (ps_if (pt_cmpR op_gt (pe_callB call_len_seq (by rfl) ml PySem.boot_len (pa_cons (pv 1) pa_nil)) pe_int (nomark _))
        (pss_cons (ps_set (i := 2) sc__law_load.nd rfl (.inl rfl) (pe_callTy call_int1 (by rfl) mi (by decide +kernel) (pa_cons (pe_bm PySem.F.plainAttrs_list PySem.F.slot_list_pop PySem.F.type_list_pop mt_popAt (pv 1) (pa_cons pe_int pa_nil)) pa_nil)))
        (pss_cons (ps_set (i := 3) sc__law_load.nd rfl (.inl rfl) (pe_ifExp (pt_cmpR op_ge (pv 2) pe_int (nomark _)) (pe_op op_mul pe_int (pv 2)) (pe_op op_sub (pe_op op_mul (pe_un un_neg pe_int) (pv 2)) pe_int)))
        (pss_cons (ps_if (pt_cmpR op_ge (pv 3) pe_int (nomark _)) (pss_one (ps_ret (pv 3))) pss_nil)
        (pss_one (ps_asg (pe_op op_mod (pe_callTy call_int1 (by rfl) mi (by decide +kernel) (pa_cons (pe_op op_add (pe_op op_add (pe_op op_mul (pe_ix ix_list (pv 0) pe_int (fun _ _ => rfl)) pe_int) (pe_op op_mul (pv 3) pe_int)) pe_int) pa_nil)) pe_int) (pg_sub (pv 0) pe_int set_list))))))
        pss_nil)
      hR), ?_⟩
    refine ⟨.ref β, rfl, β, _, 0, .ref γ, rfl, rfl, .inl (.inl hβ), rfl, ?_⟩
    refine ⟨.ref γ, rfl, γ, cells.map V.int, rfl, .inl (.inl (.inl hγ)), _, 0, rfl, rfl, _, rfl, ite2 (fun hc => ?_) (fun hc => ?_)⟩
    · have hc' : (0 : Int) < ((cells.map V.int).length : Int) := of_decide_eq_true hc
      rw [List.length_map] at hc'
      obtain ⟨c, cs, rfl⟩ : ∃ c cs, cells = c :: cs := by
        cases cells with
        | nil => simp at hc'
        | cons c cs => exact ⟨c, cs, rfl⟩
      have hsq : seqIndex? 0 ((c :: cs).map V.int).length = some 0 := by
        have := (ixN_seq (n := ((c :: cs).map V.int).length) (i := 0) (j := 0) (by unfold ixN; rw [if_pos (by decide), if_pos (by rw [List.length_map, List.length_cons]; omega)]; rfl)).1
        exact this
      refine ⟨.ref γ, rfl, .inl ⟨rfl, _, .inl (.inl hγ)⟩, γ, _, 0, 0, .int c, rfl, rfl, hγ, by decide, by decide, hsq, rfl, .inl ⟨c, rfl, ?_⟩⟩
      have hβ2 : (upd H γ (.lst ((((c :: cs).map V.int)).eraseIdx 0))) β = some (.lst [.ref γ, .int dig, .int seed]) := by rw [upd_ne hne]; exact hβ
      have hγ2 : (upd H γ (.lst ((((c :: cs).map V.int)).eraseIdx 0))) γ = some (.lst (cs.map V.int)) := by rw [upd_same]; rfl
      have el2 : Else2 H (upd H γ (.lst ((((c :: cs).map V.int)).eraseIdx 0))) β γ := fun a n1 n2 => upd_ne n2
      generalize upd H γ (.lst ((((c :: cs).map V.int)).eraseIdx 0)) = H2 at hβ2 hγ2 el2 ⊢
      refine ⟨.int c, rfl, c, 0, rfl, rfl, _, rfl, ?_⟩
      -- size, told
      have sn := bxSize_nn c
      have rest : ∀ sz : Int, sz = bxSize c → (tSeq (tIfS (tTest (tOp (rI0 fun i j => .bl (decide (j ≤ i))) (tVar 3) (tC (.int 1000000000000000000)))) (tRet (tVar 3)) tNext)
          (tAsg (tOp (rI (fun _ j => 0 < j) fun i j => .int (i % j)) (tCB (fun xs H Q => (∃ i, xs = [.int i] ∧ Q (.int i) H) ∨ ∃ k, xs = [.bl k] ∧ Q (.int (if k then 1 else 0)) H) (tCons (tOp (rI0 fun i j => .int (i + j)) (tOp (rI0 fun i j => .int (i + j)) (tOp (rI CMul fun i j => .int (i * j)) (tOp (rIxL K) (tVar 0) (tC (.int 2))) (tC (.int 69621))) (tOp (rI CMul fun i j => .int (i * j)) (tVar 3) (tC (.int 48271)))) (tC (.int 11))) tNil)) (tC (.int 2147483647))) (gSub (tVar 0) (tC (.int 2)) rSetL)))
          { nx := tR { nx := fun _ H' => Q .non H', rt := Q }, rt := Q } [some (.ref β), some (.ref γ), some (.int c), some (.int sz), none, none] H2 := by
        intro sz esz
        subst esz
        refine ⟨.int (bxSize c), rfl, bxSize c, 1000000000000000000, rfl, rfl, _, rfl, ite2 (fun hbig => ?_) (fun hsm => ?_)⟩
        · have hb : (1000000000000000000 : Int) ≤ bxSize c := of_decide_eq_true hbig
          have el : bxLoad (c :: cs) seed = (bxSize c, cs, seed) := by unfold bxLoad; simp only; rw [if_pos hb]
          have qq := q H2 el2
          rw [el] at qq
          exact ⟨.int (bxSize c), rfl, qq hβ2 hγ2⟩
        · have hb : ¬ (1000000000000000000 : Int) ≤ bxSize c := fun h => hsm (decide_eq_true h)
          refine ⟨.ref β, rfl, β, _, 2, .int seed, rfl, rfl, .inl (.inl hβ2), rfl, seed, 69621, rfl, rfl, .inl (by omega), .int (bxSize c), rfl, bxSize c, 48271, rfl, rfl, .inl (by omega), _, _, rfl, rfl, _, 11, rfl, rfl, .inl ⟨_, rfl, _, 2147483647, rfl, rfl, (by show (0 : Int) < 2147483647; decide), ?_⟩⟩
          refine ⟨.ref β, rfl, β, _, 2, 2, rfl, rfl, hβ2, rfl, ?_⟩
          refine qR _ cs ((seed * 69621 + bxSize c * 48271 + 11) % 2147483647) _ _ _ (fun a n1 n2 => by rw [upd_ne n1]; exact el2 a n1 n2) upd_same (by rw [upd_ne hne.symm]; exact hγ2) (Int.emod_nonneg _ (by decide)) (Int.lt_trans (Int.emod_lt_of_pos _ (by decide)) (by decide)) ?_
          unfold bxLoad
          simp only
          rw [if_neg hb]
      refine ite2 (fun h0 => ?_) (fun h0 => ?_)
      · have h0' : (0 : Int) ≤ c := of_decide_eq_true h0
        exact ⟨.int c, rfl, 2, c, rfl, rfl, .inl (by decide), rest (2 * c) (by unfold bxSize; rw [if_pos h0'])⟩
      · have h0' : ¬ (0 : Int) ≤ c := fun h => h0 (decide_eq_true h)
        exact ⟨2, rfl, .int c, rfl, -2, c, rfl, rfl, .inl (by decide), _, 1, rfl, rfl, rest (-2 * c - 1) (by unfold bxSize; rw [if_neg h0'])⟩
    · have hc' : ¬ (0 : Int) < ((cells.map V.int).length : Int) := fun h => hc (decide_eq_true h)
      have e0 : cells = [] := by
        cases cells with
        | nil => rfl
        | cons c cs => exact absurd (by rw [List.length_map, List.length_cons]; omega) hc'
      subst e0
      exact qR H [] seed _ _ _ (fun _ _ _ => rfl) hβ hγ hs0 hs1 rfl

theorem ok_box {f : Addr} {fd : FuncData} {k : Nat} (F : Fun K "_law_box" "_law_box" s__law_box f fd) (ml : mg "len" = none) (mi : mg "list" = none) : FnOk P w K mg base CX0 (k + 1) f fd ["script"] (spBox K) := by
  refine F.ok sc__law_box (fun vs H Q E h => ?_) (fun cdv A outer s H vs Q E hr h => ?_)
  · obtain ⟨a, ns, rfl, _⟩ := h
    rfl
  obtain ⟨a, ns, rfl, hS, hlen, q⟩ := h
  refine ⟨_, pss_one (ps_ret (pe_lst (pa_cons (pe_callTy call_list_of (by rfl) mi (by decide +kernel) (pa_cons (pe_slice sl_list (pv 0) po_none (po_some pe_int)) pa_nil)) (pa_cons pe_int (pa_cons (pe_op op_add pe_int (pe_callB call_len_seq (by rfl) ml PySem.boot_len (pa_cons (pv 0) pa_nil))) pa_nil))))), ?_⟩
  have ec : cutV (ns.map V.int) none (some 63) = ns.map V.int := by
    unfold cutV
    rw [HT.sIx_none, show (some (63 : Int)) = some (((63 : Nat) : Int)) from rfl, HT.sIx_nat]
    simp only [List.length_map, List.drop_zero, Nat.sub_zero]
    rw [Nat.min_eq_right hlen]
    exact List.take_of_length_le (by simp)
  refine ⟨.ref a, rfl, 63, rfl, a, _, rfl, hS, fun p hp => ⟨p, _, rfl, .inl (.inl (.inl upd_same)), fun l hl => ?_⟩⟩
  have sm1 : Same H (upd H p (.lst (cutV (ns.map V.int) none (some 63)))) := fun b o h => upd_none hp h
  have sm2 : Same H (upd (upd H p (.lst (cutV (ns.map V.int) none (some 63)))) l (.lst (cutV (ns.map V.int) none (some 63)))) := fun b o h => upd_none hl (sm1 b o h)
  refine ⟨.ref a, rfl, a, _, rfl, .inl (sm2.seq hS), _, _, rfl, rfl, by show (3 : Nat) ≤ sizeLine; decide, fun r hr2 => ?_⟩
  have nl : H l = none := sm1.free hl
  have nr : H r = none := sm2.free hr2
  refine q _ r l (fun b o h => upd_none hr2 (sm2 b o h)) nr nl ?_ ?_ fun sz => ?_
  · rw [upd_same, List.length_map]
  · rw [upd_ne (ne_of_none upd_same hr2), upd_same, ec]
  · have h63 : (cutV (ns.map V.int) none (some 63)).length ≤ sizeLine := by
      rw [ec, List.length_map]
      exact Nat.le_trans hlen (by decide)
    exact Sz.upd (Sz.upd (Sz.upd sz (o := .lst (cutV (ns.map V.int) none (some 63))) h63) (o := .lst (cutV (ns.map V.int) none (some 63))) h63) (by show (3 : Nat) ≤ sizeLine; decide)
theorem ok_draw {f fL : Addr} {fd fdL : FuncData} {k : Nat} (F : Fun K "_law_draw" "_law_draw" s__law_draw f fd) (FL : Fun K "_law_load" "_law_load" s__law_load fL fdL) (bL : Binds K fdL ["box"] []) (gL : mg "_law_load" = some (.ref fL)) (ml : mg "len" = none) (mi : mg "int" = none) :
    FnOk P w K mg base CX0 (k + 2) f fd ["box", "many"] (spF K 2 m_draw) := by
  have GL : FnOk P w K mg base CX0 (k + 1) fL fdL ["box"] spLoad := ok_load FL ml mi
  refine F.ok sc__law_draw (fun vs H Q E h => h.1) (fun cdv A outer s H vs Q E hr h => ?_)
  obtain ⟨hl, W, Z, ds, st, d, st', zh, sz, bx, rl, hm, q⟩ := h
  match ds, hm with
  | [.box, .int many], hm =>
    cases rl with
    | cons r1 rl =>
    cases rl with
    | cons r2 rl =>
    cases rl
    cases r1
    cases r2
    have hm' : (if h : 0 < many ∧ many < 1073741824 then some (Sn.D.int (drawB st many h.1).1, (drawB st many h.1).2) else none) = some (d, st') := hm
    split at hm'
    · rename_i hc
      cases hm'
      obtain ⟨hβ, hγ⟩ := bx
      have hne : W.β ≠ W.γ := ne_of hβ hγ (by intro e; cases h : st.cells <;> rw [h] at e <;> cases e)
      refine ⟨_, pss_cons (ps_if (pt_cmpR op_lt (pe_ix ix_list (pv 0) pe_int (fun _ _ => rfl)) (pv 1) (nomark _))
          (pss_one (ps_asg (pe_call GL hr (by rfl) gL FL.kp bL .nil pass0 (pa_cons (pv 0) pa_nil)) (pg_sub (pv 0) pe_int set_list))) pss_nil)
        (pss_cons (ps_set (i := 2) sc__law_draw.nd rfl (.inl rfl) (pe_op op_mod (pe_callTy call_int1 (by rfl) mi (by decide +kernel) (pa_cons (pe_ix ix_list (pv 0) pe_int (fun _ _ => rfl)) pa_nil)) (pv 1)))
        (pss_cons (ps_asg (pe_op op_fdiv (pe_ix ix_list (pv 0) pe_int (fun _ _ => rfl)) (pv 1)) (pg_sub (pv 0) pe_int set_list))
        (pss_one (ps_ret (pv 2))))), ?_⟩
      refine ⟨.ref W.β, rfl, W.β, _, 1, .int st.dig, rfl, rfl, .inl (.inl hβ), rfl, .int many, rfl, st.dig, many, rfl, rfl, _, rfl, ite2 (fun hlt => ?_) (fun hlt => ?_)⟩
      · have hlt' : st.dig < many := of_decide_eq_true hlt
        have nn := bxLoad_nn st.cells st.seed st.hs
        have hlen : st.cells.length ≤ sizeLine := by
          have := sz.lst hγ
          rwa [List.length_map] at this
        refine ⟨.ref W.β, rfl, W.β, W.γ, st.cells, st.dig, st.seed, rfl, hβ, hγ, hlen, st.hs.1, st.hs.2, fun H1 el h1 h2 => ?_⟩
        refine ⟨.ref W.β, rfl, W.β, _, 1, 1, rfl, rfl, h1, rfl, ?_⟩
        refine ⟨.ref W.β, rfl, W.β, _, 1, .int (bxLoad st.cells st.seed).1, rfl, rfl, .inl (.inl upd_same), rfl, .inl ⟨_, rfl, .int many, rfl, _, many, rfl, rfl, hc.1, ?_⟩⟩
        refine ⟨.ref W.β, rfl, W.β, _, 1, .int (bxLoad st.cells st.seed).1, rfl, rfl, .inl (.inl upd_same), rfl, .int many, rfl, _, many, rfl, rfl, hc, ?_⟩
        refine ⟨.ref W.β, rfl, W.β, _, 1, 1, rfl, rfl, upd_same, rfl, ?_⟩
        refine ⟨_, rfl, ?_⟩
        have ed : drawB st many hc.1 = ((bxLoad st.cells st.seed).1 % many, ⟨(bxLoad st.cells st.seed).2.1, (bxLoad st.cells st.seed).1 / many, (bxLoad st.cells st.seed).2.2, Int.ediv_nonneg nn.1 (Int.le_of_lt hc.1), nn.2⟩) := by
          unfold drawB
          rw [if_pos hlt']
        rw [ed] at q
        refine q _ Z _ ⟨Sub.refl _, fun a o h => ?_, fun a o h nb => ?_, fun a o h => .inl h, fun hs => ?_⟩ ⟨?_, ?_⟩ (.int _)
        · have n1 : a ≠ W.β := fun e => (zh a o h).2 (.inl e)
          have n2 : a ≠ W.γ := fun e => (zh a o h).2 (.inr e)
          exact ⟨by rw [upd_ne n1, upd_ne n1, el a n1 n2]; exact (zh a o h).1, (zh a o h).2⟩
        · have n1 : a ≠ W.β := fun e => nb (.inl e)
          have n2 : a ≠ W.γ := fun e => nb (.inr e)
          rw [upd_ne n1, upd_ne n1, el a n1 n2]; exact h
        · refine Sz.upd (Sz.upd (fun a vs hr => ?_) (by show (3 : Nat) ≤ sizeLine; decide)) (by show (3 : Nat) ≤ sizeLine; decide)
          by_cases e1 : a = W.β
          · subst e1
            rcases hr with hr | hr <;> rw [h1] at hr <;> cases hr
            show (3 : Nat) ≤ sizeLine
            decide
          · by_cases e2 : a = W.γ
            · subst e2
              rcases hr with hr | hr <;> rw [h2] at hr <;> cases hr
              rw [List.length_map]
              have le := bxLoad_len st.cells st.seed
              exact Nat.le_trans le hlen
            · refine hs a vs ?_
              rw [← el a e1 e2]
              exact hr
        · rw [upd_same]; rfl
        · rw [upd_ne hne.symm, upd_ne hne.symm]; exact h2
      · have hlt' : ¬ st.dig < many := fun h => hlt (decide_eq_true h)
        refine ⟨.ref W.β, rfl, W.β, _, 1, .int st.dig, rfl, rfl, .inl (.inl hβ), rfl, .inl ⟨_, rfl, .int many, rfl, _, many, rfl, rfl, hc.1, ?_⟩⟩
        refine ⟨.ref W.β, rfl, W.β, _, 1, .int st.dig, rfl, rfl, .inl (.inl hβ), rfl, .int many, rfl, _, many, rfl, rfl, hc, ?_⟩
        refine ⟨.ref W.β, rfl, W.β, _, 1, 1, rfl, rfl, hβ, rfl, ?_⟩
        refine ⟨_, rfl, ?_⟩
        have ed : drawB st many hc.1 = (st.dig % many, ⟨st.cells, st.dig / many, st.seed, Int.ediv_nonneg st.hd (Int.le_of_lt hc.1), st.hs⟩) := by
          unfold drawB
          rw [if_neg hlt']
        rw [ed] at q
        refine q _ Z _ ⟨Sub.refl _, fun a o h => ?_, fun a o h nb => ?_, fun a o h => .inl h, fun hs => ?_⟩ ⟨?_, ?_⟩ (.int _)
        · have n1 : a ≠ W.β := fun e => (zh a o h).2 (.inl e)
          exact ⟨by rw [upd_ne n1]; exact (zh a o h).1, (zh a o h).2⟩
        · have n1 : a ≠ W.β := fun e => nb (.inl e)
          rw [upd_ne n1]; exact h
        · exact hs.upd (by show (3 : Nat) ≤ sizeLine; decide)
        · rw [upd_same]; rfl
        · rw [upd_ne hne.symm]; exact hγ
    · cases hm'
end
end Lw

namespace Lw
open PySem PySem.Spec PyProof.Rows L2 Sn
noncomputable section
variable {P : Program} {w : World} {K : PySem.W.Frag} {mg : Str → Option Value} {base : Heap}
abbrev s_is_whole : Stmt := topS 1
theorem sc_is_whole : FnScope ["value"] ["value"] (defScope s_is_whole) := ⟨rfl, rfl, rfl, by decide +kernel, rfl, by decide +kernel, by decide +kernel⟩
abbrev CC_is_whole (P : Program) (w : World) (K : PySem.W.Frag) (mg : Str → Option Value) (base : Heap) (k : Nat) : Stat := ⟨⟨P, w, K, mg, base⟩, ["value"], defScope s_is_whole, k, fun _ => true⟩
def b_is_whole (value_1 : D) : M Bx (Fl Unit Unit) :=
  (retF (andM (isiM "int" (ret value_1)) (notM (isiM "bool" (ret value_1)))))
def mb_is_whole : List D → M Bx (Fl Unit Unit)
  | [value_1] => b_is_whole value_1
  | _ => stuck
def m_is_whole (ds : List D) : M Bx D := bnd (mb_is_whole ds) endF
set_option maxHeartbeats 0 in
theorem h_is_whole {f : Addr} {fd : FuncData} (F : Fun K "is_whole" "is_whole" s_is_whole f fd) (g : mg "is_whole" = some (.ref f)) (z_bool : mg "bool" = none) (z_int : mg "int" = none) (z_isinstance : mg "isinstance" = none) : HasF (S := Bx) ⟨P, w, K, mg, base⟩ 1 "is_whole" 1 m_is_whole :=
  hasF_mk g F sc_is_whole (F.binds fun _ _ _ _ _ _ us hl => match us, hl with | [_], _ => rfl) rfl fun ds hl => match ds, hl with
    | [value_1], _ =>
      (OkB.ret (Ok.and (Ok.view (Ok.isinst (T := "int") (Ok.view (Ok.var (i := 0) rfl (.inl rfl) rfl)) rfl z_isinstance rfl z_int (by decide +kernel))) (Ok.one (Ok.not (Ok.view (Ok.isinst (T := "bool") (Ok.view (Ok.var (i := 0) rfl (.inl rfl) rfl)) rfl z_isinstance rfl z_bool (by decide +kernel)))))))
abbrev s_low_terms : Stmt := topS 3
theorem sc_low_terms : FnScope ["p", "q", "a", "b"] ["p", "q"] (defScope s_low_terms) := ⟨rfl, rfl, rfl, by decide +kernel, rfl, by decide +kernel, by decide +kernel⟩
abbrev CC_low_terms (P : Program) (w : World) (K : PySem.W.Frag) (mg : Str → Option Value) (base : Heap) (k : Nat) : Stat := ⟨⟨P, w, K, mg, base⟩, ["p", "q", "a", "b"], defScope s_low_terms, k, fun _ => true⟩
def b_low_terms (p_2 : D) (q_3 : D) : M Bx (Fl Unit Unit) :=
  (parM .E .E (bcM absD (consM (ret p_2) (ret []))) (ret q_3) fun a_4 b_5 => (whileL (fun (s_6 : D × D) => (valT (ret s_6.2))) (fun s_6 => (parM .E .E (ret s_6.2) (op2M modD (ret s_6.1) (ret s_6.2)) fun a_7 b_8 => (ret (.nx (a_7, b_8))))) (fun s_9 => (retF (tupM (consM (op2M divWD (ret p_2) (ret s_9.1)) (consM (op2M divWD (ret q_3) (ret s_9.1)) (ret [])))))) fuel (a_4, b_5)))
def mb_low_terms : List D → M Bx (Fl Unit Unit)
  | [p_2, q_3] => b_low_terms p_2 q_3
  | _ => stuck
def m_low_terms (ds : List D) : M Bx D := bnd (mb_low_terms ds) endF
set_option maxHeartbeats 0 in
theorem h_low_terms {f : Addr} {fd : FuncData} (F : Fun K "low_terms" "low_terms" s_low_terms f fd) (g : mg "low_terms" = some (.ref f)) (z_abs : mg "abs" = none) : HasF (S := Bx) ⟨P, w, K, mg, base⟩ 1 "low_terms" 2 m_low_terms :=
  hasF_mk g F sc_low_terms (F.binds fun _ _ _ _ _ _ us hl => match us, hl with | [_, _], _ => rfl) rfl fun ds hl => match ds, hl with
    | [p_2, q_3], _ =>
      (OkB.par2 (C := CC_low_terms P w K mg base 0) (i := 2) (j := 3) rfl rfl (by decide) rfl rfl rfl (Ok.frz (Ok.bfun o_abs (by decide +kernel) rfl z_abs (Ok.cons (Ok.view (Ok.var (i := 0) rfl (.inl rfl) rfl)) Ok.nil))) (Ok.var (i := 1) rfl (.inl rfl) rfl) (.inl rfl) (.inl rfl) fun a_4 b_5 => (OkB.whileR (C := CC_low_terms P w K mg base 0) (Γl := fun (s_6 : D × D) => [some (.frz p_2), some (.frz q_3), some (.frz s_6.1), some (.frz s_6.2)]) (s0 := (a_4, b_5)) (n0 := fuel) (wk_mask (bs := [true, true, true, true])) (fun s_6 => (OkT.val (Ok.view (Ok.var (i := 3) rfl (.inl rfl) rfl)))) (fun s_6 => (OkB.par2 (C := CC_low_terms P w K mg base 0) (i := 2) (j := 3) rfl rfl (by decide) rfl rfl rfl (Ok.var (i := 3) rfl (.inl rfl) rfl) (Ok.frz (Ok.op o_mod (Ok.view (Ok.var (i := 2) rfl (.inl rfl) rfl)) (Ok.view (Ok.var (i := 3) rfl (.inl rfl) rfl)))) (.inl rfl) (.inl rfl) fun a_7 b_8 => (OkB.nil (s := (a_7, b_8)) (wk_mask (bs := [true, true, true, true]))))) fun s_9 => (OkB.ret (Ok.tup (Ok.cons (Ok.frz (Ok.op o_divW (Ok.view (Ok.var (i := 0) rfl (.inl rfl) rfl)) (Ok.view (Ok.var (i := 2) rfl (.inl rfl) rfl)))) (Ok.cons (Ok.frz (Ok.op o_divW (Ok.view (Ok.var (i := 1) rfl (.inl rfl) rfl)) (Ok.view (Ok.var (i := 2) rfl (.inl rfl) rfl)))) Ok.nil))))))
abbrev s_part_sum : Stmt := topS 4
theorem sc_part_sum : FnScope ["one", "other"] ["one", "other"] (defScope s_part_sum) := ⟨rfl, rfl, rfl, by decide +kernel, rfl, by decide +kernel, by decide +kernel⟩
abbrev CC_part_sum (P : Program) (w : World) (K : PySem.W.Frag) (mg : Str → Option Value) (base : Heap) (k : Nat) : Stat := ⟨⟨P, w, K, mg, base⟩, ["one", "other"], defScope s_part_sum, k, fun _ => true⟩
def b_part_sum (one_10 : D) (other_11 : D) : M Bx (Fl Unit Unit) :=
  (retF (bnd (consM (op2M addD (op2M mulWD (ixM (ret one_10) (ret (.int 0))) (ixM (ret other_11) (ret (.int 1)))) (op2M mulWD (ixM (ret other_11) (ret (.int 0))) (ixM (ret one_10) (ret (.int 1))))) (consM (op2M mulWD (ixM (ret one_10) (ret (.int 1))) (ixM (ret other_11) (ret (.int 1)))) (ret []))) m_low_terms))
def mb_part_sum : List D → M Bx (Fl Unit Unit)
  | [one_10, other_11] => b_part_sum one_10 other_11
  | _ => stuck
def m_part_sum (ds : List D) : M Bx D := bnd (mb_part_sum ds) endF
set_option maxHeartbeats 0 in
theorem h_part_sum {f : Addr} {fd : FuncData} (F : Fun K "part_sum" "part_sum" s_part_sum f fd) (g : mg "part_sum" = some (.ref f)) (h_low_terms : HasF (S := Bx) ⟨P, w, K, mg, base⟩ 1 "low_terms" 2 m_low_terms) : HasF (S := Bx) ⟨P, w, K, mg, base⟩ 2 "part_sum" 2 m_part_sum :=
  hasF_mk g F sc_part_sum (F.binds fun _ _ _ _ _ _ us hl => match us, hl with | [_, _], _ => rfl) rfl fun ds hl => match ds, hl with
    | [one_10, other_11], _ =>
      (OkB.ret (Ok.call h_low_terms (Nat.le_of_ble_eq_true rfl) rfl (Ok.cons (Ok.frz (Ok.op o_add (Ok.view (Ok.op o_mulW (Ok.view (Ok.ix (Ok.view (Ok.var (i := 0) rfl (.inl rfl) rfl)) (Ok.view Ok.int))) (Ok.view (Ok.ix (Ok.view (Ok.var (i := 1) rfl (.inl rfl) rfl)) (Ok.view Ok.int))))) (Ok.view (Ok.op o_mulW (Ok.view (Ok.ix (Ok.view (Ok.var (i := 1) rfl (.inl rfl) rfl)) (Ok.view Ok.int))) (Ok.view (Ok.ix (Ok.view (Ok.var (i := 0) rfl (.inl rfl) rfl)) (Ok.view Ok.int))))))) (Ok.cons (Ok.frz (Ok.op o_mulW (Ok.view (Ok.ix (Ok.view (Ok.var (i := 0) rfl (.inl rfl) rfl)) (Ok.view Ok.int))) (Ok.view (Ok.ix (Ok.view (Ok.var (i := 1) rfl (.inl rfl) rfl)) (Ok.view Ok.int))))) Ok.nil))))
abbrev s_part_times : Stmt := topS 5
theorem sc_part_times : FnScope ["one", "other"] ["one", "other"] (defScope s_part_times) := ⟨rfl, rfl, rfl, by decide +kernel, rfl, by decide +kernel, by decide +kernel⟩
abbrev CC_part_times (P : Program) (w : World) (K : PySem.W.Frag) (mg : Str → Option Value) (base : Heap) (k : Nat) : Stat := ⟨⟨P, w, K, mg, base⟩, ["one", "other"], defScope s_part_times, k, fun _ => true⟩
def b_part_times (one_12 : D) (other_13 : D) : M Bx (Fl Unit Unit) :=
  (retF (bnd (consM (op2M mulWD (ixM (ret one_12) (ret (.int 0))) (ixM (ret other_13) (ret (.int 0)))) (consM (op2M mulWD (ixM (ret one_12) (ret (.int 1))) (ixM (ret other_13) (ret (.int 1)))) (ret []))) m_low_terms))
def mb_part_times : List D → M Bx (Fl Unit Unit)
  | [one_12, other_13] => b_part_times one_12 other_13
  | _ => stuck
def m_part_times (ds : List D) : M Bx D := bnd (mb_part_times ds) endF
set_option maxHeartbeats 0 in
theorem h_part_times {f : Addr} {fd : FuncData} (F : Fun K "part_times" "part_times" s_part_times f fd) (g : mg "part_times" = some (.ref f)) (h_low_terms : HasF (S := Bx) ⟨P, w, K, mg, base⟩ 1 "low_terms" 2 m_low_terms) : HasF (S := Bx) ⟨P, w, K, mg, base⟩ 2 "part_times" 2 m_part_times :=
  hasF_mk g F sc_part_times (F.binds fun _ _ _ _ _ _ us hl => match us, hl with | [_, _], _ => rfl) rfl fun ds hl => match ds, hl with
    | [one_12, other_13], _ =>
      (OkB.ret (Ok.call h_low_terms (Nat.le_of_ble_eq_true rfl) rfl (Ok.cons (Ok.frz (Ok.op o_mulW (Ok.view (Ok.ix (Ok.view (Ok.var (i := 0) rfl (.inl rfl) rfl)) (Ok.view Ok.int))) (Ok.view (Ok.ix (Ok.view (Ok.var (i := 1) rfl (.inl rfl) rfl)) (Ok.view Ok.int))))) (Ok.cons (Ok.frz (Ok.op o_mulW (Ok.view (Ok.ix (Ok.view (Ok.var (i := 0) rfl (.inl rfl) rfl)) (Ok.view Ok.int))) (Ok.view (Ok.ix (Ok.view (Ok.var (i := 1) rfl (.inl rfl) rfl)) (Ok.view Ok.int))))) Ok.nil))))
abbrev s_are_counts : Stmt := topS 7
theorem sc_are_counts : FnScope ["weights", "value", "count"] ["weights", "value"] (defScope s_are_counts) := ⟨rfl, rfl, rfl, by decide +kernel, rfl, by decide +kernel, by decide +kernel⟩
abbrev CC_are_counts (P : Program) (w : World) (K : PySem.W.Frag) (mg : Str → Option Value) (base : Heap) (k : Nat) : Stat := ⟨⟨P, w, K, mg, base⟩, ["weights", "value", "count"], defScope s_are_counts, k, fun _ => true⟩
def b_are_counts (weights_14 : D) (value_15 : D) : M Bx (Fl Unit Unit) :=
  (iteF (orT (notT (valT (isiM "tuple" (ret value_15)))) (cmpT neD (bcM lenD (consM (ret value_15) (ret []))) (bcM lenD (consM (ret weights_14) (ret []))))) (retF (ret (.bl false))) (ret (.nx ())) fun (s_16 : Unit) => (retF (andM (bcM allD (consM (compM (itM (ret value_15)) fun count_17 => (eltM (ret true) (andM (bnd (consM (ret count_17) (ret [])) m_is_whole) (op2M geD (ret count_17) (ret (.int 0)))))) (ret []))) (bcM any2D (consM (ret value_15) (ret []))))))
def mb_are_counts : List D → M Bx (Fl Unit Unit)
  | [weights_14, value_15] => b_are_counts weights_14 value_15
  | _ => stuck
def m_are_counts (ds : List D) : M Bx D := bnd (mb_are_counts ds) endF
set_option maxHeartbeats 0 in
theorem h_are_counts {f : Addr} {fd : FuncData} (F : Fun K "are_counts" "are_counts" s_are_counts f fd) (g : mg "are_counts" = some (.ref f)) (z_all : mg "all" = none) (z_any : mg "any" = none) (z_isinstance : mg "isinstance" = none) (z_len : mg "len" = none) (z_tuple : mg "tuple" = none) (h_is_whole : HasF (S := Bx) ⟨P, w, K, mg, base⟩ 1 "is_whole" 1 m_is_whole) : HasF (S := Bx) ⟨P, w, K, mg, base⟩ 2 "are_counts" 2 m_are_counts :=
  hasF_mk g F sc_are_counts (F.binds fun _ _ _ _ _ _ us hl => match us, hl with | [_, _], _ => rfl) rfl fun ds hl => match ds, hl with
    | [weights_14, value_15], _ =>
      (OkB.ite (C := CC_are_counts P w K mg base 1) (Γj := fun (s_16 : Unit) => [none, some (.frz value_15), none]) (OkW.pt (OkW.or (OkT.not (OkT.val (Ok.view (Ok.isinst (T := "tuple") (Ok.view (Ok.var (i := 1) rfl (.inl rfl) rfl)) rfl z_isinstance rfl z_tuple (by decide +kernel))))) (OkW.or1 (OkT.cmp o_ne (Ok.view (Ok.bfun o_len (by decide +kernel) rfl z_len (Ok.cons (Ok.view (Ok.var (i := 1) rfl (.inl rfl) rfl)) Ok.nil))) (Ok.view (Ok.bfun o_len (by decide +kernel) rfl z_len (Ok.cons (Ok.view (Ok.var (i := 0) rfl (.inl rfl) rfl)) Ok.nil))))))) (OkB.ret Ok.bl) (OkB.nil (s := ()) (wk_mask (bs := [false, true, false]))) fun s_16 => (OkB.ret (Ok.and (Ok.view (Ok.bfun o_all (by decide +kernel) rfl z_all (Ok.cons (Ok.view (OkC.n (Ok.lc [("count", 2)] (OkI.val (Ok.var (i := 1) rfl (.inl rfl) rfl) (fun h => by first | rfl | cases h)) fun count_17 => (BindOk.name (i := 2) rfl (.inl rfl) (.inr rfl) (BindOk.nil ⟨_, _, OkTs.nil, (Ok.and (Ok.view (Ok.call h_is_whole (Nat.le_of_ble_eq_true rfl) rfl (Ok.cons (Ok.var (i := 2) rfl (.inl rfl) rfl) Ok.nil))) (Ok.one (Ok.frz (Ok.cmp o_ge (Ok.view (Ok.var (i := 2) rfl (.inl rfl) rfl)) (Ok.view Ok.int))))), rfl⟩))))) Ok.nil))) (Ok.one (Ok.frz (Ok.bfun o_any2 (by decide +kernel) rfl z_any (Ok.cons (Ok.view (Ok.var (i := 1) rfl (.inl rfl) rfl)) Ok.nil)))))))
abbrev s_likelihood : Stmt := topS 8
theorem sc_likelihood : FnScope ["weights", "counts", "p", "q", "weight", "count", "_"] ["weights", "counts"] (defScope s_likelihood) := ⟨rfl, rfl, rfl, by decide +kernel, rfl, by decide +kernel, by decide +kernel⟩
abbrev CC_likelihood (P : Program) (w : World) (K : PySem.W.Frag) (mg : Str → Option Value) (base : Heap) (k : Nat) : Stat := ⟨⟨P, w, K, mg, base⟩, ["weights", "counts", "p", "q", "weight", "count", "_"], defScope s_likelihood, k, fun _ => true⟩
def b_likelihood (weights_18 : D) (counts_19 : D) : M Bx (Fl Unit Unit) :=
  (parM .E .E (ret (.int 1)) (ret (.int 1)) fun p_20 q_21 => (forM' (zipM2 (ret weights_18) (ret counts_19)) (fun (s_22 : D × D) t_23 => (pat2 (fun weight_24 count_25 => (forM' (rng1M (ret count_25)) (fun (s_26 : D × D) u_27 => (parM .E .E (op2M mulWD (ret s_26.1) (ret weight_24)) (op2M mulWD (ret s_26.2) (bcM sum2D (consM (ret weights_18) (ret [])))) fun p_28 q_29 => (ret (.nx (p_28, q_29))))) (s_22.1, s_22.2) fun s_30 => (ret (.nx (s_30.1, s_30.2))))) t_23)) (p_20, q_21) fun s_31 => (retF (bnd (consM (ret s_31.1) (consM (ret s_31.2) (ret []))) m_low_terms))))
def mb_likelihood : List D → M Bx (Fl Unit Unit)
  | [weights_18, counts_19] => b_likelihood weights_18 counts_19
  | _ => stuck
def m_likelihood (ds : List D) : M Bx D := bnd (mb_likelihood ds) endF
set_option maxHeartbeats 0 in
theorem h_likelihood {f : Addr} {fd : FuncData} (F : Fun K "likelihood" "likelihood" s_likelihood f fd) (g : mg "likelihood" = some (.ref f)) (z_range : mg "range" = none) (z_sum : mg "sum" = none) (z_zip : mg "zip" = none) (h_low_terms : HasF (S := Bx) ⟨P, w, K, mg, base⟩ 1 "low_terms" 2 m_low_terms) : HasF (S := Bx) ⟨P, w, K, mg, base⟩ 2 "likelihood" 2 m_likelihood :=
  hasF_mk g F sc_likelihood (F.binds fun _ _ _ _ _ _ us hl => match us, hl with | [_, _], _ => rfl) rfl fun ds hl => match ds, hl with
    | [weights_18, counts_19], _ =>
      (OkB.parC2 (C := CC_likelihood P w K mg base 1) (i := 2) (j := 3) rfl rfl (.inl rfl) (.inl rfl) (.inl rfl) (.inl rfl) Ok.int Ok.int (.inl rfl) (.inl rfl) (fun p_20 q_21 => (OkB.forR (C := CC_likelihood P w K mg base 1) (Γl := fun (s_22 : D × D) => [some (.frz weights_18), some (.frz counts_19), some (.frz s_22.1), some (.frz s_22.2), none, none, none]) (s0 := (p_20, q_21)) (OkI.zip (Ok.var (i := 0) rfl (.inl rfl) rfl) (Ok.var (i := 1) rfl (.inl rfl) rfl) rfl z_zip (fun h => by first | rfl | cases h) (fun h => by first | rfl | cases h)) (wk_mask (bs := [true, true, true, true, false, false, false])) (fun s_22 t_23 => (BindOk.tup2 rfl fun weight_24 count_25 => (BindOk.name (i := 4) rfl (.inl rfl) (.inl rfl) (BindOk.name (i := 5) rfl (.inl rfl) (.inl rfl) (BindOk.nil (OkB.forR (C := CC_likelihood P w K mg base 1) (Γl := fun (s_26 : D × D) => [some (.frz weights_18), some (.frz counts_19), some (.frz s_26.1), some (.frz s_26.2), some (.frz weight_24), some (.frz count_25), none]) (s0 := (s_22.1, s_22.2)) (OkI.range1 (Ok.view (Ok.var (i := 5) rfl (.inl rfl) rfl)) rfl z_range) (wk_mask (bs := [true, true, true, true, true, true, false])) (fun s_26 u_27 => (BindOk.name (i := 6) rfl (.inl rfl) (.inl rfl) (BindOk.nil (OkB.par2 (C := CC_likelihood P w K mg base 1) (i := 2) (j := 3) rfl rfl (by decide) rfl rfl rfl (Ok.frz (Ok.op o_mulW (Ok.view (Ok.var (i := 2) rfl (.inl rfl) rfl)) (Ok.view (Ok.var (i := 4) rfl (.inl rfl) rfl)))) (Ok.frz (Ok.op o_mulW (Ok.view (Ok.var (i := 3) rfl (.inl rfl) rfl)) (Ok.view (Ok.bfun o_sum2 (by decide +kernel) rfl z_sum (Ok.cons (Ok.view (Ok.var (i := 0) rfl (.inl rfl) rfl)) Ok.nil))))) (.inl rfl) (.inl rfl) fun p_28 q_29 => (OkB.nil (s := (p_28, q_29)) (wk_mask (bs := [true, true, true, true, true, true, false]))))))) fun s_30 => (OkB.nil (s := (s_30.1, s_30.2)) (wk_mask (bs := [true, true, true, true, false, false, false]))))))))) fun s_31 => (OkB.ret (Ok.call h_low_terms (Nat.le_of_ble_eq_true rfl) rfl (Ok.cons (Ok.var (i := 2) rfl (.inl rfl) rfl) (Ok.cons (Ok.var (i := 3) rfl (.inl rfl) rfl) Ok.nil)))))))
abbrev s_likelier : Stmt := topS 9
theorem sc_likelier : FnScope ["one", "other", "counts", "mine", "yours", "here", "there"] ["one", "other", "counts"] (defScope s_likelier) := ⟨rfl, rfl, rfl, by decide +kernel, rfl, by decide +kernel, by decide +kernel⟩
abbrev CC_likelier (P : Program) (w : World) (K : PySem.W.Frag) (mg : Str → Option Value) (base : Heap) (k : Nat) : Stat := ⟨⟨P, w, K, mg, base⟩, ["one", "other", "counts", "mine", "yours", "here", "there"], defScope s_likelier, k, fun _ => true⟩
def b_likelier (one_32 : D) (other_33 : D) (counts_34 : D) : M Bx (Fl Unit Unit) :=
  (parM .E .E (bnd (consM (ret one_32) (consM (ret counts_34) (ret []))) m_likelihood) (bnd (consM (ret other_33) (consM (ret counts_34) (ret []))) m_likelihood) fun mine_35 yours_36 => (parM .E .E (op2M mulWD (ixM (ret mine_35) (ret (.int 0))) (ixM (ret yours_36) (ret (.int 1)))) (op2M mulWD (ixM (ret yours_36) (ret (.int 0))) (ixM (ret mine_35) (ret (.int 1)))) fun here_37 there_38 => (retF (op2M subB (op2M gtD (ret there_38) (ret here_37)) (op2M ltD (ret there_38) (ret here_37))))))
def mb_likelier : List D → M Bx (Fl Unit Unit)
  | [one_32, other_33, counts_34] => b_likelier one_32 other_33 counts_34
  | _ => stuck
def m_likelier (ds : List D) : M Bx D := bnd (mb_likelier ds) endF
set_option maxHeartbeats 0 in
theorem h_likelier {f : Addr} {fd : FuncData} (F : Fun K "likelier" "likelier" s_likelier f fd) (g : mg "likelier" = some (.ref f)) (h_likelihood : HasF (S := Bx) ⟨P, w, K, mg, base⟩ 2 "likelihood" 2 m_likelihood) : HasF (S := Bx) ⟨P, w, K, mg, base⟩ 3 "likelier" 3 m_likelier :=
  hasF_mk g F sc_likelier (F.binds fun _ _ _ _ _ _ us hl => match us, hl with | [_, _, _], _ => rfl) rfl fun ds hl => match ds, hl with
    | [one_32, other_33, counts_34], _ =>
      (OkB.par2 (C := CC_likelier P w K mg base 2) (i := 3) (j := 4) rfl rfl (by decide) rfl rfl rfl (Ok.call h_likelihood (Nat.le_of_ble_eq_true rfl) rfl (Ok.cons (Ok.var (i := 0) rfl (.inl rfl) rfl) (Ok.cons (Ok.var (i := 2) rfl (.inl rfl) rfl) Ok.nil))) (Ok.call h_likelihood (Nat.le_of_ble_eq_true rfl) rfl (Ok.cons (Ok.var (i := 1) rfl (.inl rfl) rfl) (Ok.cons (Ok.var (i := 2) rfl (.inl rfl) rfl) Ok.nil))) (.inl rfl) (.inl rfl) fun mine_35 yours_36 => (OkB.par2 (C := CC_likelier P w K mg base 2) (i := 5) (j := 6) rfl rfl (by decide) rfl rfl rfl (Ok.frz (Ok.op o_mulW (Ok.view (Ok.ix (Ok.view (Ok.var (i := 3) rfl (.inl rfl) rfl)) (Ok.view Ok.int))) (Ok.view (Ok.ix (Ok.view (Ok.var (i := 4) rfl (.inl rfl) rfl)) (Ok.view Ok.int))))) (Ok.frz (Ok.op o_mulW (Ok.view (Ok.ix (Ok.view (Ok.var (i := 4) rfl (.inl rfl) rfl)) (Ok.view Ok.int))) (Ok.view (Ok.ix (Ok.view (Ok.var (i := 3) rfl (.inl rfl) rfl)) (Ok.view Ok.int))))) (.inl rfl) (.inl rfl) fun here_37 there_38 => (OkB.ret (Ok.frz (Ok.op o_subB (Ok.view (Ok.cmp o_gt (Ok.view (Ok.var (i := 6) rfl (.inl rfl) rfl)) (Ok.view (Ok.var (i := 5) rfl (.inl rfl) rfl)))) (Ok.view (Ok.cmp o_lt (Ok.view (Ok.var (i := 6) rfl (.inl rfl) rfl)) (Ok.view (Ok.var (i := 5) rfl (.inl rfl) rfl)))))))))
abbrev s_guess_chances : Stmt := topS 10
theorem sc_guess_chances : FnScope ["rows", "counts", "told", "whole", "one", "weights"] ["rows", "counts"] (defScope s_guess_chances) := ⟨rfl, rfl, rfl, by decide +kernel, rfl, by decide +kernel, by decide +kernel⟩
abbrev CC_guess_chances (P : Program) (w : World) (K : PySem.W.Frag) (mg : Str → Option Value) (base : Heap) (k : Nat) : Stat := ⟨⟨P, w, K, mg, base⟩, ["rows", "counts", "told", "whole", "one", "weights"], defScope s_guess_chances, k, fun _ => true⟩
def b_guess_chances (rows_39 : D) (counts_40 : D) : M Bx (Fl Unit Unit) :=
  (parM .E .E (compM (itM (ret rows_39)) fun weights_41 => (eltM (ret true) (bnd (consM (ret weights_41) (consM (ret counts_40) (ret []))) m_likelihood))) (tupM (consM (ret (.int 0)) (consM (ret (.int 1)) (ret [])))) fun told_42 whole_43 => (forM' (itM (ret told_42)) (fun (s_44 : D) one_45 => (bnd (bnd (consM (ret s_44) (consM (ret one_45) (ret []))) m_part_sum) fun whole_46 => (ret (.nx whole_46)))) whole_43 fun s_47 => (retF (bcM tupleD (consM (compM (itM (ret told_42)) fun one_48 => (eltM (ret true) (bnd (consM (ret one_48) (consM (tupM (consM (ixM (ret s_47) (ret (.int 1))) (consM (ixM (ret s_47) (ret (.int 0))) (ret [])))) (ret []))) m_part_times))) (ret []))))))
def mb_guess_chances : List D → M Bx (Fl Unit Unit)
  | [rows_39, counts_40] => b_guess_chances rows_39 counts_40
  | _ => stuck
def m_guess_chances (ds : List D) : M Bx D := bnd (mb_guess_chances ds) endF
set_option maxHeartbeats 0 in
theorem h_guess_chances {f : Addr} {fd : FuncData} (F : Fun K "guess_chances" "guess_chances" s_guess_chances f fd) (g : mg "guess_chances" = some (.ref f)) (z_tuple : mg "tuple" = none) (h_likelihood : HasF (S := Bx) ⟨P, w, K, mg, base⟩ 2 "likelihood" 2 m_likelihood) (h_part_sum : HasF (S := Bx) ⟨P, w, K, mg, base⟩ 2 "part_sum" 2 m_part_sum) (h_part_times : HasF (S := Bx) ⟨P, w, K, mg, base⟩ 2 "part_times" 2 m_part_times) : HasF (S := Bx) ⟨P, w, K, mg, base⟩ 3 "guess_chances" 2 m_guess_chances :=
  hasF_mk g F sc_guess_chances (F.binds fun _ _ _ _ _ _ us hl => match us, hl with | [_, _], _ => rfl) rfl fun ds hl => match ds, hl with
    | [rows_39, counts_40], _ =>
      (OkB.parT2 (C := CC_guess_chances P w K mg base 2) (i := 2) (j := 3) rfl rfl (.inl rfl) (.inr rfl) (.inl rfl) (.inl rfl) (Ok.frz (OkC.n (Ok.lc [("weights", 5)] (OkI.val (Ok.var (i := 0) rfl (.inl rfl) rfl) (fun h => by first | rfl | cases h)) fun weights_41 => (BindOk.name (i := 5) rfl (.inl rfl) (.inr rfl) (BindOk.nil ⟨_, _, OkTs.nil, (Ok.call h_likelihood (Nat.le_of_ble_eq_true rfl) rfl (Ok.cons (Ok.var (i := 5) rfl (.inl rfl) rfl) (Ok.cons (Ok.var (i := 1) rfl (.inr (.inl rfl)) rfl) Ok.nil))), rfl⟩))))) (Ok.tup (Ok.cons Ok.int (Ok.cons Ok.int Ok.nil))) (.inl rfl) (.inl rfl) (fun told_42 whole_43 => (OkB.forR (C := CC_guess_chances P w K mg base 2) (Γl := fun (s_44 : D) => [none, none, some (.frz told_42), some (.frz s_44), none, none]) (s0 := whole_43) (OkI.val (Ok.var (i := 2) rfl (.inl rfl) rfl) (fun h => by first | rfl | cases h)) (wk_mask (bs := [false, false, true, true, false, false])) (fun s_44 one_45 => (BindOk.name (i := 4) rfl (.inl rfl) (.inl rfl) (BindOk.nil (OkB.set (C := CC_guess_chances P w K mg base 2) (i := 3) rfl (.inr rfl) (.inl rfl) (Ok.call h_part_sum (Nat.le_of_ble_eq_true rfl) rfl (Ok.cons (Ok.var (i := 3) rfl (.inr (.inl rfl)) rfl) (Ok.cons (Ok.var (i := 4) rfl (.inl rfl) rfl) Ok.nil))) (fun whole_46 => (OkB.nil (s := whole_46) (wk_mask (bs := [false, false, true, true, false, false])))))))) fun s_47 => (OkB.ret (Ok.frz (Ok.tfun o_tuple (by decide +kernel) rfl z_tuple (Ok.cons (Ok.view (OkC.n (Ok.lc [("one", 4)] (OkI.val (Ok.var (i := 2) rfl (.inl rfl) rfl) (fun h => by first | rfl | cases h)) fun one_48 => (BindOk.name (i := 4) rfl (.inl rfl) (.inr rfl) (BindOk.nil ⟨_, _, OkTs.nil, (Ok.call h_part_times (Nat.le_of_ble_eq_true rfl) rfl (Ok.cons (Ok.var (i := 4) rfl (.inl rfl) rfl) (Ok.cons (Ok.tup (Ok.cons (Ok.ix (Ok.view (Ok.var (i := 3) rfl (.inr (.inl rfl)) rfl)) (Ok.view Ok.int)) (Ok.cons (Ok.ix (Ok.view (Ok.var (i := 3) rfl (.inr (.inl rfl)) rfl)) (Ok.view Ok.int)) Ok.nil))) Ok.nil))), rfl⟩))))) Ok.nil)))))))
abbrev s__law_same : Stmt := topS 15
theorem sc__law_same : FnScope ["a", "b", "k"] ["a", "b"] (defScope s__law_same) := ⟨rfl, rfl, rfl, by decide +kernel, rfl, by decide +kernel, by decide +kernel⟩
abbrev CC__law_same (P : Program) (w : World) (K : PySem.W.Frag) (mg : Str → Option Value) (base : Heap) (k : Nat) : Stat := ⟨⟨P, w, K, mg, base⟩, ["a", "b", "k"], defScope s__law_same, k, fun _ => true⟩
def b__law_same (self : List D → M Bx D) (a_49 : D) (b_50 : D)  : M Bx (Fl Unit Unit) :=
  (iteF (orT (andT (valT (isiM "tuple" (ret a_49))) (valT (isiM "tuple" (ret b_50)))) (andT (valT (isiM "list" (ret a_49))) (valT (isiM "list" (ret b_50))))) (retF (andM (op2M eqD (bcM lenD (consM (ret a_49) (ret []))) (bcM lenD (consM (ret b_50) (ret [])))) (bcM allD (consM (compM (rng1M (bcM lenD (consM (ret a_49) (ret [])))) fun k_51 => (eltM (ret true) (bnd (consM (ixM (ret a_49) (ret k_51)) (consM (ixM (ret b_50) (ret k_51)) (ret []))) self))) (ret []))))) (ret (.nx ())) fun (s_52 : Unit) => (iteF (orT (valT (isiM "bool" (ret a_49))) (valT (isiM "bool" (ret b_50)))) (retF (andM (isiM "bool" (ret a_49)) (andM (isiM "bool" (ret b_50)) (op2M eqD (ret a_49) (ret b_50))))) (ret (.nx ())) fun (s_53 : Unit) => (iteF (orT (andT (valT (isiM "int" (ret a_49))) (valT (isiM "int" (ret b_50)))) (andT (valT (isiM "str" (ret a_49))) (valT (isiM "str" (ret b_50))))) (retF (op2M eqD (ret a_49) (ret b_50))) (ret (.nx ())) fun (s_54 : Unit) => (retF (andM (op2M isD (ret a_49) (ret .non)) (op2M isD (ret b_50) (ret .non)))))))
def mb__law_same (self : List D → M Bx D) : List D → M Bx (Fl Unit Unit)
  | [a_49, b_50] => b__law_same self a_49 b_50
  | _ => stuck
def m__law_same : Nat → List D → M Bx D
  | 0 => fun _ => stuck
  | n + 1 => fun ds => bnd (mb__law_same (m__law_same n) ds) endF
set_option maxHeartbeats 0 in
theorem st__law_same {k : Nat} (hk : 0 ≤ k) (self : List D → M Bx D) (hself : HasF (S := Bx) ⟨P, w, K, mg, base⟩ k "_law_same" 2 self) {f : Addr} {fd : FuncData} (F : Fun K "_law_same" "_law_same" s__law_same f fd) (g : mg "_law_same" = some (.ref f)) (z_all : mg "all" = none) (z_bool : mg "bool" = none) (z_int : mg "int" = none) (z_isinstance : mg "isinstance" = none) (z_len : mg "len" = none) (z_list : mg "list" = none) (z_range : mg "range" = none) (z_str : mg "str" = none) (z_tuple : mg "tuple" = none) : HasF ⟨P, w, K, mg, base⟩ (k + 1) "_law_same" 2 fun ds => bnd (mb__law_same self ds) endF :=
  hasF_mk g F sc__law_same (F.binds fun _ _ _ _ _ _ us hl => match us, hl with | [_, _], _ => rfl) rfl fun ds hl => match ds, hl with
    | [a_49, b_50], _ =>
      (OkB.ite (C := CC__law_same P w K mg base k) (Γj := fun (s_52 : Unit) => [some (.frz a_49), some (.frz b_50), none]) (OkW.pt (OkW.or (OkW.pt (OkW.and (OkT.val (Ok.view (Ok.isinst (T := "tuple") (Ok.view (Ok.var (i := 0) rfl (.inr (.inl rfl)) rfl)) rfl z_isinstance rfl z_tuple (by decide +kernel)))) (OkW.and1 (OkT.val (Ok.view (Ok.isinst (T := "tuple") (Ok.view (Ok.var (i := 1) rfl (.inr (.inl rfl)) rfl)) rfl z_isinstance rfl z_tuple (by decide +kernel))))))) (OkW.or1 (OkW.pt (OkW.and (OkT.val (Ok.view (Ok.isinst (T := "list") (Ok.view (Ok.var (i := 0) rfl (.inr (.inl rfl)) rfl)) rfl z_isinstance rfl z_list (by decide +kernel)))) (OkW.and1 (OkT.val (Ok.view (Ok.isinst (T := "list") (Ok.view (Ok.var (i := 1) rfl (.inr (.inl rfl)) rfl)) rfl z_isinstance rfl z_list (by decide +kernel)))))))))) (OkB.ret (Ok.and (Ok.view (Ok.cmp o_eq (Ok.view (Ok.bfun o_len (by decide +kernel) rfl z_len (Ok.cons (Ok.view (Ok.var (i := 0) rfl (.inr (.inl rfl)) rfl)) Ok.nil))) (Ok.view (Ok.bfun o_len (by decide +kernel) rfl z_len (Ok.cons (Ok.view (Ok.var (i := 1) rfl (.inr (.inl rfl)) rfl)) Ok.nil))))) (Ok.one (Ok.frz (Ok.bfun o_all (by decide +kernel) rfl z_all (Ok.cons (Ok.view (OkC.n (Ok.lc [("k", 2)] (OkI.range1 (Ok.view (Ok.bfun o_len (by decide +kernel) rfl z_len (Ok.cons (Ok.view (Ok.var (i := 0) rfl (.inr (.inl rfl)) rfl)) Ok.nil))) rfl z_range) fun k_51 => (BindOk.name (i := 2) rfl (.inl rfl) (.inr rfl) (BindOk.nil ⟨_, _, OkTs.nil, (Ok.call hself (Nat.le_refl _) rfl (Ok.cons (Ok.ix (Ok.view (Ok.var (i := 0) rfl (.inr (.inl rfl)) rfl)) (Ok.view (Ok.var (i := 2) rfl (.inl rfl) rfl))) (Ok.cons (Ok.ix (Ok.view (Ok.var (i := 1) rfl (.inr (.inl rfl)) rfl)) (Ok.view (Ok.var (i := 2) rfl (.inl rfl) rfl))) Ok.nil))), rfl⟩))))) Ok.nil)))))) (OkB.nil (s := ()) (wk_mask (bs := [true, true, false]))) fun s_52 => (OkB.ite (C := CC__law_same P w K mg base k) (Γj := fun (s_53 : Unit) => [some (.frz a_49), some (.frz b_50), none]) (OkW.pt (OkW.or (OkT.val (Ok.view (Ok.isinst (T := "bool") (Ok.view (Ok.var (i := 0) rfl (.inr (.inl rfl)) rfl)) rfl z_isinstance rfl z_bool (by decide +kernel)))) (OkW.or1 (OkT.val (Ok.view (Ok.isinst (T := "bool") (Ok.view (Ok.var (i := 1) rfl (.inr (.inl rfl)) rfl)) rfl z_isinstance rfl z_bool (by decide +kernel))))))) (OkB.ret (Ok.and (Ok.view (Ok.isinst (T := "bool") (Ok.view (Ok.var (i := 0) rfl (.inr (.inl rfl)) rfl)) rfl z_isinstance rfl z_bool (by decide +kernel))) (Ok.and (Ok.view (Ok.isinst (T := "bool") (Ok.view (Ok.var (i := 1) rfl (.inr (.inl rfl)) rfl)) rfl z_isinstance rfl z_bool (by decide +kernel))) (Ok.one (Ok.frz (Ok.cmp o_eq (Ok.view (Ok.var (i := 0) rfl (.inr (.inl rfl)) rfl)) (Ok.view (Ok.var (i := 1) rfl (.inr (.inl rfl)) rfl)))))))) (OkB.nil (s := ()) (wk_mask (bs := [true, true, false]))) fun s_53 => (OkB.ite (C := CC__law_same P w K mg base k) (Γj := fun (s_54 : Unit) => [some (.frz a_49), some (.frz b_50), none]) (OkW.pt (OkW.or (OkW.pt (OkW.and (OkT.val (Ok.view (Ok.isinst (T := "int") (Ok.view (Ok.var (i := 0) rfl (.inr (.inl rfl)) rfl)) rfl z_isinstance rfl z_int (by decide +kernel)))) (OkW.and1 (OkT.val (Ok.view (Ok.isinst (T := "int") (Ok.view (Ok.var (i := 1) rfl (.inr (.inl rfl)) rfl)) rfl z_isinstance rfl z_int (by decide +kernel))))))) (OkW.or1 (OkW.pt (OkW.and (OkT.val (Ok.view (Ok.isinst (T := "str") (Ok.view (Ok.var (i := 0) rfl (.inr (.inl rfl)) rfl)) rfl z_isinstance rfl z_str (by decide +kernel)))) (OkW.and1 (OkT.val (Ok.view (Ok.isinst (T := "str") (Ok.view (Ok.var (i := 1) rfl (.inr (.inl rfl)) rfl)) rfl z_isinstance rfl z_str (by decide +kernel)))))))))) (OkB.ret (Ok.frz (Ok.cmp o_eq (Ok.view (Ok.var (i := 0) rfl (.inr (.inl rfl)) rfl)) (Ok.view (Ok.var (i := 1) rfl (.inr (.inl rfl)) rfl))))) (OkB.nil (s := ()) (wk_mask (bs := [true, true, false]))) fun s_54 => (OkB.ret (Ok.and (Ok.view (Ok.cmp o_is (Ok.view (Ok.var (i := 0) rfl (.inr (.inl rfl)) rfl)) (Ok.view Ok.non))) (Ok.one (Ok.frz (Ok.cmp o_is (Ok.view (Ok.var (i := 1) rfl (.inr (.inl rfl)) rfl)) (Ok.view Ok.non)))))))))
theorem h__law_same {f : Addr} {fd : FuncData} (F : Fun K "_law_same" "_law_same" s__law_same f fd) (g : mg "_law_same" = some (.ref f)) (z_all : mg "all" = none) (z_bool : mg "bool" = none) (z_int : mg "int" = none) (z_isinstance : mg "isinstance" = none) (z_len : mg "len" = none) (z_list : mg "list" = none) (z_range : mg "range" = none) (z_str : mg "str" = none) (z_tuple : mg "tuple" = none) : ∀ n, HasF (S := Bx) ⟨P, w, K, mg, base⟩ (1 + n) "_law_same" 2 (m__law_same n)
  | 0 => hasF_stuck g F (F.binds (ps := ["a", "b"]) fun _ _ _ _ _ _ us hl => match us, hl with | [_, _], _ => rfl) rfl
  | n + 1 => st__law_same (Nat.le_trans (by decide) (Nat.le_add_right _ n)) _ (h__law_same F g z_all z_bool z_int z_isinstance z_len z_list z_range z_str z_tuple n) F g z_all z_bool z_int z_isinstance z_len z_list z_range z_str z_tuple
abbrev s__law_bent : Stmt := topS 16
theorem sc__law_bent : FnScope ["box", "value", "at", "pick"] ["box", "value"] (defScope s__law_bent) := ⟨rfl, rfl, rfl, by decide +kernel, rfl, by decide +kernel, by decide +kernel⟩
abbrev CC__law_bent (P : Program) (w : World) (K : PySem.W.Frag) (mg : Str → Option Value) (base : Heap) (k : Nat) : Stat := ⟨⟨P, w, K, mg, base⟩, ["box", "value", "at", "pick"], defScope s__law_bent, k, fun _ => true⟩
def b__law_bent (self : List D → M Bx D) (box_55 : D) (value_56 : D)  : M Bx (Fl Unit Unit) :=
  (iteF (andT (valT (isiM "tuple" (ret value_56))) (andT (cmpT gtD (bcM lenD (consM (ret value_56) (ret []))) (ret (.int 0))) (cmpT gtD (bnd (consM (ret box_55) (consM (ret (.int 5)) (ret []))) m_draw) (ret (.int 0))))) (bnd (bnd (consM (ret box_55) (consM (bcM lenD (consM (ret value_56) (ret []))) (ret []))) m_draw) fun at_57 => (retF (op2M addD (op2M addD (slM (ret value_56) (ret none) (ptM (ret at_57))) (tupM (consM (bnd (consM (ret box_55) (consM (ixM (ret value_56) (ret at_57)) (ret []))) self) (ret [])))) (slM (ret value_56) (ptM (op2M addD (ret at_57) (ret (.int 1)))) (ret none))))) (ret (.nx ())) fun (s_58 : Unit) => (bnd (bnd (consM (ret box_55) (consM (ret (.int 8)) (ret []))) m_draw) fun pick_59 => (iteF (valT (isiM "tuple" (ret value_56))) (retF (ixM (lstM (consM (op2M addD (ret value_56) (slM (ret value_56) (ret none) (ptM (ret (.int 1))))) (consM (slM (ret value_56) (ptM (ret (.int 1))) (ret none)) (consM (revM (ret value_56)) (consM (op2M addD (ret value_56) (tupM (consM (ret (.int 0)) (ret [])))) (consM (op2M addD (slM (ret value_56) (ret none) (ptM (ret (.int 1)))) (ret value_56)) (consM (slM (ret value_56) (ret none) (ptM (negM (ret (.int 1))))) (consM (ret .non) (consM (slM (ret value_56) (ret none) (ptM (ret (.int 1)))) (ret [])))))))))) (ret pick_59))) (ret (.nx ())) fun (s_60 : Unit) => (iteF (andT (valT (isiM "int" (ret value_56))) (notT (valT (isiM "bool" (ret value_56))))) (retF (ixM (lstM (consM (op2M addD (ret value_56) (ret (.int 1))) (consM (op2M subD (ret value_56) (ret (.int 1))) (consM (negM (ret value_56)) (consM (op2M eqD (ret value_56) (ret (.int 1))) (consM (ret .non) (consM (bcM strD (consM (ret value_56) (ret []))) (consM (tupM (consM (ret value_56) (ret []))) (consM (op2M addD (ret value_56) (ret (.int 1001))) (ret [])))))))))) (ret pick_59))) (ret (.nx ())) fun (s_61 : Unit) => (iteF (valT (isiM "str" (ret value_56))) (retF (ixM (lstM (consM (op2M addD (ret value_56) (ret (.str "a"))) (consM (slM (ret value_56) (ptM (ret (.int 1))) (ret none)) (consM (ret (.str "any")) (consM stuck (consM (ret (.int 0)) (consM (ret (.str "")) (consM (op2M addD (ret value_56) (ret (.str "z0z0z0z0"))) (consM (tupM (consM (ret value_56) (ret []))) (ret [])))))))))) (ret pick_59))) (ret (.nx ())) fun (s_62 : Unit) => (retF (ixM (lstM (consM (ret (.int 0)) (consM (ret (.int 1)) (consM (ret .non) (consM (ret (.bl true)) (consM (ret (.bl false)) (consM (ret (.str "a")) (consM (tupM (ret [])) (consM (negM (ret (.int 1))) (ret [])))))))))) (ret pick_59))))))))
def mb__law_bent (self : List D → M Bx D) : List D → M Bx (Fl Unit Unit)
  | [box_55, value_56] => b__law_bent self box_55 value_56
  | _ => stuck
def m__law_bent : Nat → List D → M Bx D
  | 0 => fun _ => stuck
  | n + 1 => fun ds => bnd (mb__law_bent (m__law_bent n) ds) endF
set_option maxHeartbeats 0 in
theorem st__law_bent {k : Nat} (hk : 2 ≤ k) (self : List D → M Bx D) (hself : HasF (S := Bx) ⟨P, w, K, mg, base⟩ k "_law_bent" 2 self) {f : Addr} {fd : FuncData} (F : Fun K "_law_bent" "_law_bent" s__law_bent f fd) (g : mg "_law_bent" = some (.ref f)) (z_bool : mg "bool" = none) (z_int : mg "int" = none) (z_isinstance : mg "isinstance" = none) (z_len : mg "len" = none) (z_str : mg "str" = none) (z_tuple : mg "tuple" = none) (h__law_draw : HasF (S := Bx) ⟨P, w, K, mg, base⟩ 2 "_law_draw" 2 m_draw) : HasF ⟨P, w, K, mg, base⟩ (k + 1) "_law_bent" 2 fun ds => bnd (mb__law_bent self ds) endF :=
  hasF_mk g F sc__law_bent (F.binds fun _ _ _ _ _ _ us hl => match us, hl with | [_, _], _ => rfl) rfl fun ds hl => match ds, hl with
    | [box_55, value_56], _ =>
      (OkB.ite (C := CC__law_bent P w K mg base k) (Γj := fun (s_58 : Unit) => [some (.frz box_55), some (.frz value_56), none, none]) (OkW.pt (OkW.and (OkT.val (Ok.view (Ok.isinst (T := "tuple") (Ok.view (Ok.var (i := 1) rfl (.inl rfl) rfl)) rfl z_isinstance rfl z_tuple (by decide +kernel)))) (OkW.and (OkT.cmp o_gt (Ok.view (Ok.bfun o_len (by decide +kernel) rfl z_len (Ok.cons (Ok.view (Ok.var (i := 1) rfl (.inl rfl) rfl)) Ok.nil))) (Ok.view Ok.int)) (OkW.and1 (OkT.cmp o_gt (Ok.view (Ok.call h__law_draw (Nat.le_trans (by decide) hk) rfl (Ok.cons (Ok.var (i := 0) rfl (.inl rfl) rfl) (Ok.cons Ok.int Ok.nil)))) (Ok.view Ok.int)))))) (OkB.set (C := CC__law_bent P w K mg base k) (i := 2) rfl (.inl rfl) (.inl rfl) (Ok.call h__law_draw (Nat.le_trans (by decide) hk) rfl (Ok.cons (Ok.var (i := 0) rfl (.inl rfl) rfl) (Ok.cons (Ok.frz (Ok.bfun o_len (by decide +kernel) rfl z_len (Ok.cons (Ok.view (Ok.var (i := 1) rfl (.inl rfl) rfl)) Ok.nil))) Ok.nil))) (fun at_57 => (OkB.ret (Ok.frz (Ok.op o_add (Ok.view (Ok.op o_add (Ok.view (Ok.sl (Ok.view (Ok.var (i := 1) rfl (.inl rfl) rfl)) OkO.none (OkO.some (Ok.view (Ok.var (i := 2) rfl (.inl rfl) rfl))))) (Ok.view (Ok.tup (Ok.cons (Ok.call hself (Nat.le_refl _) rfl (Ok.cons (Ok.var (i := 0) rfl (.inl rfl) rfl) (Ok.cons (Ok.ix (Ok.view (Ok.var (i := 1) rfl (.inl rfl) rfl)) (Ok.view (Ok.var (i := 2) rfl (.inl rfl) rfl))) Ok.nil))) Ok.nil))))) (Ok.view (Ok.sl (Ok.view (Ok.var (i := 1) rfl (.inl rfl) rfl)) (OkO.some (Ok.view (Ok.op o_add (Ok.view (Ok.var (i := 2) rfl (.inl rfl) rfl)) (Ok.view Ok.int)))) OkO.none))))))) (OkB.nil (s := ()) (wk_mask (bs := [true, true, false, false]))) fun s_58 => (OkB.set (C := CC__law_bent P w K mg base k) (i := 3) rfl (.inl rfl) (.inl rfl) (Ok.call h__law_draw (Nat.le_trans (by decide) hk) rfl (Ok.cons (Ok.var (i := 0) rfl (.inl rfl) rfl) (Ok.cons Ok.int Ok.nil))) (fun pick_59 => (OkB.ite (C := CC__law_bent P w K mg base k) (Γj := fun (s_60 : Unit) => [none, some (.frz value_56), none, some (.frz pick_59)]) (OkT.val (Ok.view (Ok.isinst (T := "tuple") (Ok.view (Ok.var (i := 1) rfl (.inl rfl) rfl)) rfl z_isinstance rfl z_tuple (by decide +kernel)))) (OkB.ret (Ok.ix (Ok.view (Ok.lst (Ok.cons (Ok.frz (Ok.op o_add (Ok.view (Ok.var (i := 1) rfl (.inl rfl) rfl)) (Ok.view (Ok.sl (Ok.view (Ok.var (i := 1) rfl (.inl rfl) rfl)) OkO.none (OkO.some (Ok.view Ok.int)))))) (Ok.cons (Ok.frz (Ok.sl (Ok.view (Ok.var (i := 1) rfl (.inl rfl) rfl)) (OkO.some (Ok.view Ok.int)) OkO.none)) (Ok.cons (Ok.frz (Ok.rev (Ok.view (Ok.var (i := 1) rfl (.inl rfl) rfl)))) (Ok.cons (Ok.frz (Ok.op o_add (Ok.view (Ok.var (i := 1) rfl (.inl rfl) rfl)) (Ok.view (Ok.tup (Ok.cons Ok.int Ok.nil))))) (Ok.cons (Ok.frz (Ok.op o_add (Ok.view (Ok.sl (Ok.view (Ok.var (i := 1) rfl (.inl rfl) rfl)) OkO.none (OkO.some (Ok.view Ok.int)))) (Ok.view (Ok.var (i := 1) rfl (.inl rfl) rfl)))) (Ok.cons (Ok.frz (Ok.sl (Ok.view (Ok.var (i := 1) rfl (.inl rfl) rfl)) OkO.none (OkO.some (Ok.view (Ok.neg' (Ok.view Ok.int)))))) (Ok.cons Ok.non (Ok.cons (Ok.frz (Ok.sl (Ok.view (Ok.var (i := 1) rfl (.inl rfl) rfl)) OkO.none (OkO.some (Ok.view Ok.int)))) Ok.nil)))))))))) (Ok.view (Ok.var (i := 3) rfl (.inl rfl) rfl)))) (OkB.nil (s := ()) (wk_mask (bs := [false, true, false, true]))) fun s_60 => (OkB.ite (C := CC__law_bent P w K mg base k) (Γj := fun (s_61 : Unit) => [none, some (.frz value_56), none, some (.frz pick_59)]) (OkW.pt (OkW.and (OkT.val (Ok.view (Ok.isinst (T := "int") (Ok.view (Ok.var (i := 1) rfl (.inl rfl) rfl)) rfl z_isinstance rfl z_int (by decide +kernel)))) (OkW.and1 (OkT.not (OkT.val (Ok.view (Ok.isinst (T := "bool") (Ok.view (Ok.var (i := 1) rfl (.inl rfl) rfl)) rfl z_isinstance rfl z_bool (by decide +kernel)))))))) (OkB.ret (Ok.ix (Ok.view (Ok.lst (Ok.cons (Ok.frz (Ok.op o_add (Ok.view (Ok.var (i := 1) rfl (.inl rfl) rfl)) (Ok.view Ok.int))) (Ok.cons (Ok.frz (Ok.op o_sub (Ok.view (Ok.var (i := 1) rfl (.inl rfl) rfl)) (Ok.view Ok.int))) (Ok.cons (Ok.neg' (Ok.view (Ok.var (i := 1) rfl (.inl rfl) rfl))) (Ok.cons (Ok.frz (Ok.cmp o_eq (Ok.view (Ok.var (i := 1) rfl (.inl rfl) rfl)) (Ok.view Ok.int))) (Ok.cons Ok.non (Ok.cons (Ok.frz (Ok.tfun o_str (by decide +kernel) rfl z_str (Ok.cons (Ok.view (Ok.var (i := 1) rfl (.inl rfl) rfl)) Ok.nil))) (Ok.cons (Ok.tup (Ok.cons (Ok.var (i := 1) rfl (.inl rfl) rfl) Ok.nil)) (Ok.cons (Ok.frz (Ok.op o_add (Ok.view (Ok.var (i := 1) rfl (.inl rfl) rfl)) (Ok.view Ok.int))) Ok.nil)))))))))) (Ok.view (Ok.var (i := 3) rfl (.inl rfl) rfl)))) (OkB.nil (s := ()) (wk_mask (bs := [false, true, false, true]))) fun s_61 => (OkB.ite (C := CC__law_bent P w K mg base k) (Γj := fun (s_62 : Unit) => [none, none, none, some (.frz pick_59)]) (OkT.val (Ok.view (Ok.isinst (T := "str") (Ok.view (Ok.var (i := 1) rfl (.inl rfl) rfl)) rfl z_isinstance rfl z_str (by decide +kernel)))) (OkB.ret (Ok.ix (Ok.view (Ok.lst (Ok.cons (Ok.frz (Ok.op o_add (Ok.view (Ok.var (i := 1) rfl (.inl rfl) rfl)) (Ok.view Ok.str))) (Ok.cons (Ok.frz (Ok.sl (Ok.view (Ok.var (i := 1) rfl (.inl rfl) rfl)) (OkO.some (Ok.view Ok.int)) OkO.none)) (Ok.cons Ok.str (Ok.cons (Ok.frz (Ok.stuck (md := .N))) (Ok.cons Ok.int (Ok.cons Ok.str (Ok.cons (Ok.frz (Ok.op o_add (Ok.view (Ok.var (i := 1) rfl (.inl rfl) rfl)) (Ok.view Ok.str))) (Ok.cons (Ok.tup (Ok.cons (Ok.var (i := 1) rfl (.inl rfl) rfl) Ok.nil)) Ok.nil)))))))))) (Ok.view (Ok.var (i := 3) rfl (.inl rfl) rfl)))) (OkB.nil (s := ()) (wk_mask (bs := [false, false, false, true]))) fun s_62 => (OkB.ret (Ok.ix (Ok.view (Ok.lst (Ok.cons Ok.int (Ok.cons Ok.int (Ok.cons Ok.non (Ok.cons Ok.bl (Ok.cons Ok.bl (Ok.cons Ok.str (Ok.cons (Ok.tup Ok.nil) (Ok.cons (Ok.neg' (Ok.view Ok.int)) Ok.nil)))))))))) (Ok.view (Ok.var (i := 3) rfl (.inl rfl) rfl))))))))))
theorem h__law_bent {f : Addr} {fd : FuncData} (F : Fun K "_law_bent" "_law_bent" s__law_bent f fd) (g : mg "_law_bent" = some (.ref f)) (z_bool : mg "bool" = none) (z_int : mg "int" = none) (z_isinstance : mg "isinstance" = none) (z_len : mg "len" = none) (z_str : mg "str" = none) (z_tuple : mg "tuple" = none) (h__law_draw : HasF (S := Bx) ⟨P, w, K, mg, base⟩ 2 "_law_draw" 2 m_draw) : ∀ n, HasF (S := Bx) ⟨P, w, K, mg, base⟩ (3 + n) "_law_bent" 2 (m__law_bent n)
  | 0 => hasF_stuck g F (F.binds (ps := ["box", "value"]) fun _ _ _ _ _ _ us hl => match us, hl with | [_, _], _ => rfl) rfl
  | n + 1 => st__law_bent (Nat.le_trans (by decide) (Nat.le_add_right _ n)) _ (h__law_bent F g z_bool z_int z_isinstance z_len z_str z_tuple h__law_draw n) F g z_bool z_int z_isinstance z_len z_str z_tuple h__law_draw
abbrev s__law_ratio : Stmt := topS 17
theorem sc__law_ratio : FnScope ["p", "q", "a", "b"] ["p", "q"] (defScope s__law_ratio) := ⟨rfl, rfl, rfl, by decide +kernel, rfl, by decide +kernel, by decide +kernel⟩
abbrev CC__law_ratio (P : Program) (w : World) (K : PySem.W.Frag) (mg : Str → Option Value) (base : Heap) (k : Nat) : Stat := ⟨⟨P, w, K, mg, base⟩, ["p", "q", "a", "b"], defScope s__law_ratio, k, fun _ => true⟩
def b__law_ratio (p_63 : D) (q_64 : D) : M Bx (Fl Unit Unit) :=
  (parM .E .E (bcM absD (consM (ret p_63) (ret []))) (bcM absD (consM (ret q_64) (ret []))) fun a_65 b_66 => (whileL (fun (s_67 : D × D) => (cmpT neD (ret s_67.2) (ret (.int 0)))) (fun s_67 => (parM .E .E (ret s_67.2) (op2M subD (ret s_67.1) (op2M mulWD (op2M divWD (ret s_67.1) (ret s_67.2)) (ret s_67.2))) fun a_68 b_69 => (ret (.nx (a_68, b_69))))) (fun s_70 => (retF (ifM (cmpT gtD (ret q_64) (ret (.int 0))) (tupM (consM (op2M divWD (ret p_63) (ret s_70.1)) (consM (op2M divWD (ret q_64) (ret s_70.1)) (ret [])))) (tupM (consM (op2M divWD (negM (ret p_63)) (ret s_70.1)) (consM (op2M divWD (negM (ret q_64)) (ret s_70.1)) (ret []))))))) fuel (a_65, b_66)))
def mb__law_ratio : List D → M Bx (Fl Unit Unit)
  | [p_63, q_64] => b__law_ratio p_63 q_64
  | _ => stuck
def m__law_ratio (ds : List D) : M Bx D := bnd (mb__law_ratio ds) endF
set_option maxHeartbeats 0 in
theorem h__law_ratio {f : Addr} {fd : FuncData} (F : Fun K "_law_ratio" "_law_ratio" s__law_ratio f fd) (g : mg "_law_ratio" = some (.ref f)) (z_abs : mg "abs" = none) : HasF (S := Bx) ⟨P, w, K, mg, base⟩ 1 "_law_ratio" 2 m__law_ratio :=
  hasF_mk g F sc__law_ratio (F.binds fun _ _ _ _ _ _ us hl => match us, hl with | [_, _], _ => rfl) rfl fun ds hl => match ds, hl with
    | [p_63, q_64], _ =>
      (OkB.par2 (C := CC__law_ratio P w K mg base 0) (i := 2) (j := 3) rfl rfl (by decide) rfl rfl rfl (Ok.frz (Ok.bfun o_abs (by decide +kernel) rfl z_abs (Ok.cons (Ok.view (Ok.var (i := 0) rfl (.inl rfl) rfl)) Ok.nil))) (Ok.frz (Ok.bfun o_abs (by decide +kernel) rfl z_abs (Ok.cons (Ok.view (Ok.var (i := 1) rfl (.inl rfl) rfl)) Ok.nil))) (.inl rfl) (.inl rfl) fun a_65 b_66 => (OkB.whileR (C := CC__law_ratio P w K mg base 0) (Γl := fun (s_67 : D × D) => [some (.frz p_63), some (.frz q_64), some (.frz s_67.1), some (.frz s_67.2)]) (s0 := (a_65, b_66)) (n0 := fuel) (wk_mask (bs := [true, true, true, true])) (fun s_67 => (OkT.cmp o_ne (Ok.view (Ok.var (i := 3) rfl (.inl rfl) rfl)) (Ok.view Ok.int))) (fun s_67 => (OkB.par2 (C := CC__law_ratio P w K mg base 0) (i := 2) (j := 3) rfl rfl (by decide) rfl rfl rfl (Ok.var (i := 3) rfl (.inl rfl) rfl) (Ok.frz (Ok.op o_sub (Ok.view (Ok.var (i := 2) rfl (.inl rfl) rfl)) (Ok.view (Ok.op o_mulW (Ok.view (Ok.op o_divW (Ok.view (Ok.var (i := 2) rfl (.inl rfl) rfl)) (Ok.view (Ok.var (i := 3) rfl (.inl rfl) rfl)))) (Ok.view (Ok.var (i := 3) rfl (.inl rfl) rfl)))))) (.inl rfl) (.inl rfl) fun a_68 b_69 => (OkB.nil (s := (a_68, b_69)) (wk_mask (bs := [true, true, true, true]))))) fun s_70 => (OkB.ret (Ok.ife (OkT.cmp o_gt (Ok.view (Ok.var (i := 1) rfl (.inl rfl) rfl)) (Ok.view Ok.int)) (Ok.tup (Ok.cons (Ok.frz (Ok.op o_divW (Ok.view (Ok.var (i := 0) rfl (.inl rfl) rfl)) (Ok.view (Ok.var (i := 2) rfl (.inl rfl) rfl)))) (Ok.cons (Ok.frz (Ok.op o_divW (Ok.view (Ok.var (i := 1) rfl (.inl rfl) rfl)) (Ok.view (Ok.var (i := 2) rfl (.inl rfl) rfl)))) Ok.nil))) (Ok.tup (Ok.cons (Ok.frz (Ok.op o_divW (Ok.view (Ok.neg' (Ok.view (Ok.var (i := 0) rfl (.inl rfl) rfl)))) (Ok.view (Ok.var (i := 2) rfl (.inl rfl) rfl)))) (Ok.cons (Ok.frz (Ok.op o_divW (Ok.view (Ok.neg' (Ok.view (Ok.var (i := 1) rfl (.inl rfl) rfl)))) (Ok.view (Ok.var (i := 2) rfl (.inl rfl) rfl)))) Ok.nil)))))))
abbrev s__law_plus : Stmt := topS 18
theorem sc__law_plus : FnScope ["one", "other"] ["one", "other"] (defScope s__law_plus) := ⟨rfl, rfl, rfl, by decide +kernel, rfl, by decide +kernel, by decide +kernel⟩
abbrev CC__law_plus (P : Program) (w : World) (K : PySem.W.Frag) (mg : Str → Option Value) (base : Heap) (k : Nat) : Stat := ⟨⟨P, w, K, mg, base⟩, ["one", "other"], defScope s__law_plus, k, fun _ => true⟩
def b__law_plus (one_71 : D) (other_72 : D) : M Bx (Fl Unit Unit) :=
  (retF (bnd (consM (op2M addD (op2M mulWD (ixM (ret one_71) (ret (.int 0))) (ixM (ret other_72) (ret (.int 1)))) (op2M mulWD (ixM (ret other_72) (ret (.int 0))) (ixM (ret one_71) (ret (.int 1))))) (consM (op2M mulWD (ixM (ret one_71) (ret (.int 1))) (ixM (ret other_72) (ret (.int 1)))) (ret []))) m__law_ratio))
def mb__law_plus : List D → M Bx (Fl Unit Unit)
  | [one_71, other_72] => b__law_plus one_71 other_72
  | _ => stuck
def m__law_plus (ds : List D) : M Bx D := bnd (mb__law_plus ds) endF
set_option maxHeartbeats 0 in
theorem h__law_plus {f : Addr} {fd : FuncData} (F : Fun K "_law_plus" "_law_plus" s__law_plus f fd) (g : mg "_law_plus" = some (.ref f)) (h__law_ratio : HasF (S := Bx) ⟨P, w, K, mg, base⟩ 1 "_law_ratio" 2 m__law_ratio) : HasF (S := Bx) ⟨P, w, K, mg, base⟩ 2 "_law_plus" 2 m__law_plus :=
  hasF_mk g F sc__law_plus (F.binds fun _ _ _ _ _ _ us hl => match us, hl with | [_, _], _ => rfl) rfl fun ds hl => match ds, hl with
    | [one_71, other_72], _ =>
      (OkB.ret (Ok.call h__law_ratio (Nat.le_of_ble_eq_true rfl) rfl (Ok.cons (Ok.frz (Ok.op o_add (Ok.view (Ok.op o_mulW (Ok.view (Ok.ix (Ok.view (Ok.var (i := 0) rfl (.inl rfl) rfl)) (Ok.view Ok.int))) (Ok.view (Ok.ix (Ok.view (Ok.var (i := 1) rfl (.inl rfl) rfl)) (Ok.view Ok.int))))) (Ok.view (Ok.op o_mulW (Ok.view (Ok.ix (Ok.view (Ok.var (i := 1) rfl (.inl rfl) rfl)) (Ok.view Ok.int))) (Ok.view (Ok.ix (Ok.view (Ok.var (i := 0) rfl (.inl rfl) rfl)) (Ok.view Ok.int))))))) (Ok.cons (Ok.frz (Ok.op o_mulW (Ok.view (Ok.ix (Ok.view (Ok.var (i := 0) rfl (.inl rfl) rfl)) (Ok.view Ok.int))) (Ok.view (Ok.ix (Ok.view (Ok.var (i := 1) rfl (.inl rfl) rfl)) (Ok.view Ok.int))))) Ok.nil))))
abbrev s__law_less : Stmt := topS 19
theorem sc__law_less : FnScope ["one", "other"] ["one", "other"] (defScope s__law_less) := ⟨rfl, rfl, rfl, by decide +kernel, rfl, by decide +kernel, by decide +kernel⟩
abbrev CC__law_less (P : Program) (w : World) (K : PySem.W.Frag) (mg : Str → Option Value) (base : Heap) (k : Nat) : Stat := ⟨⟨P, w, K, mg, base⟩, ["one", "other"], defScope s__law_less, k, fun _ => true⟩
def b__law_less (one_73 : D) (other_74 : D) : M Bx (Fl Unit Unit) :=
  (retF (op2M ltD (op2M mulWD (ixM (ret one_73) (ret (.int 0))) (ixM (ret other_74) (ret (.int 1)))) (op2M mulWD (ixM (ret other_74) (ret (.int 0))) (ixM (ret one_73) (ret (.int 1))))))
def mb__law_less : List D → M Bx (Fl Unit Unit)
  | [one_73, other_74] => b__law_less one_73 other_74
  | _ => stuck
def m__law_less (ds : List D) : M Bx D := bnd (mb__law_less ds) endF
set_option maxHeartbeats 0 in
theorem h__law_less {f : Addr} {fd : FuncData} (F : Fun K "_law_less" "_law_less" s__law_less f fd) (g : mg "_law_less" = some (.ref f)) : HasF (S := Bx) ⟨P, w, K, mg, base⟩ 1 "_law_less" 2 m__law_less :=
  hasF_mk g F sc__law_less (F.binds fun _ _ _ _ _ _ us hl => match us, hl with | [_, _], _ => rfl) rfl fun ds hl => match ds, hl with
    | [one_73, other_74], _ =>
      (OkB.ret (Ok.frz (Ok.cmp o_lt (Ok.view (Ok.op o_mulW (Ok.view (Ok.ix (Ok.view (Ok.var (i := 0) rfl (.inl rfl) rfl)) (Ok.view Ok.int))) (Ok.view (Ok.ix (Ok.view (Ok.var (i := 1) rfl (.inl rfl) rfl)) (Ok.view Ok.int))))) (Ok.view (Ok.op o_mulW (Ok.view (Ok.ix (Ok.view (Ok.var (i := 1) rfl (.inl rfl) rfl)) (Ok.view Ok.int))) (Ok.view (Ok.ix (Ok.view (Ok.var (i := 0) rfl (.inl rfl) rfl)) (Ok.view Ok.int))))))))
abbrev s__law_sum : Stmt := topS 20
theorem sc__law_sum : FnScope ["rows", "found", "row"] ["rows"] (defScope s__law_sum) := ⟨rfl, rfl, rfl, by decide +kernel, rfl, by decide +kernel, by decide +kernel⟩
abbrev CC__law_sum (P : Program) (w : World) (K : PySem.W.Frag) (mg : Str → Option Value) (base : Heap) (k : Nat) : Stat := ⟨⟨P, w, K, mg, base⟩, ["rows", "found", "row"], defScope s__law_sum, k, fun _ => true⟩
def b__law_sum (rows_75 : D) : M Bx (Fl Unit Unit) :=
  (bnd (tupM (consM (ret (.int 0)) (consM (ret (.int 1)) (ret [])))) fun found_76 => (forM' (itM (ret rows_75)) (fun (s_77 : D) row_78 => (bnd (bnd (consM (ret s_77) (consM (ret row_78) (ret []))) m__law_plus) fun found_79 => (ret (.nx found_79)))) found_76 fun s_80 => (retF (ret s_80))))
def mb__law_sum : List D → M Bx (Fl Unit Unit)
  | [rows_75] => b__law_sum rows_75
  | _ => stuck
def m__law_sum (ds : List D) : M Bx D := bnd (mb__law_sum ds) endF
set_option maxHeartbeats 0 in
theorem h__law_sum {f : Addr} {fd : FuncData} (F : Fun K "_law_sum" "_law_sum" s__law_sum f fd) (g : mg "_law_sum" = some (.ref f)) (h__law_plus : HasF (S := Bx) ⟨P, w, K, mg, base⟩ 2 "_law_plus" 2 m__law_plus) : HasF (S := Bx) ⟨P, w, K, mg, base⟩ 3 "_law_sum" 1 m__law_sum :=
  hasF_mk g F sc__law_sum (F.binds fun _ _ _ _ _ _ us hl => match us, hl with | [_], _ => rfl) rfl fun ds hl => match ds, hl with
    | [rows_75], _ =>
      (OkB.set (C := CC__law_sum P w K mg base 2) (i := 1) rfl (.inl rfl) (.inl rfl) (Ok.tup (Ok.cons Ok.int (Ok.cons Ok.int Ok.nil))) (fun found_76 => (OkB.forR (C := CC__law_sum P w K mg base 2) (Γl := fun (s_77 : D) => [some (.frz rows_75), some (.frz s_77), none]) (s0 := found_76) (OkI.val (Ok.var (i := 0) rfl (.inl rfl) rfl) (fun h => by first | rfl | cases h)) (wk_mask (bs := [true, true, false])) (fun s_77 row_78 => (BindOk.name (i := 2) rfl (.inl rfl) (.inl rfl) (BindOk.nil (OkB.set (C := CC__law_sum P w K mg base 2) (i := 1) rfl (.inl rfl) (.inl rfl) (Ok.call h__law_plus (Nat.le_of_ble_eq_true rfl) rfl (Ok.cons (Ok.var (i := 1) rfl (.inl rfl) rfl) (Ok.cons (Ok.var (i := 2) rfl (.inl rfl) rfl) Ok.nil))) (fun found_79 => (OkB.nil (s := found_79) (wk_mask (bs := [true, true, false])))))))) fun s_80 => (OkB.ret (Ok.var (i := 1) rfl (.inl rfl) rfl)))))
abbrev s__law_likely : Stmt := topS 21
theorem sc__law_likely : FnScope ["weights", "counts", "p", "q", "k", "step"] ["weights", "counts"] (defScope s__law_likely) := ⟨rfl, rfl, rfl, by decide +kernel, rfl, by decide +kernel, by decide +kernel⟩
abbrev CC__law_likely (P : Program) (w : World) (K : PySem.W.Frag) (mg : Str → Option Value) (base : Heap) (k : Nat) : Stat := ⟨⟨P, w, K, mg, base⟩, ["weights", "counts", "p", "q", "k", "step"], defScope s__law_likely, k, fun _ => true⟩
def b__law_likely (weights_81 : D) (counts_82 : D) : M Bx (Fl Unit Unit) :=
  (parM .E .E (ret (.int 1)) (ret (.int 1)) fun p_83 q_84 => (forM' (rng1M (bcM lenD (consM (ret weights_81) (ret [])))) (fun (s_85 : D × D) k_86 => (forM' (rng1M (ixM (ret counts_82) (ret k_86))) (fun (s_87 : D × D) step_88 => (parM .E .E (op2M mulWD (ret s_87.1) (ixM (ret weights_81) (ret k_86))) (op2M mulWD (ret s_87.2) (bcM sum2D (consM (ret weights_81) (ret [])))) fun p_89 q_90 => (ret (.nx (p_89, q_90))))) (s_85.1, s_85.2) fun s_91 => (ret (.nx (s_91.1, s_91.2))))) (p_83, q_84) fun s_92 => (retF (bnd (consM (ret s_92.1) (consM (ret s_92.2) (ret []))) m__law_ratio))))
def mb__law_likely : List D → M Bx (Fl Unit Unit)
  | [weights_81, counts_82] => b__law_likely weights_81 counts_82
  | _ => stuck
def m__law_likely (ds : List D) : M Bx D := bnd (mb__law_likely ds) endF
set_option maxHeartbeats 0 in
theorem h__law_likely {f : Addr} {fd : FuncData} (F : Fun K "_law_likely" "_law_likely" s__law_likely f fd) (g : mg "_law_likely" = some (.ref f)) (z_len : mg "len" = none) (z_range : mg "range" = none) (z_sum : mg "sum" = none) (h__law_ratio : HasF (S := Bx) ⟨P, w, K, mg, base⟩ 1 "_law_ratio" 2 m__law_ratio) : HasF (S := Bx) ⟨P, w, K, mg, base⟩ 2 "_law_likely" 2 m__law_likely :=
  hasF_mk g F sc__law_likely (F.binds fun _ _ _ _ _ _ us hl => match us, hl with | [_, _], _ => rfl) rfl fun ds hl => match ds, hl with
    | [weights_81, counts_82], _ =>
      (OkB.parC2 (C := CC__law_likely P w K mg base 1) (i := 2) (j := 3) rfl rfl (.inl rfl) (.inl rfl) (.inl rfl) (.inl rfl) Ok.int Ok.int (.inl rfl) (.inl rfl) (fun p_83 q_84 => (OkB.forR (C := CC__law_likely P w K mg base 1) (Γl := fun (s_85 : D × D) => [some (.frz weights_81), some (.frz counts_82), some (.frz s_85.1), some (.frz s_85.2), none, none]) (s0 := (p_83, q_84)) (OkI.range1 (Ok.view (Ok.bfun o_len (by decide +kernel) rfl z_len (Ok.cons (Ok.view (Ok.var (i := 0) rfl (.inl rfl) rfl)) Ok.nil))) rfl z_range) (wk_mask (bs := [true, true, true, true, false, false])) (fun s_85 k_86 => (BindOk.name (i := 4) rfl (.inl rfl) (.inl rfl) (BindOk.nil (OkB.forR (C := CC__law_likely P w K mg base 1) (Γl := fun (s_87 : D × D) => [some (.frz weights_81), some (.frz counts_82), some (.frz s_87.1), some (.frz s_87.2), some (.frz k_86), none]) (s0 := (s_85.1, s_85.2)) (OkI.range1 (Ok.view (Ok.ix (Ok.view (Ok.var (i := 1) rfl (.inl rfl) rfl)) (Ok.view (Ok.var (i := 4) rfl (.inl rfl) rfl)))) rfl z_range) (wk_mask (bs := [true, true, true, true, true, false])) (fun s_87 step_88 => (BindOk.name (i := 5) rfl (.inl rfl) (.inl rfl) (BindOk.nil (OkB.par2 (C := CC__law_likely P w K mg base 1) (i := 2) (j := 3) rfl rfl (by decide) rfl rfl rfl (Ok.frz (Ok.op o_mulW (Ok.view (Ok.var (i := 2) rfl (.inl rfl) rfl)) (Ok.view (Ok.ix (Ok.view (Ok.var (i := 0) rfl (.inl rfl) rfl)) (Ok.view (Ok.var (i := 4) rfl (.inl rfl) rfl)))))) (Ok.frz (Ok.op o_mulW (Ok.view (Ok.var (i := 3) rfl (.inl rfl) rfl)) (Ok.view (Ok.bfun o_sum2 (by decide +kernel) rfl z_sum (Ok.cons (Ok.view (Ok.var (i := 0) rfl (.inl rfl) rfl)) Ok.nil))))) (.inl rfl) (.inl rfl) fun p_89 q_90 => (OkB.nil (s := (p_89, q_90)) (wk_mask (bs := [true, true, true, true, true, false]))))))) fun s_91 => (OkB.nil (s := (s_91.1, s_91.2)) (wk_mask (bs := [true, true, true, true, false, false]))))))) fun s_92 => (OkB.ret (Ok.call h__law_ratio (Nat.le_of_ble_eq_true rfl) rfl (Ok.cons (Ok.var (i := 2) rfl (.inl rfl) rfl) (Ok.cons (Ok.var (i := 3) rfl (.inl rfl) rfl) Ok.nil)))))))
abbrev s_law : Stmt := topS 22
theorem sc_law : FnScope ["script", "box", "turn", "many", "one", "other", "counts", "mine", "yours", "due", "p", "q", "count", "step", "double", "rows", "products", "whole", "told", "value", "fine", "k", "weight", "row", "part"] ["script"] (defScope s_law) := ⟨rfl, rfl, rfl, by decide +kernel, rfl, by decide +kernel, by decide +kernel⟩
abbrev CC_law (P : Program) (w : World) (K : PySem.W.Frag) (mg : Str → Option Value) (base : Heap) (k : Nat) : Stat := ⟨⟨P, w, K, mg, base⟩, ["script", "box", "turn", "many", "one", "other", "counts", "mine", "yours", "due", "p", "q", "count", "step", "double", "rows", "products", "whole", "told", "value", "fine", "k", "weight", "row", "part"], defScope s_law, k, fun _ => true⟩
def b_law : M Bx (Fl Unit Unit) :=
  (forM' (rng1M (ret (.int 4))) (fun (s_94 : Unit) turn_95 => (bnd (op2M addD (ret (.int 1)) (bnd (consM (ret .box) (consM (ret (.int 5)) (ret []))) m_draw)) fun many_96 => (bnd (bcM tupleD (consM (compM (rng1M (ret many_96)) fun k_139 => (eltM (ret true) (op2M addD (ret (.int 1)) (bnd (consM (ret .box) (consM (ret (.int 9)) (ret []))) m_draw)))) (ret []))) fun one_97 => (bnd (bcM tupleD (consM (compM (rng1M (ret many_96)) fun k_138 => (eltM (ret true) (op2M addD (ret (.int 1)) (bnd (consM (ret .box) (consM (ret (.int 9)) (ret []))) m_draw)))) (ret []))) fun other_98 => (bnd (bcM tupleD (consM (compM (rng1M (ret many_96)) fun k_137 => (eltM (ret true) (bnd (consM (ret .box) (consM (ret (.int 9)) (ret []))) m_draw))) (ret []))) fun counts_99 => (bnd (ifM (valT (bcM any2D (consM (ret counts_99) (ret [])))) (ret counts_99) (op2M mulWD (tupM (consM (ret (.int 1)) (ret []))) (ret many_96))) fun counts_100 => (iteF (cmpT isntD (bnd (consM (ret one_97) (consM (ret counts_100) (ret []))) m_are_counts) (ret (.bl true))) (retF (ret (.bl false))) (ret (.nx ())) fun (s_101 : Unit) => (parM .E .E (bnd (consM (ret one_97) (consM (ret counts_100) (ret []))) m__law_likely) (bnd (consM (ret other_98) (consM (ret counts_100) (ret []))) m__law_likely) fun mine_102 yours_103 => (bnd (ifM (valT (bnd (consM (ret mine_102) (consM (ret yours_103) (ret []))) m__law_less)) (ret (.int 1)) (ifM (valT (bnd (consM (ret yours_103) (consM (ret mine_102) (ret []))) m__law_less)) (negM (ret (.int 1))) (ret (.int 0)))) fun due_104 => (iteF (notT (valT (bnd (consM (tupM (consM (bnd (consM (ret one_97) (consM (ret counts_100) (ret []))) m_likelihood) (consM (bnd (consM (ret one_97) (consM (ret other_98) (consM (ret counts_100) (ret [])))) m_likelier) (consM (bnd (consM (ret other_98) (consM (ret one_97) (consM (ret counts_100) (ret [])))) m_likelier) (ret []))))) (consM (tupM (consM (ret mine_102) (consM (ret due_104) (consM (negM (ret due_104)) (ret []))))) (ret []))) (m__law_same 60)))) (retF (ret (.bl false))) (ret (.nx ())) fun (s_105 : Unit) => (parM .E .E (ret (.int 1)) (ret (.int 1)) fun p_106 q_107 => (forM' (itM (ret counts_100)) (fun (s_108 : D × D) count_109 => (forM' (rng1M (ret count_109)) (fun (s_110 : D × D) step_111 => (parM .E .E (op2M mulWD (ret s_110.1) (ret count_109)) (op2M mulWD (ret s_110.2) (bcM sum2D (consM (ret counts_100) (ret [])))) fun p_112 q_113 => (ret (.nx (p_112, q_113))))) (s_108.1, s_108.2) fun s_114 => (ret (.nx (s_114.1, s_114.2))))) (p_106, q_107) fun s_115 => (iteF (orT (valT (bnd (consM (bnd (consM (ret s_115.1) (consM (ret s_115.2) (ret []))) m__law_ratio) (consM (ret mine_102) (ret []))) m__law_less)) (andT (cmpT ninD (ret (.int 0)) (ret counts_100)) (orT (cmpT neD (bnd (consM (ret counts_100) (consM (ret counts_100) (ret []))) m_likelihood) (bnd (consM (ret s_115.1) (consM (ret s_115.2) (ret []))) m__law_ratio)) (cmpT eqD (bnd (consM (ret counts_100) (consM (ret one_97) (consM (ret counts_100) (ret [])))) m_likelier) (ret (.int 1)))))) (retF (ret (.bl false))) (ret (.nx ())) fun (s_116 : Unit) => (bnd (bcM tupleD (consM (compM (itM (ret one_97)) fun weight_136 => (eltM (ret true) (op2M mulWD (ret (.int 2)) (ret weight_136)))) (ret []))) fun double_117 => (iteF (cmpT neD (bnd (consM (ret one_97) (consM (ret double_117) (consM (ret counts_100) (ret [])))) m_likelier) (ret (.int 0))) (retF (ret (.bl false))) (ret (.nx ())) fun (s_118 : Unit) => (bnd (op2M addD (lstM (consM (ret one_97) (consM (ret other_98) (ret [])))) (compM (rng1M (bnd (consM (ret .box) (consM (ret (.int 3)) (ret []))) m_draw)) fun step_134 => (eltM (ret true) (bcM tupleD (consM (compM (rng1M (ret many_96)) fun k_135 => (eltM (ret true) (op2M addD (ret (.int 1)) (bnd (consM (ret .box) (consM (ret (.int 9)) (ret []))) m_draw)))) (ret [])))))) fun rows_119 => (bnd (ssM (ret rows_119)) fun rows_120 => (bnd (compM (itM (ret rows_120)) fun row_133 => (eltM (ret true) (bnd (consM (ret row_133) (consM (ret counts_100) (ret []))) m__law_likely))) fun products_121 => (bnd (bnd (consM (ret products_121) (ret [])) m__law_sum) fun whole_122 => (bnd (bnd (consM (bcM tupleD (consM (ret rows_120) (ret []))) (consM (ret counts_100) (ret []))) m_guess_chances) fun told_123 => (iteF (orT (notT (valT (bnd (consM (ret told_123) (consM (bcM tupleD (consM (compM (itM (ret products_121)) fun part_124 => (eltM (ret true) (bnd (consM (op2M mulWD (ixM (ret part_124) (ret (.int 0))) (ixM (ret whole_122) (ret (.int 1)))) (consM (op2M mulWD (ixM (ret part_124) (ret (.int 1))) (ixM (ret whole_122) (ret (.int 0)))) (ret []))) m__law_ratio))) (ret []))) (ret []))) (m__law_same 60)))) (cmpT neD (bnd (consM (ret told_123) (ret [])) m__law_sum) (tupM (consM (ret (.int 1)) (consM (ret (.int 1)) (ret [])))))) (retF (ret (.bl false))) (ret (.nx ())) fun (s_125 : Unit) => (forM' (itM (op2M addD (lstM (consM (ret counts_100) (consM (slM (ret counts_100) (ptM (ret (.int 1))) (ret none)) (consM (op2M addD (ret counts_100) (tupM (consM (ret (.int 1)) (ret [])))) (consM (op2M mulWD (tupM (consM (ret (.int 0)) (ret []))) (ret many_96)) (consM (op2M mulWD (tupM (consM (negM (ret (.int 1))) (ret []))) (ret many_96)) (consM (op2M mulWD (tupM (consM (ret (.bl true)) (ret []))) (ret many_96)) (consM (ret .non) (consM (tupM (ret [])) (consM (ret (.int 0)) (ret []))))))))))) (compM (rng1M (ret (.int 5))) fun k_126 => (eltM (ret true) (bnd (consM (ret .box) (consM (ret counts_100) (ret []))) (m__law_bent 60)))))) (fun (s_127 : Unit) value_128 => (bnd (andM (isiM "tuple" (ret value_128)) (andM (op2M eqD (bcM lenD (consM (ret value_128) (ret []))) (ret many_96)) (bcM allD (consM (compM (itM (ret value_128)) fun k_131 => (eltM (ret true) (andM (isiM "int" (ret k_131)) (andM (notM (isiM "bool" (ret k_131))) (op2M geD (ret k_131) (ret (.int 0))))))) (ret []))))) fun fine_129 => (iteF (notT (valT (bnd (consM (bnd (consM (ret one_97) (consM (ret value_128) (ret []))) m_are_counts) (consM (ifM (valT (ret fine_129)) (andM (ret fine_129) (op2M gtD (bcM sum2D (consM (ret value_128) (ret []))) (ret (.int 0)))) (ret (.bl false))) (ret []))) (m__law_same 60)))) (retF (ret (.bl false))) (ret (.nx ())) fun (s_130 : Unit) => (ret (.nx ()))))) () fun s_132 => (ret (.nx ())))))))))))))))))))))))) () fun s_140 => (retF (bnd (consM (tupM (consM (bnd (consM (tupM (consM (ret (.int 1)) (consM (ret (.int 1)) (ret [])))) (consM (tupM (consM (ret (.int 1)) (consM (ret (.int 3)) (ret [])))) (consM (tupM (consM (ret (.int 1)) (consM (ret (.int 3)) (ret [])))) (ret [])))) m_likelier) (consM (bnd (consM (tupM (consM (ret (.int 1)) (consM (ret (.int 3)) (ret [])))) (consM (tupM (consM (ret (.int 1)) (consM (ret (.int 1)) (ret [])))) (ret []))) m_likelihood) (ret [])))) (consM (tupM (consM (ret (.int 1)) (consM (tupM (consM (ret (.int 3)) (consM (ret (.int 16)) (ret [])))) (ret [])))) (ret []))) (m__law_same 60))))
set_option maxHeartbeats 0 in
theorem h_law {f fB : Addr} {fd fdB : FuncData} (F : Fun K "law" "law" s_law f fd) (z_all : mg "all" = none) (z_any : mg "any" = none) (z_bool : mg "bool" = none) (z_int : mg "int" = none) (z_isinstance : mg "isinstance" = none) (z_len : mg "len" = none) (z_range : mg "range" = none) (z_set : mg "set" = none) (z_sorted : mg "sorted" = none) (z_sum : mg "sum" = none) (z_tuple : mg "tuple" = none) (h_are_counts : HasF (S := Bx) ⟨P, w, K, mg, base⟩ 2 "are_counts" 2 m_are_counts) (h__law_likely : HasF (S := Bx) ⟨P, w, K, mg, base⟩ 2 "_law_likely" 2 m__law_likely) (h_likelier : HasF (S := Bx) ⟨P, w, K, mg, base⟩ 3 "likelier" 3 m_likelier) (h_likelihood : HasF (S := Bx) ⟨P, w, K, mg, base⟩ 2 "likelihood" 2 m_likelihood) (h__law_same : HasF (S := Bx) ⟨P, w, K, mg, base⟩ 61 "_law_same" 2 (m__law_same 60)) (h__law_ratio : HasF (S := Bx) ⟨P, w, K, mg, base⟩ 1 "_law_ratio" 2 m__law_ratio) (h__law_less : HasF (S := Bx) ⟨P, w, K, mg, base⟩ 1 "_law_less" 2 m__law_less) (h__law_sum : HasF (S := Bx) ⟨P, w, K, mg, base⟩ 3 "_law_sum" 1 m__law_sum) (h__law_bent : HasF (S := Bx) ⟨P, w, K, mg, base⟩ 63 "_law_bent" 2 (m__law_bent 60)) (h_guess_chances : HasF (S := Bx) ⟨P, w, K, mg, base⟩ 3 "guess_chances" 2 m_guess_chances) (h__law_draw : HasF (S := Bx) ⟨P, w, K, mg, base⟩ 2 "_law_draw" 2 m_draw) (GB : FnOk P w K mg base CX0 1 fB fdB ["script"] (spBox K)) (kpB : PySem.W.keepIn K (.ref fB) = true) (bB : Binds K fdB ["script"] []) (gB : mg "_law_box" = some (.ref fB)) (hm : ∀ b : Bx, ∃ b', bnd b_law endF b = some (.bl true, b')) :
    FnOk P w K mg base CX0 64 f fd ["script"] (spLaw K) :=
  ok_law_of (i := 1) F sc_law GB kpB bB gB (Nat.le_of_ble_eq_true rfl) rfl rfl rfl (.inl rfl) rfl rfl (.inr rfl) rfl
    (OkB.forR (C := CC_law P w K mg base 63) (Γl := fun (s_94 : Unit) => [none, some (.frz .box), none, none, none, none, none, none, none, none, none, none, none, none, none, none, none, none, none, none, none, none, none, none, none]) (s0 := ()) (OkI.range1 (Ok.view Ok.int) rfl z_range) (wk_mask (bs := [false, true, false, false, false, false, false, false, false, false, false, false, false, false, false, false, false, false, false, false, false, false, false, false, false])) (fun s_94 turn_95 => (BindOk.name (i := 2) rfl (.inl rfl) (.inl rfl) (BindOk.nil (OkB.set (C := CC_law P w K mg base 63) (i := 3) rfl (.inr rfl) (.inl rfl) (Ok.frz (Ok.op o_add (Ok.view Ok.int) (Ok.view (Ok.call h__law_draw (Nat.le_of_ble_eq_true rfl) rfl (Ok.cons (Ok.var (i := 1) rfl (.inr (.inl rfl)) rfl) (Ok.cons Ok.int Ok.nil)))))) (fun many_96 => (OkB.set (C := CC_law P w K mg base 63) (i := 4) rfl (.inl rfl) (.inl rfl) (Ok.frz (Ok.tfun o_tuple (by decide +kernel) rfl z_tuple (Ok.cons (Ok.view (OkC.n (Ok.lc [("k", 21)] (OkI.range1 (Ok.view (Ok.var (i := 3) rfl (.inr (.inl rfl)) rfl)) rfl z_range) fun k_139 => (BindOk.name (i := 21) rfl (.inl rfl) (.inr rfl) (BindOk.nil ⟨_, _, OkTs.nil, (Ok.frz (Ok.op o_add (Ok.view Ok.int) (Ok.view (Ok.call h__law_draw (Nat.le_of_ble_eq_true rfl) rfl (Ok.cons (Ok.var (i := 1) rfl (.inr (.inl rfl)) rfl) (Ok.cons Ok.int Ok.nil)))))), rfl⟩))))) Ok.nil))) (fun one_97 => (OkB.set (C := CC_law P w K mg base 63) (i := 5) rfl (.inl rfl) (.inl rfl) (Ok.frz (Ok.tfun o_tuple (by decide +kernel) rfl z_tuple (Ok.cons (Ok.view (OkC.n (Ok.lc [("k", 21)] (OkI.range1 (Ok.view (Ok.var (i := 3) rfl (.inr (.inl rfl)) rfl)) rfl z_range) fun k_138 => (BindOk.name (i := 21) rfl (.inl rfl) (.inr rfl) (BindOk.nil ⟨_, _, OkTs.nil, (Ok.frz (Ok.op o_add (Ok.view Ok.int) (Ok.view (Ok.call h__law_draw (Nat.le_of_ble_eq_true rfl) rfl (Ok.cons (Ok.var (i := 1) rfl (.inr (.inl rfl)) rfl) (Ok.cons Ok.int Ok.nil)))))), rfl⟩))))) Ok.nil))) (fun other_98 => (OkB.set (C := CC_law P w K mg base 63) (i := 6) rfl (.inr rfl) (.inl rfl) (Ok.frz (Ok.tfun o_tuple (by decide +kernel) rfl z_tuple (Ok.cons (Ok.view (OkC.n (Ok.lc [("k", 21)] (OkI.range1 (Ok.view (Ok.var (i := 3) rfl (.inr (.inl rfl)) rfl)) rfl z_range) fun k_137 => (BindOk.name (i := 21) rfl (.inl rfl) (.inr rfl) (BindOk.nil ⟨_, _, OkTs.nil, (Ok.call h__law_draw (Nat.le_of_ble_eq_true rfl) rfl (Ok.cons (Ok.var (i := 1) rfl (.inr (.inl rfl)) rfl) (Ok.cons Ok.int Ok.nil))), rfl⟩))))) Ok.nil))) (fun counts_99 => (OkB.set (C := CC_law P w K mg base 63) (i := 6) rfl (.inr rfl) (.inl rfl) (Ok.ife (OkT.val (Ok.view (Ok.bfun o_any2 (by decide +kernel) rfl z_any (Ok.cons (Ok.view (Ok.var (i := 6) rfl (.inr (.inl rfl)) rfl)) Ok.nil)))) (Ok.var (i := 6) rfl (.inr (.inl rfl)) rfl) (Ok.frz (Ok.op o_mulW (Ok.view (Ok.tup (Ok.cons Ok.int Ok.nil))) (Ok.view (Ok.var (i := 3) rfl (.inr (.inl rfl)) rfl))))) (fun counts_100 => (OkB.ite (C := CC_law P w K mg base 63) (Γj := fun (s_101 : Unit) => [none, some (.frz .box), none, some (.frz many_96), some (.frz one_97), some (.frz other_98), some (.frz counts_100), none, none, none, none, none, none, none, none, none, none, none, none, none, none, none, none, none, none]) (OkT.cmp o_isnt (Ok.view (Ok.call h_are_counts (Nat.le_of_ble_eq_true rfl) rfl (Ok.cons (Ok.var (i := 4) rfl (.inl rfl) rfl) (Ok.cons (Ok.var (i := 6) rfl (.inr (.inl rfl)) rfl) Ok.nil)))) (Ok.view Ok.bl)) (OkB.ret Ok.bl) (OkB.nil (s := ()) (wk_mask (bs := [false, true, false, true, true, true, true, false, false, false, false, false, false, false, false, false, false, false, false, false, false, false, false, false, false]))) fun s_101 => (OkB.par2 (C := CC_law P w K mg base 63) (i := 7) (j := 8) rfl rfl (by decide) rfl rfl rfl (Ok.call h__law_likely (Nat.le_of_ble_eq_true rfl) rfl (Ok.cons (Ok.var (i := 4) rfl (.inl rfl) rfl) (Ok.cons (Ok.var (i := 6) rfl (.inr (.inl rfl)) rfl) Ok.nil))) (Ok.call h__law_likely (Nat.le_of_ble_eq_true rfl) rfl (Ok.cons (Ok.var (i := 5) rfl (.inl rfl) rfl) (Ok.cons (Ok.var (i := 6) rfl (.inr (.inl rfl)) rfl) Ok.nil))) (.inl rfl) (.inl rfl) fun mine_102 yours_103 => (OkB.set (C := CC_law P w K mg base 63) (i := 9) rfl (.inl rfl) (.inl rfl) (Ok.ife (OkT.val (Ok.view (Ok.call h__law_less (Nat.le_of_ble_eq_true rfl) rfl (Ok.cons (Ok.var (i := 7) rfl (.inl rfl) rfl) (Ok.cons (Ok.var (i := 8) rfl (.inl rfl) rfl) Ok.nil))))) Ok.int (Ok.ife (OkT.val (Ok.view (Ok.call h__law_less (Nat.le_of_ble_eq_true rfl) rfl (Ok.cons (Ok.var (i := 8) rfl (.inl rfl) rfl) (Ok.cons (Ok.var (i := 7) rfl (.inl rfl) rfl) Ok.nil))))) (Ok.neg' (Ok.view Ok.int)) Ok.int)) (fun due_104 => (OkB.ite (C := CC_law P w K mg base 63) (Γj := fun (s_105 : Unit) => [none, some (.frz .box), none, some (.frz many_96), some (.frz one_97), some (.frz other_98), some (.frz counts_100), some (.frz mine_102), none, none, none, none, none, none, none, none, none, none, none, none, none, none, none, none, none]) (OkT.not (OkT.val (Ok.view (Ok.call h__law_same (Nat.le_of_ble_eq_true rfl) rfl (Ok.cons (Ok.tup (Ok.cons (Ok.call h_likelihood (Nat.le_of_ble_eq_true rfl) rfl (Ok.cons (Ok.var (i := 4) rfl (.inl rfl) rfl) (Ok.cons (Ok.var (i := 6) rfl (.inr (.inl rfl)) rfl) Ok.nil))) (Ok.cons (Ok.call h_likelier (Nat.le_of_ble_eq_true rfl) rfl (Ok.cons (Ok.var (i := 4) rfl (.inl rfl) rfl) (Ok.cons (Ok.var (i := 5) rfl (.inl rfl) rfl) (Ok.cons (Ok.var (i := 6) rfl (.inr (.inl rfl)) rfl) Ok.nil)))) (Ok.cons (Ok.call h_likelier (Nat.le_of_ble_eq_true rfl) rfl (Ok.cons (Ok.var (i := 5) rfl (.inl rfl) rfl) (Ok.cons (Ok.var (i := 4) rfl (.inl rfl) rfl) (Ok.cons (Ok.var (i := 6) rfl (.inr (.inl rfl)) rfl) Ok.nil)))) Ok.nil)))) (Ok.cons (Ok.tup (Ok.cons (Ok.var (i := 7) rfl (.inl rfl) rfl) (Ok.cons (Ok.var (i := 9) rfl (.inl rfl) rfl) (Ok.cons (Ok.neg' (Ok.view (Ok.var (i := 9) rfl (.inl rfl) rfl))) Ok.nil)))) Ok.nil)))))) (OkB.ret Ok.bl) (OkB.nil (s := ()) (wk_mask (bs := [false, true, false, true, true, true, true, true, false, false, false, false, false, false, false, false, false, false, false, false, false, false, false, false, false]))) fun s_105 => (OkB.parC2 (C := CC_law P w K mg base 63) (i := 10) (j := 11) rfl rfl (.inl rfl) (.inl rfl) (.inl rfl) (.inl rfl) Ok.int Ok.int (.inl rfl) (.inl rfl) (fun p_106 q_107 => (OkB.forR (C := CC_law P w K mg base 63) (Γl := fun (s_108 : D × D) => [none, some (.frz .box), none, some (.frz many_96), some (.frz one_97), some (.frz other_98), some (.frz counts_100), some (.frz mine_102), none, none, some (.frz s_108.1), some (.frz s_108.2), none, none, none, none, none, none, none, none, none, none, none, none, none]) (s0 := (p_106, q_107)) (OkI.val (Ok.var (i := 6) rfl (.inr (.inl rfl)) rfl) (fun h => by first | rfl | cases h)) (wk_mask (bs := [false, true, false, true, true, true, true, true, false, false, true, true, false, false, false, false, false, false, false, false, false, false, false, false, false])) (fun s_108 count_109 => (BindOk.name (i := 12) rfl (.inl rfl) (.inl rfl) (BindOk.nil (OkB.forR (C := CC_law P w K mg base 63) (Γl := fun (s_110 : D × D) => [none, some (.frz .box), none, some (.frz many_96), some (.frz one_97), some (.frz other_98), some (.frz counts_100), some (.frz mine_102), none, none, some (.frz s_110.1), some (.frz s_110.2), some (.frz count_109), none, none, none, none, none, none, none, none, none, none, none, none]) (s0 := (s_108.1, s_108.2)) (OkI.range1 (Ok.view (Ok.var (i := 12) rfl (.inl rfl) rfl)) rfl z_range) (wk_mask (bs := [false, true, false, true, true, true, true, true, false, false, true, true, true, false, false, false, false, false, false, false, false, false, false, false, false])) (fun s_110 step_111 => (BindOk.name (i := 13) rfl (.inl rfl) (.inl rfl) (BindOk.nil (OkB.par2 (C := CC_law P w K mg base 63) (i := 10) (j := 11) rfl rfl (by decide) rfl rfl rfl (Ok.frz (Ok.op o_mulW (Ok.view (Ok.var (i := 10) rfl (.inl rfl) rfl)) (Ok.view (Ok.var (i := 12) rfl (.inl rfl) rfl)))) (Ok.frz (Ok.op o_mulW (Ok.view (Ok.var (i := 11) rfl (.inl rfl) rfl)) (Ok.view (Ok.bfun o_sum2 (by decide +kernel) rfl z_sum (Ok.cons (Ok.view (Ok.var (i := 6) rfl (.inr (.inl rfl)) rfl)) Ok.nil))))) (.inl rfl) (.inl rfl) fun p_112 q_113 => (OkB.nil (s := (p_112, q_113)) (wk_mask (bs := [false, true, false, true, true, true, true, true, false, false, true, true, true, false, false, false, false, false, false, false, false, false, false, false, false]))))))) fun s_114 => (OkB.nil (s := (s_114.1, s_114.2)) (wk_mask (bs := [false, true, false, true, true, true, true, true, false, false, true, true, false, false, false, false, false, false, false, false, false, false, false, false, false]))))))) fun s_115 => (OkB.ite (C := CC_law P w K mg base 63) (Γj := fun (s_116 : Unit) => [none, some (.frz .box), none, some (.frz many_96), some (.frz one_97), some (.frz other_98), some (.frz counts_100), none, none, none, none, none, none, none, none, none, none, none, none, none, none, none, none, none, none]) (OkW.pt (OkW.or (OkT.val (Ok.view (Ok.call h__law_less (Nat.le_of_ble_eq_true rfl) rfl (Ok.cons (Ok.call h__law_ratio (Nat.le_of_ble_eq_true rfl) rfl (Ok.cons (Ok.var (i := 10) rfl (.inl rfl) rfl) (Ok.cons (Ok.var (i := 11) rfl (.inl rfl) rfl) Ok.nil))) (Ok.cons (Ok.var (i := 7) rfl (.inl rfl) rfl) Ok.nil))))) (OkW.or1 (OkW.pt (OkW.and (OkT.cmp o_nin (Ok.view Ok.int) (Ok.view (Ok.var (i := 6) rfl (.inr (.inl rfl)) rfl))) (OkW.and1 (OkW.pt (OkW.or (OkT.cmp o_ne (Ok.view (Ok.call h_likelihood (Nat.le_of_ble_eq_true rfl) rfl (Ok.cons (Ok.var (i := 6) rfl (.inr (.inl rfl)) rfl) (Ok.cons (Ok.var (i := 6) rfl (.inr (.inl rfl)) rfl) Ok.nil)))) (Ok.view (Ok.call h__law_ratio (Nat.le_of_ble_eq_true rfl) rfl (Ok.cons (Ok.var (i := 10) rfl (.inl rfl) rfl) (Ok.cons (Ok.var (i := 11) rfl (.inl rfl) rfl) Ok.nil))))) (OkW.or1 (OkT.cmp o_eq (Ok.view (Ok.call h_likelier (Nat.le_of_ble_eq_true rfl) rfl (Ok.cons (Ok.var (i := 6) rfl (.inr (.inl rfl)) rfl) (Ok.cons (Ok.var (i := 4) rfl (.inl rfl) rfl) (Ok.cons (Ok.var (i := 6) rfl (.inr (.inl rfl)) rfl) Ok.nil))))) (Ok.view Ok.int))))))))))) (OkB.ret Ok.bl) (OkB.nil (s := ()) (wk_mask (bs := [false, true, false, true, true, true, true, false, false, false, false, false, false, false, false, false, false, false, false, false, false, false, false, false, false]))) fun s_116 => (OkB.set (C := CC_law P w K mg base 63) (i := 14) rfl (.inl rfl) (.inl rfl) (Ok.frz (Ok.tfun o_tuple (by decide +kernel) rfl z_tuple (Ok.cons (Ok.view (OkC.n (Ok.lc [("weight", 22)] (OkI.val (Ok.var (i := 4) rfl (.inl rfl) rfl) (fun h => by first | rfl | cases h)) fun weight_136 => (BindOk.name (i := 22) rfl (.inl rfl) (.inr rfl) (BindOk.nil ⟨_, _, OkTs.nil, (Ok.frz (Ok.op o_mulW (Ok.view Ok.int) (Ok.view (Ok.var (i := 22) rfl (.inl rfl) rfl)))), rfl⟩))))) Ok.nil))) (fun double_117 => (OkB.ite (C := CC_law P w K mg base 63) (Γj := fun (s_118 : Unit) => [none, some (.frz .box), none, some (.frz many_96), some (.frz one_97), some (.frz other_98), some (.frz counts_100), none, none, none, none, none, none, none, none, none, none, none, none, none, none, none, none, none, none]) (OkT.cmp o_ne (Ok.view (Ok.call h_likelier (Nat.le_of_ble_eq_true rfl) rfl (Ok.cons (Ok.var (i := 4) rfl (.inl rfl) rfl) (Ok.cons (Ok.var (i := 14) rfl (.inl rfl) rfl) (Ok.cons (Ok.var (i := 6) rfl (.inr (.inl rfl)) rfl) Ok.nil))))) (Ok.view Ok.int)) (OkB.ret Ok.bl) (OkB.nil (s := ()) (wk_mask (bs := [false, true, false, true, true, true, true, false, false, false, false, false, false, false, false, false, false, false, false, false, false, false, false, false, false]))) fun s_118 => (OkB.set (C := CC_law P w K mg base 63) (i := 15) rfl (.inl rfl) (.inl rfl) (Ok.frz (Ok.op o_add (Ok.view (Ok.lst (Ok.cons (Ok.var (i := 4) rfl (.inl rfl) rfl) (Ok.cons (Ok.var (i := 5) rfl (.inl rfl) rfl) Ok.nil)))) (Ok.view (OkC.n (Ok.lc [("step", 13)] (OkI.range1 (Ok.view (Ok.call h__law_draw (Nat.le_of_ble_eq_true rfl) rfl (Ok.cons (Ok.var (i := 1) rfl (.inr (.inl rfl)) rfl) (Ok.cons Ok.int Ok.nil)))) rfl z_range) fun step_134 => (BindOk.name (i := 13) rfl (.inl rfl) (.inr rfl) (BindOk.nil ⟨_, _, OkTs.nil, (Ok.frz (Ok.tfun o_tuple (by decide +kernel) rfl z_tuple (Ok.cons (Ok.view (OkC.n (Ok.lc [("k", 21)] (OkI.range1 (Ok.view (Ok.var (i := 3) rfl (.inr (.inl rfl)) rfl)) rfl z_range) fun k_135 => (BindOk.name (i := 21) rfl (.inl rfl) (.inr rfl) (BindOk.nil ⟨_, _, OkTs.nil, (Ok.frz (Ok.op o_add (Ok.view Ok.int) (Ok.view (Ok.call h__law_draw (Nat.le_of_ble_eq_true rfl) rfl (Ok.cons (Ok.var (i := 1) rfl (.inr (.inl rfl)) rfl) (Ok.cons Ok.int Ok.nil)))))), rfl⟩))))) Ok.nil))), rfl⟩))))))) (fun rows_119 => (OkB.set (C := CC_law P w K mg base 63) (i := 15) rfl (.inl rfl) (.inl rfl) (Ok.frz (Ok.sset (Ok.view (Ok.var (i := 15) rfl (.inl rfl) rfl)) rfl z_sorted rfl z_set)) (fun rows_120 => (OkB.setC (C := CC_law P w K mg base 63) (i := 16) rfl rfl rfl (Ok.lc [("row", 23)] (OkI.val (Ok.var (i := 15) rfl (.inl rfl) rfl) (fun h => by first | rfl | cases h)) fun row_133 => (BindOk.name (i := 23) rfl (.inl rfl) (.inr rfl) (BindOk.nil ⟨_, _, OkTs.nil, (Ok.call h__law_likely (Nat.le_of_ble_eq_true rfl) rfl (Ok.cons (Ok.var (i := 23) rfl (.inl rfl) rfl) (Ok.cons (Ok.var (i := 6) rfl (.inr (.inl rfl)) rfl) Ok.nil))), rfl⟩))) fun products_121 => (OkB.set (C := CC_law P w K mg base 63) (i := 17) rfl (.inr rfl) (.inl rfl) (Ok.call h__law_sum (Nat.le_of_ble_eq_true rfl) rfl (Ok.cons (Ok.var (i := 16) rfl (.inl rfl) rfl) Ok.nil)) (fun whole_122 => (OkB.set (C := CC_law P w K mg base 63) (i := 18) rfl (.inl rfl) (.inl rfl) (Ok.call h_guess_chances (Nat.le_of_ble_eq_true rfl) rfl (Ok.cons (Ok.frz (Ok.tfun o_tuple (by decide +kernel) rfl z_tuple (Ok.cons (Ok.view (Ok.var (i := 15) rfl (.inl rfl) rfl)) Ok.nil))) (Ok.cons (Ok.var (i := 6) rfl (.inr (.inl rfl)) rfl) Ok.nil))) (fun told_123 => (OkB.ite (C := CC_law P w K mg base 63) (Γj := fun (s_125 : Unit) => [none, some (.frz .box), none, some (.frz many_96), some (.frz one_97), none, some (.frz counts_100), none, none, none, none, none, none, none, none, none, none, none, none, none, none, none, none, none, none]) (OkW.pt (OkW.or (OkT.not (OkT.val (Ok.view (Ok.call h__law_same (Nat.le_of_ble_eq_true rfl) rfl (Ok.cons (Ok.var (i := 18) rfl (.inl rfl) rfl) (Ok.cons (Ok.frz (Ok.tfun o_tuple (by decide +kernel) rfl z_tuple (Ok.cons (Ok.view (OkC.n (Ok.lc [("part", 24)] (OkI.val (Ok.var (i := 16) rfl (.inl rfl) rfl) (fun h => by first | rfl | cases h)) fun part_124 => (BindOk.name (i := 24) rfl (.inl rfl) (.inr rfl) (BindOk.nil ⟨_, _, OkTs.nil, (Ok.call h__law_ratio (Nat.le_of_ble_eq_true rfl) rfl (Ok.cons (Ok.frz (Ok.op o_mulW (Ok.view (Ok.ix (Ok.view (Ok.var (i := 24) rfl (.inl rfl) rfl)) (Ok.view Ok.int))) (Ok.view (Ok.ix (Ok.view (Ok.var (i := 17) rfl (.inr (.inl rfl)) rfl)) (Ok.view Ok.int))))) (Ok.cons (Ok.frz (Ok.op o_mulW (Ok.view (Ok.ix (Ok.view (Ok.var (i := 24) rfl (.inl rfl) rfl)) (Ok.view Ok.int))) (Ok.view (Ok.ix (Ok.view (Ok.var (i := 17) rfl (.inr (.inl rfl)) rfl)) (Ok.view Ok.int))))) Ok.nil))), rfl⟩))))) Ok.nil))) Ok.nil)))))) (OkW.or1 (OkT.cmp o_ne (Ok.view (Ok.call h__law_sum (Nat.le_of_ble_eq_true rfl) rfl (Ok.cons (Ok.var (i := 18) rfl (.inl rfl) rfl) Ok.nil))) (Ok.view (Ok.tup (Ok.cons Ok.int (Ok.cons Ok.int Ok.nil)))))))) (OkB.ret Ok.bl) (OkB.nil (s := ()) (wk_mask (bs := [false, true, false, true, true, false, true, false, false, false, false, false, false, false, false, false, false, false, false, false, false, false, false, false, false]))) fun s_125 => (OkB.forR (C := CC_law P w K mg base 63) (Γl := fun (s_127 : Unit) => [none, some (.frz .box), none, some (.frz many_96), some (.frz one_97), none, some (.frz counts_100), none, none, none, none, none, none, none, none, none, none, none, none, none, none, none, none, none, none]) (s0 := ()) (OkI.val (Ok.op o_add (Ok.view (Ok.lst (Ok.cons (Ok.var (i := 6) rfl (.inr (.inl rfl)) rfl) (Ok.cons (Ok.frz (Ok.sl (Ok.view (Ok.var (i := 6) rfl (.inr (.inl rfl)) rfl)) (OkO.some (Ok.view Ok.int)) OkO.none)) (Ok.cons (Ok.frz (Ok.op o_add (Ok.view (Ok.var (i := 6) rfl (.inr (.inl rfl)) rfl)) (Ok.view (Ok.tup (Ok.cons Ok.int Ok.nil))))) (Ok.cons (Ok.frz (Ok.op o_mulW (Ok.view (Ok.tup (Ok.cons Ok.int Ok.nil))) (Ok.view (Ok.var (i := 3) rfl (.inr (.inl rfl)) rfl)))) (Ok.cons (Ok.frz (Ok.op o_mulW (Ok.view (Ok.tup (Ok.cons (Ok.neg' (Ok.view Ok.int)) Ok.nil))) (Ok.view (Ok.var (i := 3) rfl (.inr (.inl rfl)) rfl)))) (Ok.cons (Ok.frz (Ok.op o_mulW (Ok.view (Ok.tup (Ok.cons Ok.bl Ok.nil))) (Ok.view (Ok.var (i := 3) rfl (.inr (.inl rfl)) rfl)))) (Ok.cons Ok.non (Ok.cons (Ok.tup Ok.nil) (Ok.cons Ok.int Ok.nil))))))))))) (Ok.view (OkC.n (Ok.lc [("k", 21)] (OkI.range1 (Ok.view Ok.int) rfl z_range) fun k_126 => (BindOk.name (i := 21) rfl (.inl rfl) (.inr rfl) (BindOk.nil ⟨_, _, OkTs.nil, (Ok.call h__law_bent (Nat.le_of_ble_eq_true rfl) rfl (Ok.cons (Ok.var (i := 1) rfl (.inr (.inl rfl)) rfl) (Ok.cons (Ok.var (i := 6) rfl (.inr (.inl rfl)) rfl) Ok.nil))), rfl⟩)))))) (fun h => by first | rfl | cases h)) (wk_mask (bs := [false, true, false, true, true, false, true, false, false, false, false, false, false, false, false, false, false, false, false, false, false, false, false, false, false])) (fun s_127 value_128 => (BindOk.name (i := 19) rfl (.inl rfl) (.inl rfl) (BindOk.nil (OkB.set (C := CC_law P w K mg base 63) (i := 20) rfl (.inl rfl) (.inl rfl) (Ok.and (Ok.view (Ok.isinst (T := "tuple") (Ok.view (Ok.var (i := 19) rfl (.inl rfl) rfl)) rfl z_isinstance rfl z_tuple (by decide +kernel))) (Ok.and (Ok.view (Ok.cmp o_eq (Ok.view (Ok.bfun o_len (by decide +kernel) rfl z_len (Ok.cons (Ok.view (Ok.var (i := 19) rfl (.inl rfl) rfl)) Ok.nil))) (Ok.view (Ok.var (i := 3) rfl (.inr (.inl rfl)) rfl)))) (Ok.one (Ok.frz (Ok.bfun o_all (by decide +kernel) rfl z_all (Ok.cons (Ok.view (OkC.n (Ok.lc [("k", 21)] (OkI.val (Ok.var (i := 19) rfl (.inl rfl) rfl) (fun h => by first | rfl | cases h)) fun k_131 => (BindOk.name (i := 21) rfl (.inl rfl) (.inr rfl) (BindOk.nil ⟨_, _, OkTs.nil, (Ok.and (Ok.view (Ok.isinst (T := "int") (Ok.view (Ok.var (i := 21) rfl (.inl rfl) rfl)) rfl z_isinstance rfl z_int (by decide +kernel))) (Ok.and (Ok.view (Ok.not (Ok.view (Ok.isinst (T := "bool") (Ok.view (Ok.var (i := 21) rfl (.inl rfl) rfl)) rfl z_isinstance rfl z_bool (by decide +kernel))))) (Ok.one (Ok.frz (Ok.cmp o_ge (Ok.view (Ok.var (i := 21) rfl (.inl rfl) rfl)) (Ok.view Ok.int)))))), rfl⟩))))) Ok.nil)))))) (fun fine_129 => (OkB.ite (C := CC_law P w K mg base 63) (Γj := fun (s_130 : Unit) => [none, some (.frz .box), none, some (.frz many_96), some (.frz one_97), none, some (.frz counts_100), none, none, none, none, none, none, none, none, none, none, none, none, none, none, none, none, none, none]) (OkT.not (OkT.val (Ok.view (Ok.call h__law_same (Nat.le_of_ble_eq_true rfl) rfl (Ok.cons (Ok.call h_are_counts (Nat.le_of_ble_eq_true rfl) rfl (Ok.cons (Ok.var (i := 4) rfl (.inl rfl) rfl) (Ok.cons (Ok.var (i := 19) rfl (.inl rfl) rfl) Ok.nil))) (Ok.cons (Ok.ife (OkT.val (Ok.view (Ok.var (i := 20) rfl (.inl rfl) rfl))) (Ok.and (Ok.view (Ok.var (i := 20) rfl (.inl rfl) rfl)) (Ok.one (Ok.frz (Ok.cmp o_gt (Ok.view (Ok.bfun o_sum2 (by decide +kernel) rfl z_sum (Ok.cons (Ok.view (Ok.var (i := 19) rfl (.inl rfl) rfl)) Ok.nil))) (Ok.view Ok.int))))) Ok.bl) Ok.nil)))))) (OkB.ret Ok.bl) (OkB.nil (s := ()) (wk_mask (bs := [false, true, false, true, true, false, true, false, false, false, false, false, false, false, false, false, false, false, false, false, false, false, false, false, false]))) fun s_130 => (OkB.nil (s := ()) (wk_mask (bs := [false, true, false, true, true, false, true, false, false, false, false, false, false, false, false, false, false, false, false, false, false, false, false, false, false]))))))))) fun s_132 => (OkB.nil (s := ()) (wk_mask (bs := [false, true, false, false, false, false, false, false, false, false, false, false, false, false, false, false, false, false, false, false, false, false, false, false, false]))))))))))))))))))))))))))))))))))))))) fun s_140 => (OkB.ret (Ok.call h__law_same (Nat.le_of_ble_eq_true rfl) rfl (Ok.cons (Ok.tup (Ok.cons (Ok.call h_likelier (Nat.le_of_ble_eq_true rfl) rfl (Ok.cons (Ok.tup (Ok.cons Ok.int (Ok.cons Ok.int Ok.nil))) (Ok.cons (Ok.tup (Ok.cons Ok.int (Ok.cons Ok.int Ok.nil))) (Ok.cons (Ok.tup (Ok.cons Ok.int (Ok.cons Ok.int Ok.nil))) Ok.nil)))) (Ok.cons (Ok.call h_likelihood (Nat.le_of_ble_eq_true rfl) rfl (Ok.cons (Ok.tup (Ok.cons Ok.int (Ok.cons Ok.int Ok.nil))) (Ok.cons (Ok.tup (Ok.cons Ok.int (Ok.cons Ok.int Ok.nil))) Ok.nil))) Ok.nil))) (Ok.cons (Ok.tup (Ok.cons Ok.int (Ok.cons (Ok.tup (Ok.cons Ok.int (Ok.cons Ok.int Ok.nil))) Ok.nil))) Ok.nil)))))
    hm
end
end Lw

namespace Sn
open PySem PySem.Spec PyProof.Rows L2
/-! ### computations that may be undefined, told by plain ones of exactly the same domain -/
section
variable {S : Type} {α β γ σ : Type} {τ l τ' l' : Type}
def obind (o : Option α) (k : α → M S β) : M S β := match o with
  | some a => k a
  | none => stuck
theorem ob_some (a : α) (k : α → M S β) : obind (some a) k = k a := (rfl)
theorem ob_none (k : α → M S β) : obind none k = stuck := (rfl)
theorem ob_bnd (o : Option α) (f : α → M S β) (k : β → M S γ) : bnd (obind o f) k = obind o fun a => bnd (f a) k := by cases o <;> rfl
theorem ob_bind (o : Option α) (g : α → Option β) (k : β → M S γ) : obind (o.bind g) k = obind o fun a => obind (g a) k := by cases o <;> rfl
theorem ob_map (o : Option α) (g : α → β) (k : β → M S γ) : obind (o.map g) k = obind o fun a => k (g a) := by cases o <;> rfl
theorem ob_ite (c : Prop) [Decidable c] (o p : Option α) (k : α → M S β) : obind (if c then o else p) k = if c then obind o k else obind p k := by split <;> rfl
theorem ob_congr {o : Option α} {k k' : α → M S β} (h : ∀ a, o = some a → k a = k' a) : obind o k = obind o k' := by
  cases o with
  | none => rfl
  | some a => exact h a rfl
theorem ob_stuck (o : Option α) : obind o (fun _ => (stuck : M S β)) = stuck := by cases o <;> rfl
theorem ob_op2l (g : D → D → Option D) (o : Option α) (f : α → M S D) (mb : M S D) : op2M g (obind o f) mb = obind o fun a => op2M g (f a) mb := by cases o <;> rfl
theorem ob_op2r (g : D → D → Option D) (x : D) (o : Option α) (f : α → M S D) : op2M g (ret x) (obind o f) = obind o fun a => op2M g (ret x) (f a) := by cases o <;> rfl
theorem ob_cmpl (g : D → D → Option D) (o : Option α) (f : α → M S D) (mb : M S D) : cmpT g (obind o f) mb = obind o fun a => cmpT g (f a) mb := by cases o <;> rfl
theorem ob_cmpr (g : D → D → Option D) (x : D) (o : Option α) (f : α → M S D) : cmpT g (ret x) (obind o f) = obind o fun a => cmpT g (ret x) (f a) := by cases o <;> rfl
theorem ob_consl (o : Option α) (f : α → M S D) (mr : M S (List D)) : consM (obind o f) mr = obind o fun a => consM (f a) mr := by cases o <;> rfl
theorem ob_consr (x : D) (o : Option α) (f : α → M S (List D)) : consM (ret x) (obind o f) = obind o fun a => consM (ret x) (f a) := by cases o <;> rfl
theorem ob_tup (o : Option α) (f : α → M S (List D)) : tupM (obind o f) = obind o fun a => tupM (f a) := by cases o <;> rfl
theorem ob_lst (o : Option α) (f : α → M S (List D)) : lstM (obind o f) = obind o fun a => lstM (f a) := by cases o <;> rfl
theorem ob_bc (g : List D → Option D) (o : Option α) (f : α → M S (List D)) : bcM g (obind o f) = obind o fun a => bcM g (f a) := by cases o <;> rfl
theorem ob_ixl (o : Option α) (f : α → M S D) (mb : M S D) : ixM (obind o f) mb = obind o fun a => ixM (f a) mb := by cases o <;> rfl
theorem ob_ixr (x : D) (o : Option α) (f : α → M S D) : ixM (ret x) (obind o f) = obind o fun a => ixM (ret x) (f a) := by cases o <;> rfl
theorem ob_retF (o : Option α) (f : α → M S D) : (retF (obind o f) : M S (Fl τ l)) = obind o fun a => retF (f a) := by cases o <;> rfl
theorem ob_neg (o : Option α) (f : α → M S D) : negM (obind o f) = obind o fun a => negM (f a) := by cases o <;> rfl
theorem ob_notM (o : Option α) (f : α → M S D) : notM (obind o f) = obind o fun a => notM (f a) := by cases o <;> rfl
theorem ob_val (o : Option α) (f : α → M S D) : valT (obind o f) = obind o fun a => valT (f a) := by cases o <;> rfl
theorem ob_not (o : Option α) (f : α → M S Bool) : notT (obind o f) = obind o fun a => notT (f a) := by cases o <;> rfl
theorem ob_and (o : Option α) (f : α → M S Bool) (k : M S Bool) : andT (obind o f) k = obind o fun a => andT (f a) k := by cases o <;> rfl
theorem ob_or (o : Option α) (f : α → M S Bool) (k : M S Bool) : orT (obind o f) k = obind o fun a => orT (f a) k := by cases o <;> rfl
theorem ob_ifM (o : Option α) (f : α → M S Bool) (x y : M S β) : ifM (obind o f) x y = obind o fun a => ifM (f a) x y := by cases o <;> rfl
theorem ob_elt (o : Option α) (f : α → M S D) : eltM (ret true) (obind o f) = obind o fun a => eltM (ret true) (f a) := by cases o <;> rfl
theorem ob_iteF (o : Option α) (f : α → M S Bool) (mA mB : M S (Fl τ' l)) (k : τ' → M S (Fl τ l)) : iteF (obind o f) mA mB k = obind o fun a => iteF (f a) mA mB k := by cases o <;> rfl
theorem ob_it (o : Option α) (f : α → M S D) : itM (obind o f) = obind o fun a => itM (f a) := by cases o <;> rfl
theorem ob_for (o : Option α) (f : α → M S (List D)) (g : τ → D → M S (Fl τ τ)) (s0 : τ) (k : τ → M S (Fl τ' l')) : forM' (obind o f) g s0 k = obind o fun a => forM' (f a) g s0 k := by cases o <;> rfl
theorem ob_comp (o : Option α) (f : α → M S (List D)) (g : D → M S (Option D)) : compM (obind o f) g = obind o fun a => compM (f a) g := by cases o <;> rfl
theorem ob_app (d : D) (o : Option α) (f : α → M S D) (k : D → M S (Fl τ l)) : appM d (obind o f) k = obind o fun a => appM d (f a) k := by cases o <;> rfl
theorem ob_own (o : Option α) (f : α → M S D) (k : D → M S (Fl τ l)) : ownM (obind o f) k = obind o fun a => ownM (f a) k := by cases o <;> rfl
theorem ob_parl (x y : Md) (o : Option α) (f : α → M S D) (mb : M S D) (k : D → D → M S (Fl τ l)) : parM x y (obind o f) mb k = obind o fun a => parM x y (f a) mb k := by cases o <;> rfl
theorem ob_parr (x y : Md) (d : D) (o : Option α) (f : α → M S D) (k : D → D → M S (Fl τ l)) : parM x y (ret d) (obind o f) k = obind o fun a => parM x y (ret d) (f a) k := by cases o <;> rfl
theorem ob_enum (o : Option α) (f : α → M S D) : enumM (obind o f) = obind o fun a => enumM (f a) := by cases o <;> rfl
theorem ob_aug2l (g : Int → Int → Int) (d : D) (o : Option α) (f : α → M S D) (me : M S D) (k : D → M S (Fl τ l)) : aug2M g d (obind o f) me k = obind o fun a => aug2M g d (f a) me k := by cases o <;> rfl
theorem ob_aug2r (g : Int → Int → Int) (d x : D) (o : Option α) (f : α → M S D) (k : D → M S (Fl τ l)) : aug2M g d (ret x) (obind o f) k = obind o fun a => aug2M g d (ret x) (f a) k := by cases o <;> rfl
theorem ob_dsetl (d : D) (o : Option α) (f : α → M S D) (mk : M S D) (k : D → M S (Fl τ l)) : dsetM d (obind o f) mk k = obind o fun a => dsetM d (f a) mk k := by cases o <;> rfl
theorem ob_dsetr (d x : D) (o : Option α) (f : α → M S D) (k : D → M S (Fl τ l)) : dsetM d (ret x) (obind o f) k = obind o fun a => dsetM d (ret x) (f a) k := by cases o <;> rfl
/-- ints -/
def wmul (i j : Int) : Option Int := if CMulX i j then some (i * j) else none
def wdiv (i j : Int) : Option Int := if CDivW i j then some (i / j) else none
def wmod (i j : Int) : Option Int := if 0 < j then some (i % j) else none
theorem ob_mul (i j : Int) : (lift (mulWD (.int i) (.int j)) : M S D) = obind (wmul i j) fun k => ret (.int k) := by
  show lift (if CMulX i j then some (D.int (i * j)) else none) = obind (if CMulX i j then some (i * j) else none) _
  split <;> rfl
theorem ob_div (i j : Int) : (lift (divWD (.int i) (.int j)) : M S D) = obind (wdiv i j) fun k => ret (.int k) := by
  show lift (if CDivW i j then some (D.int (i / j)) else none) = obind (if CDivW i j then some (i / j) else none) _
  split <;> rfl
theorem ob_mod (i j : Int) : (lift (modD (.int i) (.int j)) : M S D) = obind (wmod i j) fun k => ret (.int k) := by
  show lift (if 0 < j then some (D.int (i % j)) else none) = obind (if 0 < j then some (i % j) else none) _
  split <;> rfl
theorem ob_at (f : α → D) (xs : List α) (i : Int) : (lift (atI (xs.map f) i) : M S D) = obind (atI xs i) fun x => ret (f x) := by
  rw [atI_map]
  cases atI xs i <;> rfl
/-- the items of a list, each by a computation that may be undefined -/
def mapO (g : α → Option β) : List α → Option (List β)
  | [] => some []
  | x :: xs => (g x).bind fun y => (mapO g xs).map fun ys => y :: ys
def foldO (g : σ → α → Option σ) : σ → List α → Option σ
  | s, [] => some s
  | s, x :: xs => (g s x).bind fun s' => foldO g s' xs
theorem compL_O {f : α → M S (Option D)} (g : α → Option β) (e : β → D) : ∀ {xs : List α}, (∀ x ∈ xs, f x = obind (g x) fun y => ret (some (e y))) → compL f xs = obind (mapO g xs) fun ys => ret (ys.map e)
  | [], _ => rfl
  | x :: xs, h => by
    rw [compL_cons, h x List.mem_cons_self, compL_O g e fun y hy => h y (List.mem_cons_of_mem _ hy)]
    show _ = obind ((g x).bind fun y => (mapO g xs).map fun ys => y :: ys) _
    cases g x with
    | none => rfl
    | some y =>
      cases mapO g xs <;> rfl
theorem forE_O (e : σ → τ) (g : σ → α → Option σ) {f : τ → α → M S (Fl τ τ)} {k : τ → M S (Fl τ' l')} : ∀ {xs : List α} {s : σ}, (∀ s, ∀ x ∈ xs, f (e s) x = obind (g s x) fun s' => ret (.nx (e s'))) → forE f k xs (e s) = obind (foldO g s xs) fun s' => k (e s')
  | [], _, _ => rfl
  | x :: xs, s, h => by
    show bnd (f (e s) x) _ = obind ((g s x).bind fun s' => foldO g s' xs) _
    rw [h s x List.mem_cons_self]
    cases g s x with
    | none => rfl
    | some s' => exact forE_O e g fun s y hy => h s y (List.mem_cons_of_mem _ hy)
/-- ranges, lists: what bounds their length -/
def rg1 (j : Int) : Option (List Int) := if -(2 ^ 62) ≤ j ∧ j < 2 ^ 62 then some (rI 0 j) else none
def rg2 (i j : Int) : Option (List Int) := if -(2 ^ 62) ≤ i ∧ i < 2 ^ 62 ∧ -(2 ^ 62) ≤ j ∧ j < 2 ^ 62 then some (rI i j) else none
theorem ob_rng1 (j : Int) : rng1M (ret (.int j) : M S D) = obind (rg1 j) fun xs => ret (xs.map .int) := by
  show (if -(2 ^ 62) ≤ j ∧ j < 2 ^ 62 then ret (rng 0 j) else stuck : M S (List D)) = obind (if -(2 ^ 62) ≤ j ∧ j < 2 ^ 62 then some (rI 0 j) else none) _
  rw [rng_rI]
  split <;> rfl
theorem ob_rng2 (i j : Int) : rng2M (ret (.int i) : M S D) (ret (.int j)) = obind (rg2 i j) fun xs => ret (xs.map .int) := by
  show (if -(2 ^ 62) ≤ i ∧ i < 2 ^ 62 ∧ -(2 ^ 62) ≤ j ∧ j < 2 ^ 62 then ret (rng i j) else stuck : M S (List D)) = obind (if -(2 ^ 62) ≤ i ∧ i < 2 ^ 62 ∧ -(2 ^ 62) ≤ j ∧ j < 2 ^ 62 then some (rI i j) else none) _
  rw [rng_rI]
  split <;> rfl
def chkL (xs : List α) : Option (List α) := if xs.length ≤ 16777216 then some xs else none
theorem ob_compM (e : α → D) (xs : List α) (f : D → M S (Option D)) : compM (ret (xs.map e)) f = obind (chkL xs) fun xs => bnd (compL (fun x => f (e x)) xs) fun ys => ret (.lst ys) := by
  unfold chkL
  split
  · rename_i h
    rw [ob_some, comp_ok (by rw [List.length_map]; exact h), compL_map]
  · rename_i h
    show (if (xs.map e).length ≤ sizeLine then _ else _) = _
    rw [if_neg (by rw [List.length_map, sizeLine_eq]; exact h)]
    rfl
def addO (xs ys : List α) : Option (List α) := if xs.length + ys.length ≤ 16777216 then some (xs ++ ys) else none
theorem ob_addL (e : α → D) (xs ys : List α) : (lift (addD (.lst (xs.map e)) (.lst (ys.map e))) : M S D) = obind (addO xs ys) fun zs => ret (.lst (zs.map e)) := by
  show lift (if (xs.map e).length + (ys.map e).length ≤ sizeLine then some (D.lst (xs.map e ++ ys.map e)) else none) = _
  unfold addO
  rw [List.length_map, List.length_map, sizeLine_eq]
  split
  · rw [ob_some, List.map_append]; rfl
  · rfl
def appO (xs : List α) (y : α) : Option (List α) := if xs.length < 16777216 then some (xs ++ [y]) else none
theorem ob_appM (e : α → D) (xs : List α) (y : α) (k : D → M S (Fl τ l)) : appM (.lst (xs.map e)) (ret (e y)) k = obind (appO xs y) fun zs => k (.lst (zs.map e)) := by
  show bnd (lift (if (xs.map e).length < sizeLine then some (D.lst (xs.map e ++ [e y])) else none)) k = _
  unfold appO
  rw [List.length_map, sizeLine_eq]
  split
  · rw [ob_some, List.map_append]; rfl
  · rfl
def repO (xs : List α) (k : Int) : Option (List α) := if -(2 ^ 63) ≤ k ∧ k < 2 ^ 63 ∧ xs.length * k.toNat ≤ 16777216 then some (List.replicate k.toNat xs).flatten else none
theorem ob_rep (e : α → D) (xs : List α) (k : Int) : (lift (mulWD (.lst (xs.map e)) (.int k)) : M S D) = obind (repO xs k) fun zs => ret (.lst (zs.map e)) := by
  show lift (if -(2 ^ 63) ≤ k ∧ k < 2 ^ 63 ∧ (xs.map e).length * k.toNat ≤ sizeLine then some (D.lst (List.replicate k.toNat (xs.map e)).flatten) else none) = _
  unfold repO
  rw [List.length_map, sizeLine_eq]
  split
  · rw [ob_some, List.map_flatten, List.map_replicate]; rfl
  · rfl
def aug2O (g : Int → Int → Int) (xs : List Int) (i b : Int) : Option (List Int) := if 0 ≤ i then (xs[i.toNat]?).map fun a => xs.set i.toNat (g a b) else none
theorem ob_aug2 (g : Int → Int → Int) (xs : List Int) (i b : Int) (k : D → M S (Fl τ l)) : aug2M g (.lst (xs.map .int)) (ret (.int i)) (ret (.int b)) k = obind (aug2O g xs i b) fun ys => k (.lst (ys.map .int)) := by
  show bnd (lift (if 0 ≤ i then match (xs.map D.int)[i.toNat]? with | some (.int a) => some (D.lst ((xs.map D.int).set i.toNat (.int (g a b)))) | _ => none else none)) k = _
  unfold aug2O
  split
  · rw [List.getElem?_map]
    cases xs[i.toNat]? with
    | none => rfl
    | some a =>
      show k (.lst ((xs.map D.int).set i.toNat (.int (g a b)))) = k (.lst ((xs.set i.toNat (g a b)).map .int))
      rw [List.map_set]
  · rfl
theorem enumT_map (e : α → D) (xs : List α) : enumT (xs.map e) = (xs.zipIdx).map fun p => .tup [.int ((p.2 : Nat) : Int), e p.1] := by
  unfold enumT
  rw [List.zipIdx_map, List.map_map]
  rfl
theorem s_enumL (xs : List D) : enumM (ret (.lst xs) : M S D) = ret (enumT xs) := (rfl)
theorem s_enumT (xs : List D) : enumM (ret (.tup xs) : M S D) = ret (enumT xs) := (rfl)
end
/-! ### ratios -/
/-- a, b = b, a % b until b is nought -/
def gcO : Nat → Int → Int → Option Int
  | 0, _, _ => none
  | n + 1, a, b => if b = 0 then some a else (wmod a b).bind fun r => gcO n b r
def lrO : Nat → Int → Int → Option Int
  | 0, _, _ => none
  | n + 1, a, b => if b = 0 then some a else (wdiv a b).bind fun d => (wmul d b).bind fun e => lrO n b (a - e)
theorem gcO_ok : ∀ (k n : Nat) (a b : Nat), b < 2 ^ k → 2 * k + 1 ≤ n → gcO n a b = some ((Nat.gcd a b : Nat) : Int)
  | k, n, a, b, hb, hn => by
    obtain ⟨n, rfl⟩ : ∃ m, n = m + 1 := ⟨n - 1, by omega⟩
    unfold gcO
    by_cases h0 : b = 0
    · subst h0
      rw [if_pos (show ((0 : Nat) : Int) = 0 from rfl), Nat.gcd_zero_right]
    · rw [if_neg (by omega)]
      have hm : wmod (a : Int) (b : Int) = some ((a % b : Nat) : Int) := by
        unfold wmod
        rw [if_pos (by omega)]
        rfl
      rw [hm, Option.bind_some]
      cases k with
      | zero => omega
      | succ k =>
        obtain ⟨n, rfl⟩ : ∃ m, n = m + 1 := ⟨n - 1, by omega⟩
        unfold gcO
        have hr : a % b < b := Nat.mod_lt _ (by omega)
        by_cases h1 : a % b = 0
        · rw [if_pos (by omega)]
          rw [Nat.gcd_comm, Nat.gcd_rec, h1, Nat.gcd_zero_left]
        · rw [if_neg (by omega)]
          have hm2 : wmod (b : Int) ((a % b : Nat) : Int) = some ((b % (a % b) : Nat) : Int) := by
            unfold wmod
            rw [if_pos (by omega)]
            rfl
          rw [hm2, Option.bind_some]
          have h2 : b % (a % b) < a % b := Nat.mod_lt _ (by omega)
          have h3 : b % (a % b) + (a % b) ≤ b := by
            have := Nat.mod_add_div b (a % b)
            have hq : 1 ≤ b / (a % b) := Nat.div_pos (by omega) (by omega)
            have := Nat.mul_le_mul_left (a % b) hq
            omega
          rw [gcO_ok k n (a % b) (b % (a % b)) (by rw [Nat.pow_succ] at hb; omega) (by omega)]
          congr 2
          rw [Nat.gcd_comm a b, Nat.gcd_rec b a, Nat.gcd_rec (a % b) b, Nat.gcd_comm]
theorem lrO_ok : ∀ (k n : Nat) (a b : Nat), b < 2 ^ k → 2 * k + 1 ≤ n → a < 2 ^ 4000 → k ≤ 4000 → lrO n a b = some ((Nat.gcd a b : Nat) : Int) := by
  have step : ∀ (a b : Nat), 0 < b → b < 2 ^ 4000 → a < 2 ^ 4000 → ∀ n, lrO (n + 1) a b = lrO n b ((a % b : Nat) : Int) := by
    intro a b h0 hb ha n
    rw [lrO, if_neg (by omega)]
    have lg : ∀ x : Nat, x < 2 ^ 4000 → x.log2 < 4000 := fun x hx => by
      by_cases hx0 : x = 0
      · subst hx0; decide
      · exact (Nat.log2_lt hx0).mpr hx
    have hd : wdiv (a : Int) (b : Int) = some ((a / b : Nat) : Int) := by
      unfold wdiv
      rw [if_pos ⟨by omega, by have := lg b hb; simp; omega⟩]
      rfl
    rw [hd, Option.bind_some]
    have hq : a / b < 2 ^ 4000 := Nat.lt_of_le_of_lt (Nat.div_le_self _ _) ha
    have hm : wmul ((a / b : Nat) : Int) (b : Int) = some ((a / b * b : Nat) : Int) := by
      unfold wmul
      rw [if_pos (mulx_ok (a := 4000) (b := 4000) (by rw [Int.natAbs_natCast]; exact hq) (by rw [Int.natAbs_natCast]; exact hb) (by decide)), Int.natCast_mul]
    rw [hm, Option.bind_some]
    congr 1
    have := Nat.mod_add_div a b
    rw [Nat.mul_comm] at this
    omega
  intro k
  induction k with
  | zero =>
    intro n a b hb hn ha _
    obtain ⟨n, rfl⟩ : ∃ m, n = m + 1 := ⟨n - 1, by omega⟩
    have : b = 0 := by simpa using hb
    subst this
    rw [lrO, if_pos (show ((0 : Nat) : Int) = 0 from rfl), Nat.gcd_zero_right]
  | succ k ih =>
    intro n a b hb hn ha hk
    obtain ⟨n, rfl⟩ : ∃ m, n = m + 1 := ⟨n - 1, by omega⟩
    by_cases h0 : b = 0
    · subst h0
      rw [lrO, if_pos (show ((0 : Nat) : Int) = 0 from rfl), Nat.gcd_zero_right]
    · have hb4 : b < 2 ^ 4000 := Nat.lt_of_lt_of_le hb (Nat.pow_le_pow_right (by decide) hk)
      have hr : a % b < b := Nat.mod_lt _ (by omega)
      rw [step a b (by omega) hb4 ha]
      obtain ⟨n, rfl⟩ : ∃ m, n = m + 1 := ⟨n - 1, by omega⟩
      by_cases h1 : a % b = 0
      · rw [h1, lrO, if_pos (show ((0 : Nat) : Int) = 0 from rfl), Nat.gcd_comm, Nat.gcd_rec, h1, Nat.gcd_zero_left]
      · have h2 : b % (a % b) < a % b := Nat.mod_lt _ (by omega)
        have h3 : b % (a % b) + (a % b) ≤ b := by
          have := Nat.mod_add_div b (a % b)
          have hq : 1 ≤ b / (a % b) := Nat.div_pos (by omega) (by omega)
          have := Nat.mul_le_mul_left (a % b) hq
          omega
        rw [step b (a % b) (by omega) (by omega) hb4, ih n (a % b) (b % (a % b)) (by rw [Nat.pow_succ] at hb; omega) (by omega) (by omega) (by omega)]
        congr 2
        rw [Nat.gcd_comm a b, Nat.gcd_rec b a, Nat.gcd_rec (a % b) b, Nat.gcd_comm]
/-- in lowest terms, as the code has it -/
def lowO (p q : Int) : Option (Int × Int) := (gcO fuel (if p < 0 then -p else p) q).bind fun g => (wdiv p g).bind fun a => (wdiv q g).map fun b => (a, b)
def ratO (p q : Int) : Option (Int × Int) := (lrO fuel (if p < 0 then -p else p) (if q < 0 then -q else q)).bind fun g => if 0 < q then (wdiv p g).bind fun a => (wdiv q g).map fun b => (a, b) else (wdiv (-p) g).bind fun a => (wdiv (-q) g).map fun b => (a, b)
def fine (p q : Int) : Bool := decide (0 < q) && decide (p.natAbs < 2 ^ 4000) && decide (q.natAbs < 2 ^ 4000)
def lowF (p q : Int) : Option (Int × Int) := if fine p q = true then some (p / ((Nat.gcd p.natAbs q.natAbs : Nat) : Int), q / ((Nat.gcd p.natAbs q.natAbs : Nat) : Int)) else lowO p q
def ratF (p q : Int) : Option (Int × Int) := if fine p q = true then some (p / ((Nat.gcd p.natAbs q.natAbs : Nat) : Int), q / ((Nat.gcd p.natAbs q.natAbs : Nat) : Int)) else ratO p q
theorem fine_ok {p q : Int} (h : fine p q = true) : 0 < q ∧ p.natAbs < 2 ^ 4000 ∧ q.natAbs < 2 ^ 4000 := by
  unfold fine at h
  simp only [Bool.and_eq_true, decide_eq_true_eq] at h
  exact ⟨h.1.1, h.1.2, h.2⟩
theorem abs_nat (p : Int) : (if p < 0 then -p else p) = (p.natAbs : Int) := by split <;> omega
theorem div_fine {p q : Int} (h : fine p q = true) : wdiv p ((Nat.gcd p.natAbs q.natAbs : Nat) : Int) = some (p / ((Nat.gcd p.natAbs q.natAbs : Nat) : Int)) ∧ wdiv q ((Nat.gcd p.natAbs q.natAbs : Nat) : Int) = some (q / ((Nat.gcd p.natAbs q.natAbs : Nat) : Int)) := by
  obtain ⟨h1, h2, h3⟩ := fine_ok h
  have hg : 0 < Nat.gcd p.natAbs q.natAbs := Nat.gcd_pos_of_pos_right _ (by omega)
  have hle : Nat.gcd p.natAbs q.natAbs ≤ q.natAbs := Nat.gcd_le_right _ (by omega)
  have hc : CDivW p ((Nat.gcd p.natAbs q.natAbs : Nat) : Int) := ⟨by omega, by
    have := (Nat.log2_lt (Nat.pos_iff_ne_zero.mp hg)).mpr (Nat.lt_of_le_of_lt hle h3)
    simp only [Int.natAbs_natCast]
    omega⟩
  exact ⟨if_pos hc, if_pos hc⟩
theorem low_eq (p q : Int) : lowO p q = lowF p q := by
  unfold lowF
  split
  · rename_i h
    obtain ⟨h1, h2, h3⟩ := fine_ok h
    obtain ⟨d1, d2⟩ := div_fine h
    unfold lowO
    rw [abs_nat, show (q : Int) = (q.natAbs : Int) by omega, gcO_ok 4000 fuel _ _ h3 (by decide), Option.bind_some, Int.natAbs_natCast, d1, Option.bind_some]
    rw [show ((q.natAbs : Nat) : Int) = q by omega, d2]
    rfl
  · rfl
theorem rat_eq (p q : Int) : ratO p q = ratF p q := by
  unfold ratF
  split
  · rename_i h
    obtain ⟨h1, h2, h3⟩ := fine_ok h
    obtain ⟨d1, d2⟩ := div_fine h
    unfold ratO
    rw [abs_nat, abs_nat, lrO_ok 4000 fuel _ _ h3 (by decide) h2 (by decide), Option.bind_some, if_pos h1, d1, Option.bind_some, d2]
    rfl
  · rfl
def rD (p : Int × Int) : D := .tup [.int p.1, .int p.2]
theorem rD_0 (p : Int × Int) : ixD (rD p) (.int 0) = some (.int p.1) := by unfold rD; rw [r_ixT, s_atC0]
theorem rD_1 (p : Int × Int) : ixD (rD p) (.int 1) = some (.int p.2) := by unfold rD; rw [r_ixT, s_atC1]
end Sn

namespace Lw
open PySem PySem.Spec PyProof.Rows L2 Sn
abbrev R := Int × Int
theorem gc_loop {τ' l' : Type} (k : D × D → M Bx (Fl τ' l')) : ∀ (n : Nat) (a b : Int), whileL (fun (s_13 : D × D) => (valT (ret s_13.2))) (fun s_13 => (parM .E .E (ret s_13.2) (op2M modD (ret s_13.1) (ret s_13.2)) fun a_14 b_15 => (ret (.nx (a_14, b_15))))) k n (.int a, .int b) = obind (gcO n a b) fun g => k (.int g, .int 0)
  | 0, a, b => rfl
  | n + 1, a, b => by
    rw [gcO]
    by_cases h : b = 0
    · subst h
      rw [if_pos rfl, ob_some]
      exact whileL_off rfl
    · rw [if_neg h, ob_bind]
      show bnd (valT (ret (.int b))) _ = _
      rw [r_valT, r_tru_int, r_bnd, if_pos (by simpa using h)]
      show bnd (parM .E .E (ret (.int b)) (op2M modD (ret (.int a)) (ret (.int b))) _) _ = _
      rw [r_op2, ob_mod]
      cases wmod a b with
      | none => rfl
      | some r => exact gc_loop k n b r
theorem low_terms_ok (p q : Int) : m_low_terms [.int p, .int q] = obind (lowF p q) fun r => ret (rD r) := by
  show bnd (b_low_terms (.int p) (.int q)) endF = _
  unfold b_low_terms
  have ha : absD [.int p] = some (.int (if p < 0 then -p else p)) := rfl
  rw [← low_eq]
  unfold lowO rD
  rw [r_consM, r_bcM, ha, r_lift, r_par, gc_loop]
  simp (disch := (first | assumption | (refine InP.mem ?_; assumption) | omega | solve_by_elim | (simp only [InP, decide_eq_true_eq, List.map_id', List.length_map, List.length_cons, List.length_nil, List.length_append, List.length_range, List.length_zip, List.length_tail, List.length_take, List.length_drop, rI_len, rng_len, mem_rI, List.mem_range] at *; omega) | (simp only [List.map_id']; assumption) | simp)) only [r_bnd, r_lift, r_op2, r_cmpT, r_asB, r_asI, r_valT, r_tru_bl, r_tru_int, r_tru_lst, r_tru_tup, r_tru_non, r_notT, r_andTt, r_andTf, r_andT, r_orTt, r_orTf, r_orT, r_andMt, r_andMf, r_andM, r_orMt, r_orMf, r_orM, r_notM, r_negM, r_negD, r_ifM, r_consM, r_tupM, r_lstM, r_tup0, r_tup1, r_tup2, r_tup3, r_tup4, r_tup5, r_tup6, r_lst0, r_lst1, r_lst2, r_lst3, r_lst4, r_lst5, r_bcM, r_lenT, r_lenL, List.length_map, r_tupT, r_tupL, r_lstT, r_lstL, r_int, r_ixM, r_ixT, r_ixL, r_ptM, r_slM, r_slT, r_slL, r_itT, r_itL, r_isi, r_add, r_sub, r_lt, r_le, r_gt, r_ge, r_isN, r_isntN, r_isB, r_isntB, nonNon, nonI, nonT, nonL, nonB, nonS, r_retF, r_endR, r_endN, r_iteF, r_seqN, r_seqR, r_seqB, r_seqC, r_forM, r_own, r_ownd, r_par, r_parN, r_parNN, r_eltT, r_eltF, r_elt, r_eq, r_ne, r_eqb, r_neb, compG_ret, compG_none, compG_retIf, compG_filt, eltM_ret, forL_G, forG_unit, forG_find, chainM_ret, chainT_ret, s_iteB, s_iteT, s_comp, s_all, s_any, s_sum, max2_ok, min2_ok, s_zipL, s_zipT, zipT_map, s_pat2, s_pat3, s_app, s_extL, s_extT, s_count, s_atR, s_atC0, s_atC1, s_atC2, s_in_nats, s_nin_nats, List.map_map, Function.comp_apply, Bool.false_eq_true, if_true, if_false, ↓reduceIte, Bool.not_true, Bool.not_false, Bool.and_true, Bool.true_and, Bool.or_false, Bool.false_or, Bool.and_false, Bool.false_and, Bool.or_true, Bool.true_or, decide_true, decide_false, ob_some, ob_none, ob_bnd, ob_bind, ob_map, ob_op2l, ob_op2r, ob_cmpl, ob_cmpr, ob_consl, ob_consr, ob_tup, ob_lst, ob_bc, ob_ixl, ob_ixr, ob_retF, ob_neg, ob_notM, ob_val, ob_not, ob_and, ob_or, ob_ifM, ob_elt, ob_iteF, ob_it, ob_for, ob_comp, ob_app, ob_own, ob_parl, ob_parr, ob_enum, ob_aug2l, ob_aug2r, ob_dsetl, ob_dsetr, ob_mul, ob_div, ob_mod, ob_rng1, ob_rng2, ob_compM, ob_addL, ob_appM, ob_at, rD_0, rD_1]
theorem lr_loop {τ' l' : Type} (k : D × D → M Bx (Fl τ' l')) : ∀ (n : Nat) (a b : Int), whileL (fun (s_132 : D × D) => (cmpT neD (ret s_132.2) (ret (.int 0)))) (fun s_132 => (parM .E .E (ret s_132.2) (op2M subD (ret s_132.1) (op2M mulWD (op2M divWD (ret s_132.1) (ret s_132.2)) (ret s_132.2))) fun a_133 b_134 => (ret (.nx (a_133, b_134))))) k n (.int a, .int b) = obind (lrO n a b) fun g => k (.int g, .int 0)
  | 0, a, b => rfl
  | n + 1, a, b => by
    rw [lrO]
    by_cases h : b = 0
    · subst h
      rw [if_pos rfl, ob_some]
      exact whileL_off (by simp (disch := (first | assumption | (refine InP.mem ?_; assumption) | omega | solve_by_elim | (simp only [InP, decide_eq_true_eq, List.map_id', List.length_map, List.length_cons, List.length_nil, List.length_append, List.length_range, List.length_zip, List.length_tail, List.length_take, List.length_drop, rI_len, rng_len, mem_rI, List.mem_range] at *; omega) | (simp only [List.map_id']; assumption) | simp)) only [r_bnd, r_lift, r_op2, r_cmpT, r_asB, r_asI, r_valT, r_tru_bl, r_tru_int, r_tru_lst, r_tru_tup, r_tru_non, r_notT, r_andTt, r_andTf, r_andT, r_orTt, r_orTf, r_orT, r_andMt, r_andMf, r_andM, r_orMt, r_orMf, r_orM, r_notM, r_negM, r_negD, r_ifM, r_consM, r_tupM, r_lstM, r_tup0, r_tup1, r_tup2, r_tup3, r_tup4, r_tup5, r_tup6, r_lst0, r_lst1, r_lst2, r_lst3, r_lst4, r_lst5, r_bcM, r_lenT, r_lenL, List.length_map, r_tupT, r_tupL, r_lstT, r_lstL, r_int, r_ixM, r_ixT, r_ixL, r_ptM, r_slM, r_slT, r_slL, r_itT, r_itL, r_isi, r_add, r_sub, r_lt, r_le, r_gt, r_ge, r_isN, r_isntN, r_isB, r_isntB, nonNon, nonI, nonT, nonL, nonB, nonS, r_retF, r_endR, r_endN, r_iteF, r_seqN, r_seqR, r_seqB, r_seqC, r_forM, r_own, r_ownd, r_par, r_parN, r_parNN, r_eltT, r_eltF, r_elt, r_eq, r_ne, r_eqb, r_neb, compG_ret, compG_none, compG_retIf, compG_filt, eltM_ret, forL_G, forG_unit, forG_find, chainM_ret, chainT_ret, s_iteB, s_iteT, s_comp, s_all, s_any, s_sum, max2_ok, min2_ok, s_zipL, s_zipT, zipT_map, s_pat2, s_pat3, s_app, s_extL, s_extT, s_count, s_atR, s_atC0, s_atC1, s_atC2, s_in_nats, s_nin_nats, List.map_map, Function.comp_apply, Bool.false_eq_true, if_true, if_false, ↓reduceIte, Bool.not_true, Bool.not_false, Bool.and_true, Bool.true_and, Bool.or_false, Bool.false_or, Bool.and_false, Bool.false_and, Bool.or_true, Bool.true_or, decide_true, decide_false])
    · rw [if_neg h, ob_bind]
      show bnd (cmpT neD (ret (.int b)) (ret (.int 0))) _ = _
      rw [r_cmpT, r_ne, r_lift, r_bnd, r_asB, r_bnd, if_pos (by simpa using h)]
      show bnd (parM .E .E (ret (.int b)) (op2M subD (ret (.int a)) (op2M mulWD (op2M divWD (ret (.int a)) (ret (.int b))) (ret (.int b)))) _) _ = _
      rw [r_op2, ob_div]
      cases wdiv a b with
      | none => rfl
      | some d =>
        rw [ob_some, ob_some, r_op2, ob_mul, ob_bind]
        cases wmul d b with
        | none => rfl
        | some e =>
          rw [ob_some, ob_some, r_op2, r_sub, r_lift, r_par]
          exact lr_loop k n b (a - e)
theorem law_ratio_ok (p q : Int) : m__law_ratio [.int p, .int q] = obind (ratF p q) fun r => ret (rD r) := by
  show bnd (b__law_ratio (.int p) (.int q)) endF = _
  unfold b__law_ratio
  have ha : ∀ p : Int, absD [.int p] = some (.int (if p < 0 then -p else p)) := fun p => rfl
  rw [← rat_eq]
  unfold ratO rD
  rw [r_consM, r_bcM, ha, r_lift, r_consM, r_bcM, ha, r_lift, r_par, lr_loop]
  simp (disch := (first | assumption | (refine InP.mem ?_; assumption) | omega | solve_by_elim | (simp only [InP, decide_eq_true_eq, List.map_id', List.length_map, List.length_cons, List.length_nil, List.length_append, List.length_range, List.length_zip, List.length_tail, List.length_take, List.length_drop, rI_len, rng_len, mem_rI, List.mem_range] at *; omega) | (simp only [List.map_id']; assumption) | simp)) only [r_bnd, r_lift, r_op2, r_cmpT, r_asB, r_asI, r_valT, r_tru_bl, r_tru_int, r_tru_lst, r_tru_tup, r_tru_non, r_notT, r_andTt, r_andTf, r_andT, r_orTt, r_orTf, r_orT, r_andMt, r_andMf, r_andM, r_orMt, r_orMf, r_orM, r_notM, r_negM, r_negD, r_ifM, r_consM, r_tupM, r_lstM, r_tup0, r_tup1, r_tup2, r_tup3, r_tup4, r_tup5, r_tup6, r_lst0, r_lst1, r_lst2, r_lst3, r_lst4, r_lst5, r_bcM, r_lenT, r_lenL, List.length_map, r_tupT, r_tupL, r_lstT, r_lstL, r_int, r_ixM, r_ixT, r_ixL, r_ptM, r_slM, r_slT, r_slL, r_itT, r_itL, r_isi, r_add, r_sub, r_lt, r_le, r_gt, r_ge, r_isN, r_isntN, r_isB, r_isntB, nonNon, nonI, nonT, nonL, nonB, nonS, r_retF, r_endR, r_endN, r_iteF, r_seqN, r_seqR, r_seqB, r_seqC, r_forM, r_own, r_ownd, r_par, r_parN, r_parNN, r_eltT, r_eltF, r_elt, r_eq, r_ne, r_eqb, r_neb, compG_ret, compG_none, compG_retIf, compG_filt, eltM_ret, forL_G, forG_unit, forG_find, chainM_ret, chainT_ret, s_iteB, s_iteT, s_comp, s_all, s_any, s_sum, max2_ok, min2_ok, s_zipL, s_zipT, zipT_map, s_pat2, s_pat3, s_app, s_extL, s_extT, s_count, s_atR, s_atC0, s_atC1, s_atC2, s_in_nats, s_nin_nats, List.map_map, Function.comp_apply, Bool.false_eq_true, if_true, if_false, ↓reduceIte, Bool.not_true, Bool.not_false, Bool.and_true, Bool.true_and, Bool.or_false, Bool.false_or, Bool.and_false, Bool.false_and, Bool.or_true, Bool.true_or, decide_true, decide_false, ob_some, ob_none, ob_bnd, ob_bind, ob_map, ob_op2l, ob_op2r, ob_cmpl, ob_cmpr, ob_consl, ob_consr, ob_tup, ob_lst, ob_bc, ob_ixl, ob_ixr, ob_retF, ob_neg, ob_notM, ob_val, ob_not, ob_and, ob_or, ob_ifM, ob_elt, ob_iteF, ob_it, ob_for, ob_comp, ob_app, ob_own, ob_parl, ob_parr, ob_enum, ob_aug2l, ob_aug2r, ob_dsetl, ob_dsetr, ob_mul, ob_div, ob_mod, ob_rng1, ob_rng2, ob_compM, ob_addL, ob_appM, ob_at, rD_0, rD_1, ob_ite]
  congr 1
  funext g
  by_cases h : 0 < q
  · rw [decide_eq_true h]; simp (disch := (first | assumption | (refine InP.mem ?_; assumption) | omega | solve_by_elim | (simp only [InP, decide_eq_true_eq, List.map_id', List.length_map, List.length_cons, List.length_nil, List.length_append, List.length_range, List.length_zip, List.length_tail, List.length_take, List.length_drop, rI_len, rng_len, mem_rI, List.mem_range] at *; omega) | (simp only [List.map_id']; assumption) | simp)) only [r_bnd, r_lift, r_op2, r_cmpT, r_asB, r_asI, r_valT, r_tru_bl, r_tru_int, r_tru_lst, r_tru_tup, r_tru_non, r_notT, r_andTt, r_andTf, r_andT, r_orTt, r_orTf, r_orT, r_andMt, r_andMf, r_andM, r_orMt, r_orMf, r_orM, r_notM, r_negM, r_negD, r_ifM, r_consM, r_tupM, r_lstM, r_tup0, r_tup1, r_tup2, r_tup3, r_tup4, r_tup5, r_tup6, r_lst0, r_lst1, r_lst2, r_lst3, r_lst4, r_lst5, r_bcM, r_lenT, r_lenL, List.length_map, r_tupT, r_tupL, r_lstT, r_lstL, r_int, r_ixM, r_ixT, r_ixL, r_ptM, r_slM, r_slT, r_slL, r_itT, r_itL, r_isi, r_add, r_sub, r_lt, r_le, r_gt, r_ge, r_isN, r_isntN, r_isB, r_isntB, nonNon, nonI, nonT, nonL, nonB, nonS, r_retF, r_endR, r_endN, r_iteF, r_seqN, r_seqR, r_seqB, r_seqC, r_forM, r_own, r_ownd, r_par, r_parN, r_parNN, r_eltT, r_eltF, r_elt, r_eq, r_ne, r_eqb, r_neb, compG_ret, compG_none, compG_retIf, compG_filt, eltM_ret, forL_G, forG_unit, forG_find, chainM_ret, chainT_ret, s_iteB, s_iteT, s_comp, s_all, s_any, s_sum, max2_ok, min2_ok, s_zipL, s_zipT, zipT_map, s_pat2, s_pat3, s_app, s_extL, s_extT, s_count, s_atR, s_atC0, s_atC1, s_atC2, s_in_nats, s_nin_nats, List.map_map, Function.comp_apply, Bool.false_eq_true, if_true, if_false, ↓reduceIte, Bool.not_true, Bool.not_false, Bool.and_true, Bool.true_and, Bool.or_false, Bool.false_or, Bool.and_false, Bool.false_and, Bool.or_true, Bool.true_or, decide_true, decide_false, ob_some, ob_none, ob_bnd, ob_bind, ob_map, ob_op2l, ob_op2r, ob_cmpl, ob_cmpr, ob_consl, ob_consr, ob_tup, ob_lst, ob_bc, ob_ixl, ob_ixr, ob_retF, ob_neg, ob_notM, ob_val, ob_not, ob_and, ob_or, ob_ifM, ob_elt, ob_iteF, ob_it, ob_for, ob_comp, ob_app, ob_own, ob_parl, ob_parr, ob_enum, ob_aug2l, ob_aug2r, ob_dsetl, ob_dsetr, ob_mul, ob_div, ob_mod, ob_rng1, ob_rng2, ob_compM, ob_addL, ob_appM, ob_at, rD_0, rD_1, h]
  · rw [decide_eq_false h]; simp (disch := (first | assumption | (refine InP.mem ?_; assumption) | omega | solve_by_elim | (simp only [InP, decide_eq_true_eq, List.map_id', List.length_map, List.length_cons, List.length_nil, List.length_append, List.length_range, List.length_zip, List.length_tail, List.length_take, List.length_drop, rI_len, rng_len, mem_rI, List.mem_range] at *; omega) | (simp only [List.map_id']; assumption) | simp)) only [r_bnd, r_lift, r_op2, r_cmpT, r_asB, r_asI, r_valT, r_tru_bl, r_tru_int, r_tru_lst, r_tru_tup, r_tru_non, r_notT, r_andTt, r_andTf, r_andT, r_orTt, r_orTf, r_orT, r_andMt, r_andMf, r_andM, r_orMt, r_orMf, r_orM, r_notM, r_negM, r_negD, r_ifM, r_consM, r_tupM, r_lstM, r_tup0, r_tup1, r_tup2, r_tup3, r_tup4, r_tup5, r_tup6, r_lst0, r_lst1, r_lst2, r_lst3, r_lst4, r_lst5, r_bcM, r_lenT, r_lenL, List.length_map, r_tupT, r_tupL, r_lstT, r_lstL, r_int, r_ixM, r_ixT, r_ixL, r_ptM, r_slM, r_slT, r_slL, r_itT, r_itL, r_isi, r_add, r_sub, r_lt, r_le, r_gt, r_ge, r_isN, r_isntN, r_isB, r_isntB, nonNon, nonI, nonT, nonL, nonB, nonS, r_retF, r_endR, r_endN, r_iteF, r_seqN, r_seqR, r_seqB, r_seqC, r_forM, r_own, r_ownd, r_par, r_parN, r_parNN, r_eltT, r_eltF, r_elt, r_eq, r_ne, r_eqb, r_neb, compG_ret, compG_none, compG_retIf, compG_filt, eltM_ret, forL_G, forG_unit, forG_find, chainM_ret, chainT_ret, s_iteB, s_iteT, s_comp, s_all, s_any, s_sum, max2_ok, min2_ok, s_zipL, s_zipT, zipT_map, s_pat2, s_pat3, s_app, s_extL, s_extT, s_count, s_atR, s_atC0, s_atC1, s_atC2, s_in_nats, s_nin_nats, List.map_map, Function.comp_apply, Bool.false_eq_true, if_true, if_false, ↓reduceIte, Bool.not_true, Bool.not_false, Bool.and_true, Bool.true_and, Bool.or_false, Bool.false_or, Bool.and_false, Bool.false_and, Bool.or_true, Bool.true_or, decide_true, decide_false, ob_some, ob_none, ob_bnd, ob_bind, ob_map, ob_op2l, ob_op2r, ob_cmpl, ob_cmpr, ob_consl, ob_consr, ob_tup, ob_lst, ob_bc, ob_ixl, ob_ixr, ob_retF, ob_neg, ob_notM, ob_val, ob_not, ob_and, ob_or, ob_ifM, ob_elt, ob_iteF, ob_it, ob_for, ob_comp, ob_app, ob_own, ob_parl, ob_parr, ob_enum, ob_aug2l, ob_aug2r, ob_dsetl, ob_dsetr, ob_mul, ob_div, ob_mod, ob_rng1, ob_rng2, ob_compM, ob_addL, ob_appM, ob_at, rD_0, rD_1, h]
end Lw

namespace Lw
open PySem PySem.Spec PyProof.Rows L2 Sn
def sumF (a b : R) : Option R := (wmul a.1 b.2).bind fun x => (wmul b.1 a.2).bind fun y => (wmul a.2 b.2).bind fun z => lowF (x + y) z
def timF (a b : R) : Option R := (wmul a.1 b.1).bind fun x => (wmul a.2 b.2).bind fun y => lowF x y
def lplF (a b : R) : Option R := (wmul a.1 b.2).bind fun x => (wmul b.1 a.2).bind fun y => (wmul a.2 b.2).bind fun z => ratF (x + y) z
theorem part_sum_ok (a b : R) : m_part_sum [rD a, rD b] = obind (sumF a b) fun r => ret (rD r) := by
  show bnd (b_part_sum (rD a) (rD b)) endF = _
  unfold b_part_sum sumF
  unfold rD
  simp (disch := (first | assumption | (refine InP.mem ?_; assumption) | omega | solve_by_elim | (simp only [InP, decide_eq_true_eq, List.map_id', List.length_map, List.length_cons, List.length_nil, List.length_append, List.length_range, List.length_zip, List.length_tail, List.length_take, List.length_drop, rI_len, rng_len, mem_rI, List.mem_range] at *; omega) | (simp only [List.map_id']; assumption) | simp)) only [r_bnd, r_lift, r_op2, r_cmpT, r_asB, r_asI, r_valT, r_tru_bl, r_tru_int, r_tru_lst, r_tru_tup, r_tru_non, r_notT, r_andTt, r_andTf, r_andT, r_orTt, r_orTf, r_orT, r_andMt, r_andMf, r_andM, r_orMt, r_orMf, r_orM, r_notM, r_negM, r_negD, r_ifM, r_consM, r_tupM, r_lstM, r_tup0, r_tup1, r_tup2, r_tup3, r_tup4, r_tup5, r_tup6, r_lst0, r_lst1, r_lst2, r_lst3, r_lst4, r_lst5, r_bcM, r_lenT, r_lenL, List.length_map, r_tupT, r_tupL, r_lstT, r_lstL, r_int, r_ixM, r_ixT, r_ixL, r_ptM, r_slM, r_slT, r_slL, r_itT, r_itL, r_isi, r_add, r_sub, r_lt, r_le, r_gt, r_ge, r_isN, r_isntN, r_isB, r_isntB, nonNon, nonI, nonT, nonL, nonB, nonS, r_retF, r_endR, r_endN, r_iteF, r_seqN, r_seqR, r_seqB, r_seqC, r_forM, r_own, r_ownd, r_par, r_parN, r_parNN, r_eltT, r_eltF, r_elt, r_eq, r_ne, r_eqb, r_neb, compG_ret, compG_none, compG_retIf, compG_filt, eltM_ret, forL_G, forG_unit, forG_find, chainM_ret, chainT_ret, s_iteB, s_iteT, s_comp, s_all, s_any, s_sum, max2_ok, min2_ok, s_zipL, s_zipT, zipT_map, s_pat2, s_pat3, s_app, s_extL, s_extT, s_count, s_atR, s_atC0, s_atC1, s_atC2, s_in_nats, s_nin_nats, List.map_map, Function.comp_apply, Bool.false_eq_true, if_true, if_false, ↓reduceIte, Bool.not_true, Bool.not_false, Bool.and_true, Bool.true_and, Bool.or_false, Bool.false_or, Bool.and_false, Bool.false_and, Bool.or_true, Bool.true_or, decide_true, decide_false, ob_some, ob_none, ob_bnd, ob_bind, ob_map, ob_op2l, ob_op2r, ob_cmpl, ob_cmpr, ob_consl, ob_consr, ob_tup, ob_lst, ob_bc, ob_ixl, ob_ixr, ob_retF, ob_neg, ob_notM, ob_val, ob_not, ob_and, ob_or, ob_ifM, ob_elt, ob_iteF, ob_it, ob_for, ob_comp, ob_app, ob_own, ob_parl, ob_parr, ob_enum, ob_aug2l, ob_aug2r, ob_dsetl, ob_dsetr, ob_mul, ob_div, ob_mod, ob_rng1, ob_rng2, ob_compM, ob_addL, ob_appM, ob_at, rD_0, rD_1, low_terms_ok, rD]
theorem part_times_ok (a b : R) : m_part_times [rD a, rD b] = obind (timF a b) fun r => ret (rD r) := by
  show bnd (b_part_times (rD a) (rD b)) endF = _
  unfold b_part_times timF
  unfold rD
  simp (disch := (first | assumption | (refine InP.mem ?_; assumption) | omega | solve_by_elim | (simp only [InP, decide_eq_true_eq, List.map_id', List.length_map, List.length_cons, List.length_nil, List.length_append, List.length_range, List.length_zip, List.length_tail, List.length_take, List.length_drop, rI_len, rng_len, mem_rI, List.mem_range] at *; omega) | (simp only [List.map_id']; assumption) | simp)) only [r_bnd, r_lift, r_op2, r_cmpT, r_asB, r_asI, r_valT, r_tru_bl, r_tru_int, r_tru_lst, r_tru_tup, r_tru_non, r_notT, r_andTt, r_andTf, r_andT, r_orTt, r_orTf, r_orT, r_andMt, r_andMf, r_andM, r_orMt, r_orMf, r_orM, r_notM, r_negM, r_negD, r_ifM, r_consM, r_tupM, r_lstM, r_tup0, r_tup1, r_tup2, r_tup3, r_tup4, r_tup5, r_tup6, r_lst0, r_lst1, r_lst2, r_lst3, r_lst4, r_lst5, r_bcM, r_lenT, r_lenL, List.length_map, r_tupT, r_tupL, r_lstT, r_lstL, r_int, r_ixM, r_ixT, r_ixL, r_ptM, r_slM, r_slT, r_slL, r_itT, r_itL, r_isi, r_add, r_sub, r_lt, r_le, r_gt, r_ge, r_isN, r_isntN, r_isB, r_isntB, nonNon, nonI, nonT, nonL, nonB, nonS, r_retF, r_endR, r_endN, r_iteF, r_seqN, r_seqR, r_seqB, r_seqC, r_forM, r_own, r_ownd, r_par, r_parN, r_parNN, r_eltT, r_eltF, r_elt, r_eq, r_ne, r_eqb, r_neb, compG_ret, compG_none, compG_retIf, compG_filt, eltM_ret, forL_G, forG_unit, forG_find, chainM_ret, chainT_ret, s_iteB, s_iteT, s_comp, s_all, s_any, s_sum, max2_ok, min2_ok, s_zipL, s_zipT, zipT_map, s_pat2, s_pat3, s_app, s_extL, s_extT, s_count, s_atR, s_atC0, s_atC1, s_atC2, s_in_nats, s_nin_nats, List.map_map, Function.comp_apply, Bool.false_eq_true, if_true, if_false, ↓reduceIte, Bool.not_true, Bool.not_false, Bool.and_true, Bool.true_and, Bool.or_false, Bool.false_or, Bool.and_false, Bool.false_and, Bool.or_true, Bool.true_or, decide_true, decide_false, ob_some, ob_none, ob_bnd, ob_bind, ob_map, ob_op2l, ob_op2r, ob_cmpl, ob_cmpr, ob_consl, ob_consr, ob_tup, ob_lst, ob_bc, ob_ixl, ob_ixr, ob_retF, ob_neg, ob_notM, ob_val, ob_not, ob_and, ob_or, ob_ifM, ob_elt, ob_iteF, ob_it, ob_for, ob_comp, ob_app, ob_own, ob_parl, ob_parr, ob_enum, ob_aug2l, ob_aug2r, ob_dsetl, ob_dsetr, ob_mul, ob_div, ob_mod, ob_rng1, ob_rng2, ob_compM, ob_addL, ob_appM, ob_at, rD_0, rD_1, low_terms_ok, rD]
theorem law_plus_ok (a b : R) : m__law_plus [rD a, rD b] = obind (lplF a b) fun r => ret (rD r) := by
  show bnd (b__law_plus (rD a) (rD b)) endF = _
  unfold b__law_plus lplF
  unfold rD
  simp (disch := (first | assumption | (refine InP.mem ?_; assumption) | omega | solve_by_elim | (simp only [InP, decide_eq_true_eq, List.map_id', List.length_map, List.length_cons, List.length_nil, List.length_append, List.length_range, List.length_zip, List.length_tail, List.length_take, List.length_drop, rI_len, rng_len, mem_rI, List.mem_range] at *; omega) | (simp only [List.map_id']; assumption) | simp)) only [r_bnd, r_lift, r_op2, r_cmpT, r_asB, r_asI, r_valT, r_tru_bl, r_tru_int, r_tru_lst, r_tru_tup, r_tru_non, r_notT, r_andTt, r_andTf, r_andT, r_orTt, r_orTf, r_orT, r_andMt, r_andMf, r_andM, r_orMt, r_orMf, r_orM, r_notM, r_negM, r_negD, r_ifM, r_consM, r_tupM, r_lstM, r_tup0, r_tup1, r_tup2, r_tup3, r_tup4, r_tup5, r_tup6, r_lst0, r_lst1, r_lst2, r_lst3, r_lst4, r_lst5, r_bcM, r_lenT, r_lenL, List.length_map, r_tupT, r_tupL, r_lstT, r_lstL, r_int, r_ixM, r_ixT, r_ixL, r_ptM, r_slM, r_slT, r_slL, r_itT, r_itL, r_isi, r_add, r_sub, r_lt, r_le, r_gt, r_ge, r_isN, r_isntN, r_isB, r_isntB, nonNon, nonI, nonT, nonL, nonB, nonS, r_retF, r_endR, r_endN, r_iteF, r_seqN, r_seqR, r_seqB, r_seqC, r_forM, r_own, r_ownd, r_par, r_parN, r_parNN, r_eltT, r_eltF, r_elt, r_eq, r_ne, r_eqb, r_neb, compG_ret, compG_none, compG_retIf, compG_filt, eltM_ret, forL_G, forG_unit, forG_find, chainM_ret, chainT_ret, s_iteB, s_iteT, s_comp, s_all, s_any, s_sum, max2_ok, min2_ok, s_zipL, s_zipT, zipT_map, s_pat2, s_pat3, s_app, s_extL, s_extT, s_count, s_atR, s_atC0, s_atC1, s_atC2, s_in_nats, s_nin_nats, List.map_map, Function.comp_apply, Bool.false_eq_true, if_true, if_false, ↓reduceIte, Bool.not_true, Bool.not_false, Bool.and_true, Bool.true_and, Bool.or_false, Bool.false_or, Bool.and_false, Bool.false_and, Bool.or_true, Bool.true_or, decide_true, decide_false, ob_some, ob_none, ob_bnd, ob_bind, ob_map, ob_op2l, ob_op2r, ob_cmpl, ob_cmpr, ob_consl, ob_consr, ob_tup, ob_lst, ob_bc, ob_ixl, ob_ixr, ob_retF, ob_neg, ob_notM, ob_val, ob_not, ob_and, ob_or, ob_ifM, ob_elt, ob_iteF, ob_it, ob_for, ob_comp, ob_app, ob_own, ob_parl, ob_parr, ob_enum, ob_aug2l, ob_aug2r, ob_dsetl, ob_dsetr, ob_mul, ob_div, ob_mod, ob_rng1, ob_rng2, ob_compM, ob_addL, ob_appM, ob_at, rD_0, rD_1, law_ratio_ok, rD]
/-- sums of ratios -/
def lsumF (rs : List R) : Option R := foldO lplF (0, 1) rs
theorem law_sum_lst (rs : List R) (d : D) (hd : itM (ret d : M Bx D) = ret (rs.map rD)) : m__law_sum [d] = obind (lsumF rs) fun r => ret (rD r) := by
  show bnd (b__law_sum d) endF = _
  unfold b__law_sum lsumF
  rw [hd]
  simp (disch := (first | assumption | (refine InP.mem ?_; assumption) | omega | solve_by_elim | (simp only [InP, decide_eq_true_eq, List.map_id', List.length_map, List.length_cons, List.length_nil, List.length_append, List.length_range, List.length_zip, List.length_tail, List.length_take, List.length_drop, rI_len, rng_len, mem_rI, List.mem_range] at *; omega) | (simp only [List.map_id']; assumption) | simp)) only [r_bnd, r_lift, r_op2, r_cmpT, r_asB, r_asI, r_valT, r_tru_bl, r_tru_int, r_tru_lst, r_tru_tup, r_tru_non, r_notT, r_andTt, r_andTf, r_andT, r_orTt, r_orTf, r_orT, r_andMt, r_andMf, r_andM, r_orMt, r_orMf, r_orM, r_notM, r_negM, r_negD, r_ifM, r_consM, r_tupM, r_lstM, r_tup0, r_tup1, r_tup2, r_tup3, r_tup4, r_tup5, r_tup6, r_lst0, r_lst1, r_lst2, r_lst3, r_lst4, r_lst5, r_bcM, r_lenT, r_lenL, List.length_map, r_tupT, r_tupL, r_lstT, r_lstL, r_int, r_ixM, r_ixT, r_ixL, r_ptM, r_slM, r_slT, r_slL, r_itT, r_itL, r_isi, r_add, r_sub, r_lt, r_le, r_gt, r_ge, r_isN, r_isntN, r_isB, r_isntB, nonNon, nonI, nonT, nonL, nonB, nonS, r_retF, r_endR, r_endN, r_iteF, r_seqN, r_seqR, r_seqB, r_seqC, r_forM, r_own, r_ownd, r_par, r_parN, r_parNN, r_eltT, r_eltF, r_elt, r_eq, r_ne, r_eqb, r_neb, compG_ret, compG_none, compG_retIf, compG_filt, eltM_ret, forL_G, forG_unit, forG_find, chainM_ret, chainT_ret, s_iteB, s_iteT, s_comp, s_all, s_any, s_sum, max2_ok, min2_ok, s_zipL, s_zipT, zipT_map, s_pat2, s_pat3, s_app, s_extL, s_extT, s_count, s_atR, s_atC0, s_atC1, s_atC2, s_in_nats, s_nin_nats, List.map_map, Function.comp_apply, Bool.false_eq_true, if_true, if_false, ↓reduceIte, Bool.not_true, Bool.not_false, Bool.and_true, Bool.true_and, Bool.or_false, Bool.false_or, Bool.and_false, Bool.false_and, Bool.or_true, Bool.true_or, decide_true, decide_false, ob_some, ob_none, ob_bnd, ob_bind, ob_map, ob_op2l, ob_op2r, ob_cmpl, ob_cmpr, ob_consl, ob_consr, ob_tup, ob_lst, ob_bc, ob_ixl, ob_ixr, ob_retF, ob_neg, ob_notM, ob_val, ob_not, ob_and, ob_or, ob_ifM, ob_elt, ob_iteF, ob_it, ob_for, ob_comp, ob_app, ob_own, ob_parl, ob_parr, ob_enum, ob_aug2l, ob_aug2r, ob_dsetl, ob_dsetr, ob_mul, ob_div, ob_mod, ob_rng1, ob_rng2, ob_compM, ob_addL, ob_appM, ob_at, rD_0, rD_1]
  rw [forG_E, show D.tup [.int 0, .int 1] = rD (0, 1) from rfl, forE_O rD lplF (fun s x _ => by simp (disch := (first | assumption | (refine InP.mem ?_; assumption) | omega | solve_by_elim | (simp only [InP, decide_eq_true_eq, List.map_id', List.length_map, List.length_cons, List.length_nil, List.length_append, List.length_range, List.length_zip, List.length_tail, List.length_take, List.length_drop, rI_len, rng_len, mem_rI, List.mem_range] at *; omega) | (simp only [List.map_id']; assumption) | simp)) only [r_bnd, r_lift, r_op2, r_cmpT, r_asB, r_asI, r_valT, r_tru_bl, r_tru_int, r_tru_lst, r_tru_tup, r_tru_non, r_notT, r_andTt, r_andTf, r_andT, r_orTt, r_orTf, r_orT, r_andMt, r_andMf, r_andM, r_orMt, r_orMf, r_orM, r_notM, r_negM, r_negD, r_ifM, r_consM, r_tupM, r_lstM, r_tup0, r_tup1, r_tup2, r_tup3, r_tup4, r_tup5, r_tup6, r_lst0, r_lst1, r_lst2, r_lst3, r_lst4, r_lst5, r_bcM, r_lenT, r_lenL, List.length_map, r_tupT, r_tupL, r_lstT, r_lstL, r_int, r_ixM, r_ixT, r_ixL, r_ptM, r_slM, r_slT, r_slL, r_itT, r_itL, r_isi, r_add, r_sub, r_lt, r_le, r_gt, r_ge, r_isN, r_isntN, r_isB, r_isntB, nonNon, nonI, nonT, nonL, nonB, nonS, r_retF, r_endR, r_endN, r_iteF, r_seqN, r_seqR, r_seqB, r_seqC, r_forM, r_own, r_ownd, r_par, r_parN, r_parNN, r_eltT, r_eltF, r_elt, r_eq, r_ne, r_eqb, r_neb, compG_ret, compG_none, compG_retIf, compG_filt, eltM_ret, forL_G, forG_unit, forG_find, chainM_ret, chainT_ret, s_iteB, s_iteT, s_comp, s_all, s_any, s_sum, max2_ok, min2_ok, s_zipL, s_zipT, zipT_map, s_pat2, s_pat3, s_app, s_extL, s_extT, s_count, s_atR, s_atC0, s_atC1, s_atC2, s_in_nats, s_nin_nats, List.map_map, Function.comp_apply, Bool.false_eq_true, if_true, if_false, ↓reduceIte, Bool.not_true, Bool.not_false, Bool.and_true, Bool.true_and, Bool.or_false, Bool.false_or, Bool.and_false, Bool.false_and, Bool.or_true, Bool.true_or, decide_true, decide_false, ob_some, ob_none, ob_bnd, ob_bind, ob_map, ob_op2l, ob_op2r, ob_cmpl, ob_cmpr, ob_consl, ob_consr, ob_tup, ob_lst, ob_bc, ob_ixl, ob_ixr, ob_retF, ob_neg, ob_notM, ob_val, ob_not, ob_and, ob_or, ob_ifM, ob_elt, ob_iteF, ob_it, ob_for, ob_comp, ob_app, ob_own, ob_parl, ob_parr, ob_enum, ob_aug2l, ob_aug2r, ob_dsetl, ob_dsetr, ob_mul, ob_div, ob_mod, ob_rng1, ob_rng2, ob_compM, ob_addL, ob_appM, ob_at, rD_0, rD_1, law_plus_ok])]
  simp (disch := (first | assumption | (refine InP.mem ?_; assumption) | omega | solve_by_elim | (simp only [InP, decide_eq_true_eq, List.map_id', List.length_map, List.length_cons, List.length_nil, List.length_append, List.length_range, List.length_zip, List.length_tail, List.length_take, List.length_drop, rI_len, rng_len, mem_rI, List.mem_range] at *; omega) | (simp only [List.map_id']; assumption) | simp)) only [r_bnd, r_lift, r_op2, r_cmpT, r_asB, r_asI, r_valT, r_tru_bl, r_tru_int, r_tru_lst, r_tru_tup, r_tru_non, r_notT, r_andTt, r_andTf, r_andT, r_orTt, r_orTf, r_orT, r_andMt, r_andMf, r_andM, r_orMt, r_orMf, r_orM, r_notM, r_negM, r_negD, r_ifM, r_consM, r_tupM, r_lstM, r_tup0, r_tup1, r_tup2, r_tup3, r_tup4, r_tup5, r_tup6, r_lst0, r_lst1, r_lst2, r_lst3, r_lst4, r_lst5, r_bcM, r_lenT, r_lenL, List.length_map, r_tupT, r_tupL, r_lstT, r_lstL, r_int, r_ixM, r_ixT, r_ixL, r_ptM, r_slM, r_slT, r_slL, r_itT, r_itL, r_isi, r_add, r_sub, r_lt, r_le, r_gt, r_ge, r_isN, r_isntN, r_isB, r_isntB, nonNon, nonI, nonT, nonL, nonB, nonS, r_retF, r_endR, r_endN, r_iteF, r_seqN, r_seqR, r_seqB, r_seqC, r_forM, r_own, r_ownd, r_par, r_parN, r_parNN, r_eltT, r_eltF, r_elt, r_eq, r_ne, r_eqb, r_neb, compG_ret, compG_none, compG_retIf, compG_filt, eltM_ret, forL_G, forG_unit, forG_find, chainM_ret, chainT_ret, s_iteB, s_iteT, s_comp, s_all, s_any, s_sum, max2_ok, min2_ok, s_zipL, s_zipT, zipT_map, s_pat2, s_pat3, s_app, s_extL, s_extT, s_count, s_atR, s_atC0, s_atC1, s_atC2, s_in_nats, s_nin_nats, List.map_map, Function.comp_apply, Bool.false_eq_true, if_true, if_false, ↓reduceIte, Bool.not_true, Bool.not_false, Bool.and_true, Bool.true_and, Bool.or_false, Bool.false_or, Bool.and_false, Bool.false_and, Bool.or_true, Bool.true_or, decide_true, decide_false, ob_some, ob_none, ob_bnd, ob_bind, ob_map, ob_op2l, ob_op2r, ob_cmpl, ob_cmpr, ob_consl, ob_consr, ob_tup, ob_lst, ob_bc, ob_ixl, ob_ixr, ob_retF, ob_neg, ob_notM, ob_val, ob_not, ob_and, ob_or, ob_ifM, ob_elt, ob_iteF, ob_it, ob_for, ob_comp, ob_app, ob_own, ob_parl, ob_parr, ob_enum, ob_aug2l, ob_aug2r, ob_dsetl, ob_dsetr, ob_mul, ob_div, ob_mod, ob_rng1, ob_rng2, ob_compM, ob_addL, ob_appM, ob_at, rD_0, rD_1]
theorem law_less_ok (a b : R) : m__law_less [rD a, rD b] = obind ((wmul a.1 b.2).bind fun x => (wmul b.1 a.2).map fun y => decide (x < y)) fun t => ret (.bl t) := by
  show bnd (b__law_less (rD a) (rD b)) endF = _
  unfold b__law_less
  unfold rD
  simp (disch := (first | assumption | (refine InP.mem ?_; assumption) | omega | solve_by_elim | (simp only [InP, decide_eq_true_eq, List.map_id', List.length_map, List.length_cons, List.length_nil, List.length_append, List.length_range, List.length_zip, List.length_tail, List.length_take, List.length_drop, rI_len, rng_len, mem_rI, List.mem_range] at *; omega) | (simp only [List.map_id']; assumption) | simp)) only [r_bnd, r_lift, r_op2, r_cmpT, r_asB, r_asI, r_valT, r_tru_bl, r_tru_int, r_tru_lst, r_tru_tup, r_tru_non, r_notT, r_andTt, r_andTf, r_andT, r_orTt, r_orTf, r_orT, r_andMt, r_andMf, r_andM, r_orMt, r_orMf, r_orM, r_notM, r_negM, r_negD, r_ifM, r_consM, r_tupM, r_lstM, r_tup0, r_tup1, r_tup2, r_tup3, r_tup4, r_tup5, r_tup6, r_lst0, r_lst1, r_lst2, r_lst3, r_lst4, r_lst5, r_bcM, r_lenT, r_lenL, List.length_map, r_tupT, r_tupL, r_lstT, r_lstL, r_int, r_ixM, r_ixT, r_ixL, r_ptM, r_slM, r_slT, r_slL, r_itT, r_itL, r_isi, r_add, r_sub, r_lt, r_le, r_gt, r_ge, r_isN, r_isntN, r_isB, r_isntB, nonNon, nonI, nonT, nonL, nonB, nonS, r_retF, r_endR, r_endN, r_iteF, r_seqN, r_seqR, r_seqB, r_seqC, r_forM, r_own, r_ownd, r_par, r_parN, r_parNN, r_eltT, r_eltF, r_elt, r_eq, r_ne, r_eqb, r_neb, compG_ret, compG_none, compG_retIf, compG_filt, eltM_ret, forL_G, forG_unit, forG_find, chainM_ret, chainT_ret, s_iteB, s_iteT, s_comp, s_all, s_any, s_sum, max2_ok, min2_ok, s_zipL, s_zipT, zipT_map, s_pat2, s_pat3, s_app, s_extL, s_extT, s_count, s_atR, s_atC0, s_atC1, s_atC2, s_in_nats, s_nin_nats, List.map_map, Function.comp_apply, Bool.false_eq_true, if_true, if_false, ↓reduceIte, Bool.not_true, Bool.not_false, Bool.and_true, Bool.true_and, Bool.or_false, Bool.false_or, Bool.and_false, Bool.false_and, Bool.or_true, Bool.true_or, decide_true, decide_false, ob_some, ob_none, ob_bnd, ob_bind, ob_map, ob_op2l, ob_op2r, ob_cmpl, ob_cmpr, ob_consl, ob_consr, ob_tup, ob_lst, ob_bc, ob_ixl, ob_ixr, ob_retF, ob_neg, ob_notM, ob_val, ob_not, ob_and, ob_or, ob_ifM, ob_elt, ob_iteF, ob_it, ob_for, ob_comp, ob_app, ob_own, ob_parl, ob_parr, ob_enum, ob_aug2l, ob_aug2r, ob_dsetl, ob_dsetr, ob_mul, ob_div, ob_mod, ob_rng1, ob_rng2, ob_compM, ob_addL, ob_appM, ob_at, rD_0, rD_1, rD]
end Lw

namespace Sn
open PySem PySem.Spec PyProof.Rows L2
/-! ### dicts with int keys, typed -/
section
variable {S : Type} {α β : Type} {τ l : Type}
def iD (e : α → D) (ds : List (Int × α)) : D := .dct (ds.map fun p => (.int p.1, e p.2))
def dgI (ds : List (Int × α)) (k : Int) : Option α := (ds.find? fun p => decide (p.1 = k)).map (·.2)
def dpI (ds : List (Int × α)) (k : Int) (v : α) : List (Int × α) := if (ds.any fun p => decide (p.1 = k)) = true then ds.map (fun p => if p.1 = k then (p.1, v) else p) else ds ++ [(k, v)]
def dsO (ds : List (Int × α)) (k : Int) (v : α) : Option (List (Int × α)) := if ds.length < 16777216 then some (dpI ds k v) else none
theorem kq_int (i k : Int) : decide (kq (.int i) = some (.inl k)) = decide (i = k) := by
  rw [decide_eq_decide]
  exact ⟨fun h => by cases h; rfl, fun h => by rw [h]; rfl⟩
theorem dget_iD (e : α → D) (k : Int) : ∀ ds : List (Int × α), dget (ds.map fun p => (.int p.1, e p.2)) (.inl k) = (dgI ds k).map e
  | [] => rfl
  | p :: ds => by
    have ih := dget_iD e k ds
    unfold dget dgI at ih ⊢
    rw [List.map_cons, List.find?_cons, List.find?_cons, kq_int]
    cases decide (p.1 = k)
    · exact ih
    · rfl
theorem dput_iD (e : α → D) (k : Int) (v : α) (ds : List (Int × α)) : dput (ds.map fun p => (.int p.1, e p.2)) (.inl k) (e v) = (dpI ds k v).map fun p => (.int p.1, e p.2) := by
  unfold dput dpI
  have h : ((ds.map fun p => (D.int p.1, e p.2)).any fun p => decide (kq p.1 = some (.inl k))) = ds.any fun p => decide (p.1 = k) := by
    rw [List.any_map]
    congr 1
    funext p
    exact kq_int p.1 k
  rw [h]
  split
  · rw [List.map_map, List.map_map]
    apply List.map_congr_left
    intro p _
    show (if kq (D.int p.1) = some (.inl k) then (D.int p.1, e v) else (D.int p.1, e p.2)) = _
    by_cases hp : p.1 = k
    · rw [if_pos (by rw [hp]; rfl)]
      simp [hp]
    · rw [if_neg (fun q => hp (by cases q; rfl))]
      simp [hp]
  · rw [List.map_append]; rfl
theorem ob_ix2 (e : α → D) (ds : List (Int × α)) (k : Int) : ix2M (ret (iD e ds) : M S D) (ret (.int k)) = obind (dgI ds k) fun v => ret (e v) := by
  show lift ((kq (.int k)).bind (dget (ds.map fun p => (.int p.1, e p.2)))) = _
  show lift (dget (ds.map fun p => (.int p.1, e p.2)) (.inl k)) = _
  rw [dget_iD]
  cases dgI ds k <;> rfl
theorem ob_get2 (e : α → D) (ds : List (Int × α)) (k : Int) (z : α) : get2M (ret (iD e ds) : M S D) (ret (.int k)) (ret (e z)) = ret (e ((dgI ds k).getD z)) := by
  show lift (some ((dget (ds.map fun p => (.int p.1, e p.2)) (.inl k)).getD (e z))) = _
  rw [dget_iD]
  cases dgI ds k <;> rfl
theorem ob_dset (e : α → D) (ds : List (Int × α)) (k : Int) (v : α) (K : D → M S (Fl τ l)) : dsetM (iD e ds) (ret (e v)) (ret (.int k)) K = obind (dsO ds k v) fun ds => K (iD e ds) := by
  show bnd (lift (if (ds.map fun p => (D.int p.1, e p.2)).length < sizeLine then some (.dct (dput (ds.map fun p => (D.int p.1, e p.2)) (.inl k) (e v))) else none)) K = _
  unfold dsO
  rw [List.length_map, sizeLine_eq, dput_iD]
  split <;> rfl
theorem ob_d1 (e : α → D) (k : Int) (v : α) : d1M (ret (.int k) : M S D) (ret (e v)) = ret (iD e [(k, v)]) := (rfl)
theorem ob_ownd (e : α → D) (ds : List (Int × α)) (k : D → M S (Fl τ l)) : ownM (ret (iD e ds)) k = k (iD e ds) := (rfl)
def dnI (i j : Int) : List Int := (List.range (i - j).toNat).map fun k : Nat => i - (k : Int)
def rg3 (i j : Int) : Option (List Int) := if -(2 ^ 62) ≤ i ∧ i < 2 ^ 62 ∧ -(2 ^ 62) ≤ j ∧ j < 2 ^ 62 then some (dnI i j) else none
theorem ob_rng3 (i j : Int) : rng3M (ret (.int i) : M S D) (ret (.int j)) (ret (.int (-1))) = obind (rg3 i j) fun xs => ret (xs.map .int) := by
  show (if -(2 ^ 62) ≤ i ∧ i < 2 ^ 62 ∧ -(2 ^ 62) ≤ j ∧ j < 2 ^ 62 ∧ (-1 : Int) = -1 then ret (rngDn i j) else stuck : M S (List D)) = obind (if -(2 ^ 62) ≤ i ∧ i < 2 ^ 62 ∧ -(2 ^ 62) ≤ j ∧ j < 2 ^ 62 then some (dnI i j) else none) _
  have e : rngDn i j = (dnI i j).map .int := by unfold rngDn dnI; rw [List.map_map]; rfl
  rw [e]
  by_cases h : -(2 ^ 62) ≤ i ∧ i < 2 ^ 62 ∧ -(2 ^ 62) ≤ j ∧ j < 2 ^ 62
  · rw [if_pos ⟨h.1, h.2.1, h.2.2.1, h.2.2.2, rfl⟩, if_pos h]; rfl
  · rw [if_neg fun q => h ⟨q.1, q.2.1, q.2.2.1, q.2.2.2.1⟩, if_neg h]; rfl
theorem ob_rng3l (o : Option α) (f : α → M S D) (mb mc : M S D) : rng3M (obind o f) mb mc = obind o fun a => rng3M (f a) mb mc := by cases o <;> rfl
theorem ob_ix2r (x : D) (o : Option α) (f : α → M S D) : ix2M (ret x) (obind o f) = obind o fun a => ix2M (ret x) (f a) := by cases o <;> rfl
end
end Sn

namespace Lw
open PySem PySem.Spec PyProof.Rows L2 Sn
/-! ### ratios of natural numbers -/
abbrev Rr := Int × Int
def low (p q : Nat) : Rr := (((p / Nat.gcd p q : Nat) : Int), ((q / Nat.gcd p q : Nat) : Int))
def N6 : Nat := 1500
theorem low_of {p q : Nat} (hq : 0 < q) : ∃ g a b : Nat, low p q = ((a : Int), (b : Int)) ∧ p = g * a ∧ q = g * b ∧ 0 < g ∧ 0 < b ∧ Nat.gcd a b = 1 := by
  have hg : 0 < Nat.gcd p q := Nat.gcd_pos_of_pos_right _ hq
  obtain ⟨a, ha⟩ := Nat.gcd_dvd_left p q
  obtain ⟨b, hb⟩ := Nat.gcd_dvd_right p q
  have ea : p / Nat.gcd p q = a := Nat.div_eq_of_eq_mul_right hg ha
  have eb : q / Nat.gcd p q = b := Nat.div_eq_of_eq_mul_right hg hb
  refine ⟨Nat.gcd p q, a, b, ?_, ha, hb, hg, ?_, ?_⟩
  · unfold low
    rw [ea, eb]
  · rcases Nat.eq_zero_or_pos b with e | e
    · rw [e, Nat.mul_zero] at hb; omega
    · exact e
  · rw [← ea, ← eb]
    exact Nat.coprime_div_gcd_div_gcd hg
theorem low_eq_of {p q p' q' : Nat} (hq : 0 < q) (hq' : 0 < q') (h : p * q' = p' * q) : low p q = low p' q' := by
  obtain ⟨g, a, b, e, h1, h2, h3, h4, h5⟩ := low_of (p := p) hq
  obtain ⟨g', a', b', e', h1', h2', h3', h4', h5'⟩ := low_of (p := p') hq'
  have hab : a * b' = a' * b := by
    have : (g * g') * (a * b') = (g * g') * (a' * b) := by
      have e1 : p * q' = (g * g') * (a * b') := by rw [h1, h2']; ac_rfl
      have e2 : p' * q = (g * g') * (a' * b) := by rw [h1', h2]; ac_rfl
      rw [← e1, ← e2, h]
    exact Nat.eq_of_mul_eq_mul_left (Nat.mul_pos h3 h3') this
  have d1 : b ∣ b' := (Nat.Coprime.dvd_of_dvd_mul_left (Nat.coprime_comm.mp h5 : Nat.Coprime b a) ⟨a', by rw [hab, Nat.mul_comm]⟩)
  have d2 : b' ∣ b := (Nat.Coprime.dvd_of_dvd_mul_left (Nat.coprime_comm.mp h5' : Nat.Coprime b' a') ⟨a, by rw [← hab, Nat.mul_comm]⟩)
  have eb : b = b' := Nat.dvd_antisymm d1 d2
  have ea : a = a' := by rw [eb] at hab; exact Nat.eq_of_mul_eq_mul_right h4' hab
  rw [e, e', ea, eb]
theorem low_le {p q a b : Nat} (hq : 0 < q) (h : low p q = ((a : Int), (b : Int))) : a ≤ p ∧ b ≤ q ∧ 0 < b ∧ a * q = p * b := by
  obtain ⟨g, a', b', e, h1, h2, h3, h4, h5⟩ := low_of (p := p) hq
  rw [e, Prod.mk.injEq] at h
  have ea : a' = a := by omega
  have eb : b' = b := by omega
  subst ea; subst eb
  refine ⟨?_, ?_, h4, ?_⟩
  · rw [h1]; exact Nat.le_mul_of_pos_left _ h3
  · rw [h2]; exact Nat.le_mul_of_pos_left _ h3
  · rw [h1, h2]; ac_rfl
theorem low_nat {p q : Nat} (hq : 0 < q) : ∃ a b : Nat, low p q = ((a : Int), (b : Int)) := ⟨_, _, rfl⟩
theorem fine_nat {p q : Nat} (hq : 0 < q) (h1 : p < 2 ^ 4000) (h2 : q < 2 ^ 4000) : fine (p : Int) (q : Int) = true := by
  unfold fine
  simp only [Int.natAbs_natCast, Bool.and_eq_true, decide_eq_true_eq]
  exact ⟨⟨by omega, h1⟩, h2⟩
theorem lowF_nat {p q : Nat} (hq : 0 < q) (h1 : p < 2 ^ 4000) (h2 : q < 2 ^ 4000) : lowF (p : Int) (q : Int) = some (low p q) := by
  unfold lowF
  rw [if_pos (fine_nat hq h1 h2), Int.natAbs_natCast, Int.natAbs_natCast]
  rfl
theorem ratF_nat {p q : Nat} (hq : 0 < q) (h1 : p < 2 ^ 4000) (h2 : q < 2 ^ 4000) : ratF (p : Int) (q : Int) = some (low p q) := by
  unfold ratF
  rw [if_pos (fine_nat hq h1 h2), Int.natAbs_natCast, Int.natAbs_natCast]
  rfl
theorem wmul_nat {a b : Nat} {x y : Nat} (h1 : x < 2 ^ a) (h2 : y < 2 ^ b) (h : a + b ≤ 134217728 := by decide) : wmul (x : Int) (y : Int) = some ((x * y : Nat) : Int) := by
  unfold wmul
  rw [if_pos (mulx_ok (a := a) (b := b) (by rw [Int.natAbs_natCast]; exact h1) (by rw [Int.natAbs_natCast]; exact h2) h), Int.natCast_mul]
theorem lt_mul2 {x y a b : Nat} (h1 : x < 2 ^ a) (h2 : y < 2 ^ b) : x * y < 2 ^ (a + b) := by
  rw [Nat.pow_add]; exact Nat.mul_lt_mul'' h1 h2
/-- the sum of two ratios of one kind -/
theorem add_low {x y M : Nat} (hM : 0 < M) (h1 : x < 2 ^ 1500) (h2 : y < 2 ^ 1500) (h3 : M < 2 ^ 1500) :
    ((wmul (low x M).1 (low y M).2).bind fun s => (wmul (low y M).1 (low x M).2).bind fun t => (wmul (low x M).2 (low y M).2).bind fun z => lowF (s + t) z) = some (low (x + y) M) ∧
    ((wmul (low x M).1 (low y M).2).bind fun s => (wmul (low y M).1 (low x M).2).bind fun t => (wmul (low x M).2 (low y M).2).bind fun z => ratF (s + t) z) = some (low (x + y) M) := by
  obtain ⟨a, b, e⟩ := low_nat (p := x) hM
  obtain ⟨c, d, e'⟩ := low_nat (p := y) hM
  obtain ⟨l1, l2, l3, l4⟩ := low_le hM e
  obtain ⟨m1, m2, m3, m4⟩ := low_le hM e'
  rw [e, e']
  have w1 : wmul (a : Int) (d : Int) = some ((a * d : Nat) : Int) := wmul_nat (a := 1500) (b := 1500) (by omega) (by omega)
  have w2 : wmul (c : Int) (b : Int) = some ((c * b : Nat) : Int) := wmul_nat (a := 1500) (b := 1500) (by omega) (by omega)
  have w3 : wmul (b : Int) (d : Int) = some ((b * d : Nat) : Int) := wmul_nat (a := 1500) (b := 1500) (by omega) (by omega)
  have q1 : a * d < 2 ^ 3000 := lt_mul2 (a := 1500) (b := 1500) (by omega) (by omega)
  have q2 : c * b < 2 ^ 3000 := lt_mul2 (a := 1500) (b := 1500) (by omega) (by omega)
  have q3 : b * d < 2 ^ 3000 := lt_mul2 (a := 1500) (b := 1500) (by omega) (by omega)
  have hw : (2 : Nat) ^ 4000 = 2 ^ 1000 * 2 ^ 3000 := by rw [← Nat.pow_add]
  have hw2 : (2 : Nat) ≤ 2 ^ 1000 := by decide +kernel
  have hw3 : 2 * 2 ^ 3000 ≤ 2 ^ 4000 := by rw [hw]; exact Nat.mul_le_mul_right _ hw2
  have hpos : 0 < b * d := Nat.mul_pos l3 m3
  have hlow : low (a * d + c * b) (b * d) = low (x + y) M := low_eq_of hpos hM (by
    rw [Nat.add_mul, Nat.add_mul]
    congr 1
    · rw [show a * d * M = (a * M) * d by ac_rfl, l4]; ac_rfl
    · rw [show c * b * M = (c * M) * b by ac_rfl, m4]; ac_rfl)
  rw [w1, w2, w3]
  constructor
  · show lowF (((a * d : Nat) : Int) + ((c * b : Nat) : Int)) ((b * d : Nat) : Int) = _
    rw [← Int.natCast_add, lowF_nat hpos (by omega) (by omega), hlow]
  · show ratF (((a * d : Nat) : Int) + ((c * b : Nat) : Int)) ((b * d : Nat) : Int) = _
    rw [← Int.natCast_add, ratF_nat hpos (by omega) (by omega), hlow]
/-- y / M by T / M -/
theorem div_low {y T M : Nat} (hM : 0 < M) (hT : 0 < T) (h1 : y < 2 ^ 1500) (h2 : T < 2 ^ 1500) (h3 : M < 2 ^ 1500) :
    ((wmul (low y M).1 (low T M).2).bind fun s => (wmul (low y M).2 (low T M).1).bind fun z => lowF s z) = some (low y T) ∧
    ((wmul (low y M).1 (low T M).2).bind fun s => (wmul (low y M).2 (low T M).1).bind fun z => ratF s z) = some (low y T) := by
  obtain ⟨a, b, e⟩ := low_nat (p := y) hM
  obtain ⟨c, d, e'⟩ := low_nat (p := T) hM
  obtain ⟨l1, l2, l3, l4⟩ := low_le hM e
  obtain ⟨m1, m2, m3, m4⟩ := low_le hM e'
  rw [e, e']
  have hc : 0 < c := by
    rcases Nat.eq_zero_or_pos c with h | h
    · rw [h, Nat.zero_mul] at m4
      have := Nat.mul_pos hT m3
      omega
    · exact h
  have w1 : wmul (a : Int) (d : Int) = some ((a * d : Nat) : Int) := wmul_nat (a := 1500) (b := 1500) (by omega) (by omega)
  have w2 : wmul (b : Int) (c : Int) = some ((b * c : Nat) : Int) := wmul_nat (a := 1500) (b := 1500) (by omega) (by omega)
  have q1 : a * d < 2 ^ 3000 := lt_mul2 (a := 1500) (b := 1500) (by omega) (by omega)
  have q2 : b * c < 2 ^ 3000 := lt_mul2 (a := 1500) (b := 1500) (by omega) (by omega)
  have hw3 : (2 : Nat) ^ 3000 ≤ 2 ^ 4000 := Nat.pow_le_pow_right (by decide) (by decide)
  have hpos : 0 < b * c := Nat.mul_pos l3 hc
  have hlow : low (a * d) (b * c) = low y T := low_eq_of hpos hT (by
    have hX : (a * M) * (d * T) = (y * b) * (c * M) := by
      rw [l4, Nat.mul_comm d T, m4]
    have : M * (a * d * T) = M * (y * (b * c)) := by
      rw [show M * (a * d * T) = (a * M) * (d * T) by ac_rfl, hX]; ac_rfl
    exact Nat.eq_of_mul_eq_mul_left hM this)
  rw [w1, w2]
  constructor
  · show lowF ((a * d : Nat) : Int) ((b * c : Nat) : Int) = _
    rw [lowF_nat hpos (by omega) (by omega), hlow]
  · show ratF ((a * d : Nat) : Int) ((b * c : Nat) : Int) = _
    rw [ratF_nat hpos (by omega) (by omega), hlow]
/-- which of two is less -/
theorem cross {p q p' q' a b a' b' : Nat} (hq : 0 < q) (hq' : 0 < q') (e : low p q = ((a : Int), (b : Int))) (e' : low p' q' = ((a' : Int), (b' : Int))) : a * b' < a' * b ↔ p * q' < p' * q := by
  obtain ⟨l1, l2, l3, l4⟩ := low_le hq e
  obtain ⟨m1, m2, m3, m4⟩ := low_le hq' e'
  have h1 : (q * q') * (a * b') = (b * b') * (p * q') := by rw [show (q * q') * (a * b') = (a * q) * (b' * q') by ac_rfl, l4]; ac_rfl
  have h2 : (q * q') * (a' * b) = (b * b') * (p' * q) := by rw [show (q * q') * (a' * b) = (a' * q') * (b * q) by ac_rfl, m4]; ac_rfl
  have g1 := Nat.mul_pos hq hq'
  have g2 := Nat.mul_pos l3 m3
  constructor
  · intro h
    have := (Nat.mul_lt_mul_left g1).mpr h
    rw [h1, h2] at this
    exact (Nat.mul_lt_mul_left g2).mp this
  · intro h
    have := (Nat.mul_lt_mul_left g2).mpr h
    rw [← h1, ← h2] at this
    exact (Nat.mul_lt_mul_left g1).mp this
end Lw

namespace Lw
open PySem PySem.Spec PyProof.Rows L2 Sn
/-! ### products of chances -/
def PW : List (Nat × Nat) → Nat
  | [] => 1
  | p :: l => p.1 ^ p.2 * PW l
def CN : List (Nat × Nat) → Nat
  | [] => 0
  | p :: l => p.2 + CN l
def WS : List (Nat × Nat) → Nat
  | [] => 0
  | p :: l => p.1 + WS l
def dg (l : List (Nat × Nat)) : List (Nat × Nat) := l.map fun p => (p.2, p.2)
theorem pw_pos : ∀ {l : List (Nat × Nat)}, (∀ p ∈ l, 1 ≤ p.1) → 0 < PW l
  | [], _ => Nat.one_pos
  | p :: l, h => Nat.mul_pos (Nat.pow_pos (h p List.mem_cons_self)) (pw_pos fun q hq => h q (List.mem_cons_of_mem _ hq))
theorem pw_dbl : ∀ l : List (Nat × Nat), PW (l.map fun p => (2 * p.1, p.2)) = 2 ^ CN l * PW l
  | [] => rfl
  | p :: l => by
    rw [List.map_cons, PW, pw_dbl l, PW, CN, Nat.mul_pow, Nat.pow_add]
    ac_rfl
theorem self_pos (c : Nat) : 0 < c ^ c := by
  rcases Nat.eq_zero_or_pos c with h | h
  · subst h; decide
  · exact Nat.pow_pos h
/-! two kinds: by looking at all small ones -/
def two (w c W C : Nat) : Bool := Nat.ble (w ^ c * W ^ C * (c + C) ^ (c + C)) (c ^ c * C ^ C * (w + W) ^ (c + C))
def twoW (w : Nat) : Bool := (List.range 9).all fun c => (List.range 37).all fun W => (List.range 33).all fun C => two w c W C
theorem two_0 : twoW 0 = true := by decide +kernel
theorem two_1 : twoW 1 = true := by decide +kernel
theorem two_2 : twoW 2 = true := by decide +kernel
theorem two_3 : twoW 3 = true := by decide +kernel
theorem two_4 : twoW 4 = true := by decide +kernel
theorem two_5 : twoW 5 = true := by decide +kernel
theorem two_6 : twoW 6 = true := by decide +kernel
theorem two_7 : twoW 7 = true := by decide +kernel
theorem two_8 : twoW 8 = true := by decide +kernel
theorem two_9 : twoW 9 = true := by decide +kernel
theorem two_all : ∀ w : Nat, w ≤ 9 → twoW w = true
  | 0, _ => two_0
  | 1, _ => two_1
  | 2, _ => two_2
  | 3, _ => two_3
  | 4, _ => two_4
  | 5, _ => two_5
  | 6, _ => two_6
  | 7, _ => two_7
  | 8, _ => two_8
  | 9, _ => two_9
  | n + 10, h => absurd h (by omega)
theorem two_ok {w c W C : Nat} (h1 : w ≤ 9) (h2 : c ≤ 8) (h3 : W ≤ 36) (h4 : C ≤ 32) : w ^ c * W ^ C * (c + C) ^ (c + C) ≤ c ^ c * C ^ C * (w + W) ^ (c + C) := by
  have h := List.all_eq_true.mp (two_all w h1) c (List.mem_range.mpr (by omega))
  have h := List.all_eq_true.mp h W (List.mem_range.mpr (by omega))
  have h := List.all_eq_true.mp h C (List.mem_range.mpr (by omega))
  exact Nat.le_of_ble_eq_true h
def GoodL (l : List (Nat × Nat)) : Prop := ∀ p ∈ l, p.1 ≤ 9 ∧ p.2 ≤ 8
theorem ws_le : ∀ {l : List (Nat × Nat)}, GoodL l → WS l ≤ 9 * l.length ∧ CN l ≤ 8 * l.length
  | [], _ => ⟨Nat.le_refl _, Nat.le_refl _⟩
  | p :: l, h => by
    obtain ⟨h1, h2⟩ := ws_le (l := l) fun q hq => h q (List.mem_cons_of_mem _ hq)
    obtain ⟨h3, h4⟩ := h p List.mem_cons_self
    rw [WS, CN, List.length_cons]
    omega
/-- no weights are likelier than the counts themselves -/
theorem gibbs : ∀ {l : List (Nat × Nat)}, GoodL l → l.length ≤ 5 → PW l * CN l ^ CN l ≤ PW (dg l) * WS l ^ CN l
  | [], _, _ => Nat.le_refl _
  | p :: l, h, hl => by
    have hr : GoodL l := fun q hq => h q (List.mem_cons_of_mem _ hq)
    rw [List.length_cons] at hl
    have ih := gibbs hr (by omega)
    obtain ⟨h1, h2⟩ := ws_le hr
    obtain ⟨h3, h4⟩ := h p List.mem_cons_self
    have t := two_ok (w := p.1) (c := p.2) (W := WS l) (C := CN l) h3 h4 (by omega) (by omega)
    have hp := self_pos (CN l)
    show p.1 ^ p.2 * PW l * (p.2 + CN l) ^ (p.2 + CN l) ≤ p.2 ^ p.2 * PW (dg l) * (p.1 + WS l) ^ (p.2 + CN l)
    refine Nat.le_of_mul_le_mul_left (c := CN l ^ CN l) ?_ hp
    generalize p.1 ^ p.2 = A at *
    generalize PW l = B at *
    generalize (p.2 + CN l) ^ (p.2 + CN l) = E at *
    generalize p.2 ^ p.2 = F at *
    generalize PW (dg l) = G at *
    generalize (p.1 + WS l) ^ (p.2 + CN l) = J at *
    generalize CN l ^ CN l = K at *
    generalize WS l ^ CN l = L at *
    -- ih : B * K ≤ G * L; t : A * L * E ≤ F * K * J
    calc K * (A * B * E) = (A * E) * (B * K) := by ac_rfl
      _ ≤ (A * E) * (G * L) := Nat.mul_le_mul_left _ ih
      _ = G * (A * L * E) := by ac_rfl
      _ ≤ G * (F * K * J) := Nat.mul_le_mul_left _ t
      _ = K * (F * G * J) := by ac_rfl
theorem pw_lt {a : Nat} : ∀ {l : List (Nat × Nat)}, (∀ p ∈ l, p.1 < 32 ∧ p.2 ≤ 8) → PW l < 2 ^ (40 * l.length + 1)
  | [], _ => by decide
  | p :: l, h => by
    have ih := pw_lt (a := a) (l := l) fun q hq => h q (List.mem_cons_of_mem _ hq)
    obtain ⟨h1, h2⟩ := h p List.mem_cons_self
    have : p.1 ^ p.2 ≤ 2 ^ 40 := by
      calc p.1 ^ p.2 ≤ 32 ^ p.2 := Nat.pow_le_pow_left (by omega) _
        _ ≤ 32 ^ 8 := Nat.pow_le_pow_right (by decide) h2
        _ = 2 ^ 40 := by decide
    rw [PW, List.length_cons, show 40 * (l.length + 1) + 1 = 40 + (40 * l.length + 1) by omega, Nat.pow_add 2 40]
    exact Nat.mul_lt_mul_of_le_of_lt this ih (Nat.pow_pos (by decide))
theorem cn_le : ∀ {l : List (Nat × Nat)}, (∀ p ∈ l, p.1 < 32 ∧ p.2 ≤ 8) → CN l ≤ 8 * l.length
  | [], _ => Nat.le_refl _
  | p :: l, h => by
    have h1 := cn_le (l := l) fun q hq => h q (List.mem_cons_of_mem _ hq)
    obtain ⟨h3, h4⟩ := h p List.mem_cons_self
    rw [CN, List.length_cons]
    omega
theorem wn_lt {W n : Nat} (h : W < 128) (hn : n ≤ 40) : W ^ n < 2 ^ 281 := by
  calc W ^ n ≤ 128 ^ n := Nat.pow_le_pow_left (by omega) _
    _ ≤ 128 ^ 40 := Nat.pow_le_pow_right (by decide) hn
    _ = 2 ^ 280 := by decide +kernel
    _ < 2 ^ 281 := by decide +kernel
/-! ### sums over one kind -/
theorem fold_low (f : Rr → Rr → Option Rr) {M : Nat} (hM : 0 < M) (h3 : M < 2 ^ 1500) (hf : ∀ x y : Nat, x < 2 ^ 1500 → y < 2 ^ 1500 → f (low x M) (low y M) = some (low (x + y) M)) : ∀ (ys : List Nat) (x : Nat), x + ys.sum < 2 ^ 1500 → foldO f (low x M) (ys.map fun y => low y M) = some (low (x + ys.sum) M)
  | [], x, _ => rfl
  | y :: ys, x, h => by
    rw [List.sum_cons] at h
    rw [List.map_cons, foldO, hf x y (by omega) (by omega), Option.bind_some, fold_low f hM h3 hf ys (x + y) (by omega), List.sum_cons, Nat.add_assoc]
theorem low_zero {M : Nat} (hM : 0 < M) : low 0 M = (0, 1) := by
  unfold low
  rw [Nat.gcd_zero_left, Nat.zero_div, Nat.div_self hM]
  rfl
theorem low_one {M : Nat} (hM : 0 < M) : low M M = (1, 1) := by
  unfold low
  rw [Nat.gcd_self, Nat.div_self hM]
  rfl
/-- one number that all these divide -/
theorem common : ∀ (qs : List Nat), (∀ q ∈ qs, 0 < q ∧ q < 2 ^ 281) → ∃ M : Nat, 0 < M ∧ M < 2 ^ (281 * qs.length + 1) ∧ ∀ q ∈ qs, q ∣ M
  | [], _ => ⟨1, by decide, by decide, fun q h => by cases h⟩
  | q :: qs, h => by
    obtain ⟨M, h1, h2, h3⟩ := common qs fun x hx => h x (List.mem_cons_of_mem _ hx)
    obtain ⟨h4, h5⟩ := h q List.mem_cons_self
    refine ⟨q * M, Nat.mul_pos h4 h1, ?_, fun x hx => ?_⟩
    · rw [List.length_cons, show 281 * (qs.length + 1) + 1 = 281 + (281 * qs.length + 1) by omega]
      exact lt_mul2 h5 h2
    · rcases List.mem_cons.mp hx with rfl | hx
      · exact Nat.dvd_mul_right _ _
      · exact Nat.dvd_trans (h3 x hx) (Nat.dvd_mul_left _ _)
theorem sum_lt {e : Nat} : ∀ {ys : List Nat}, (∀ y ∈ ys, y < 2 ^ e) → ys.length ≤ 8 → ys.sum < 2 ^ (e + 4) := by
  intro ys h hl
  have key : ∀ zs : List Nat, (∀ y ∈ zs, y < 2 ^ e) → zs.sum ≤ zs.length * 2 ^ e := by
    intro zs
    induction zs with
    | nil => intro _; simp
    | cons z zs ih =>
      intro h
      have h1 := ih fun y hy => h y (List.mem_cons_of_mem _ hy)
      have h2 := h z List.mem_cons_self
      rw [List.sum_cons, List.length_cons, Nat.add_mul]
      omega
  have h1 := key ys h
  have h2 : ys.length * 2 ^ e ≤ 8 * 2 ^ e := Nat.mul_le_mul_right _ hl
  have hp : 0 < 2 ^ e := Nat.pow_pos (by decide)
  rw [Nat.pow_add]
  omega
end Lw

namespace Lw
open PySem PySem.Spec PyProof.Rows L2 Sn
/-! ### the loops -/
abbrev iN (k : Nat) : D := .int (k : Int)
def nT (ws : List Nat) : D := .tup (ws.map fun k : Nat => .int (k : Int))
theorem mul_nat {a b x y : Nat} (h1 : x < 2 ^ a) (h2 : y < 2 ^ b) (h : a + b ≤ 134217728) : (lift (mulWD (iN x) (iN y)) : M Bx D) = ret (iN (x * y)) := by
  rw [ob_mul, wmul_nat h1 h2 h, ob_some]
theorem inner_go {w W : Nat} (hw : w < 32) (hW : W < 128) {f : D × D → D → M Bx (Fl (D × D) (D × D))} {τ' l' : Type} {K : D × D → M Bx (Fl τ' l')} (hf : ∀ (p q : Nat) x, f (iN p, iN q) x = parM .E .E (lift (mulWD (iN p) (iN w))) (lift (mulWD (iN q) (iN W))) fun a b => ret (.nx (a, b))) :
    ∀ (xs : List D) (p q a b : Nat), p < 2 ^ a → q < 2 ^ b → a + 5 * xs.length ≤ 3000 → b + 7 * xs.length ≤ 3000 → forL f K xs (iN p, iN q) = K (iN (p * w ^ xs.length), iN (q * W ^ xs.length))
  | [], p, q, a, b, _, _, _, _ => by rw [r_forN, List.length_nil, Nat.pow_zero, Nat.pow_zero, Nat.mul_one, Nat.mul_one]
  | x :: xs, p, q, a, b, h1, h2, h3, h4 => by
    rw [List.length_cons] at h3 h4
    have hw5 : w < 2 ^ 5 := hw
    have hW7 : W < 2 ^ 7 := hW
    rw [forL_cons, hf, mul_nat h1 hw5 (by omega), mul_nat h2 hW7 (by omega), r_par, r_bnd]
    show forL f K xs (iN (p * w), iN (q * W)) = _
    rw [inner_go hw hW hf xs (p * w) (q * W) (a + 5) (b + 7) (lt_mul2 h1 hw5) (lt_mul2 h2 hW7) (by omega) (by omega), List.length_cons, Nat.pow_succ, Nat.pow_succ]
    congr 3
    · ac_rfl
    · ac_rfl
theorem inner_ok {w W c : Nat} (hw : w < 32) (hW : W < 128) (hc : c ≤ 8) {f : D × D → D → M Bx (Fl (D × D) (D × D))} {τ' l' : Type} {K : D × D → M Bx (Fl τ' l')} {p q : Nat} (hp : p < 2 ^ 2000) (hq : q < 2 ^ 2000) (hf : ∀ (p q : Nat) x, f (iN p, iN q) x = parM .E .E (lift (mulWD (iN p) (iN w))) (lift (mulWD (iN q) (iN W))) fun a b => ret (.nx (a, b))) :
    forM' (rng1M (ret (iN c))) f (iN p, iN q) K = K (iN (p * w ^ c), iN (q * W ^ c)) := by
  rw [rng1_ok (by omega) (by omega), r_forM]
  have hl : (rng 0 (c : Int)).length = c := by rw [rng_len]; omega
  rw [inner_go hw hW hf _ p q 2000 2000 hp hq (by omega) (by omega), hl]
theorem outer_ok {α : Type} {W : Nat} (hW : W < 128) (e : α → D) (wc : α → Nat × Nat) {f : D × D → D → M Bx (Fl (D × D) (D × D))} {τ' l' : Type} {K : D × D → M Bx (Fl τ' l')} :
    ∀ (xs : List α) (p q a b : Nat), (∀ x ∈ xs, ∀ p q : Nat, p < 2 ^ 2000 → q < 2 ^ 2000 → f (iN p, iN q) (e x) = ret (.nx (iN (p * (wc x).1 ^ (wc x).2), iN (q * W ^ (wc x).2)))) → (∀ x ∈ xs, (wc x).1 < 32 ∧ (wc x).2 ≤ 8) → p < 2 ^ a → q < 2 ^ b → a + 41 * xs.length ≤ 2000 → b + 57 * xs.length ≤ 2000 →
      forL f K (xs.map e) (iN p, iN q) = K (iN (p * PW (xs.map wc)), iN (q * W ^ CN (xs.map wc)))
  | [], p, q, a, b, _, _, _, _, _, _ => by
    show K _ = _
    rw [List.map_nil, PW, CN, Nat.pow_zero, Nat.mul_one, Nat.mul_one]
  | x :: xs, p, q, a, b, hf, hx, h1, h2, h3, h4 => by
    rw [List.length_cons] at h3 h4
    obtain ⟨x1, x2⟩ := hx x List.mem_cons_self
    have e1 : p < 2 ^ 2000 := Nat.lt_of_lt_of_le h1 (Nat.pow_le_pow_right (by decide) (by omega))
    have e2 : q < 2 ^ 2000 := Nat.lt_of_lt_of_le h2 (Nat.pow_le_pow_right (by decide) (by omega))
    have g1 : (wc x).1 ^ (wc x).2 < 2 ^ 41 := by
      calc (wc x).1 ^ (wc x).2 ≤ 32 ^ (wc x).2 := Nat.pow_le_pow_left (by omega) _
        _ ≤ 32 ^ 8 := Nat.pow_le_pow_right (by decide) x2
        _ < 2 ^ 41 := by decide
    have g2 : W ^ (wc x).2 < 2 ^ 57 := by
      calc W ^ (wc x).2 ≤ 128 ^ (wc x).2 := Nat.pow_le_pow_left (by omega) _
        _ ≤ 128 ^ 8 := Nat.pow_le_pow_right (by decide) x2
        _ < 2 ^ 57 := by decide
    rw [List.map_cons, forL_cons, hf x List.mem_cons_self p q e1 e2, r_bnd]
    show forL f K (xs.map e) _ = _
    rw [outer_ok hW e wc xs (p * (wc x).1 ^ (wc x).2) (q * W ^ (wc x).2) (a + 41) (b + 57) (fun y hy => hf y (List.mem_cons_of_mem _ hy)) (fun y hy => hx y (List.mem_cons_of_mem _ hy)) (lt_mul2 h1 g1) (lt_mul2 h2 g2) (by omega) (by omega), List.map_cons, PW, CN, Nat.pow_add]
    congr 3
    · ac_rfl
    · ac_rfl
theorem asInts_nats (ws : List Nat) : asInts (ws.map fun k : Nat => D.int (k : Int)) = some (ws.map fun k : Nat => (k : Int)) := by
  have := asInts_map (ws.map fun k : Nat => (k : Int))
  rwa [List.map_map] at this
theorem sum_nats (ws : List Nat) : (ws.map fun k : Nat => (k : Int)).sum = ((ws.sum : Nat) : Int) := by
  induction ws with
  | nil => rfl
  | cons w ws ih => rw [List.map_cons, List.sum_cons, ih, List.sum_cons]; omega
theorem sum2_nT (ws : List Nat) : sum2D [nT ws] = some (iN ws.sum) := by
  show (asInts (ws.map fun k : Nat => D.int (k : Int))).map (fun is => D.int is.sum) = _
  rw [asInts_nats, Option.map_some, sum_nats]
/-- good weights and counts -/
structure GW (n : Nat) (ws cs : List Nat) : Prop where
  lw : ws.length = n
  lc : cs.length = n
  n5 : n ≤ 5
  hw : ∀ w ∈ ws, w < 20
  hc : ∀ c ∈ cs, c ≤ 8
theorem GW.zip {n : Nat} {ws cs : List Nat} (h : GW n ws cs) : ∀ p ∈ ws.zip cs, p.1 < 32 ∧ p.2 ≤ 8 := fun p hp => by
  obtain ⟨h1, h2⟩ := List.of_mem_zip hp
  have := h.hw _ h1
  exact ⟨by omega, h.hc _ h2⟩
theorem nsum_le {b : Nat} : ∀ {ws : List Nat}, (∀ w ∈ ws, w ≤ b) → ws.sum ≤ b * ws.length
  | [], _ => Nat.le_refl _
  | w :: ws, h => by
    have := nsum_le (ws := ws) fun x hx => h x (List.mem_cons_of_mem _ hx)
    have := h w List.mem_cons_self
    rw [List.sum_cons, List.length_cons, Nat.mul_succ]
    omega
theorem GW.sum {n : Nat} {ws cs : List Nat} (h : GW n ws cs) : ws.sum < 128 := by
  have := nsum_le (b := 19) fun w hw => by have := h.hw w hw; omega
  rw [h.lw] at this
  have := h.n5
  have : 19 * n ≤ 19 * 5 := Nat.mul_le_mul_left _ this
  omega
theorem GW.len {n : Nat} {ws cs : List Nat} (h : GW n ws cs) : (ws.zip cs).length = n := by rw [List.length_zip, h.lw, h.lc, Nat.min_self]
def LK (ws cs : List Nat) : Rr := low (PW (ws.zip cs)) (ws.sum ^ CN (ws.zip cs))
theorem GW.pw {n : Nat} {ws cs : List Nat} (h : GW n ws cs) : PW (ws.zip cs) < 2 ^ 201 ∧ ws.sum ^ CN (ws.zip cs) < 2 ^ 281 := by
  have h1 := pw_lt (a := 0) h.zip
  have h2 := cn_le h.zip
  rw [h.len] at h1 h2
  have := h.n5
  exact ⟨Nat.lt_of_lt_of_le h1 (Nat.pow_le_pow_right (by decide) (by omega)), wn_lt h.sum (by omega)⟩
theorem likelihood_ok {n : Nat} {ws cs : List Nat} (h : GW n ws cs) (hs : 0 < ws.sum) : m_likelihood [nT ws, nT cs] = ret (rD (LK ws cs)) := by
  show bnd (b_likelihood (nT ws) (nT cs)) endF = _
  unfold b_likelihood
  have hW := h.sum
  obtain ⟨p1, p2⟩ := h.pw
  have hz : (zipM2 (ret (nT ws)) (ret (nT cs)) : M Bx (List D)) = ret ((ws.zip cs).map fun p => D.tup [iN p.1, iN p.2]) := by
    unfold nT
    rw [s_zipT, zipT_map]
  rw [r_par, hz, r_forM]
  have h5 := h.n5
  have hlen := h.len
  rw [show D.int 1 = iN 1 from rfl, outer_ok hW (fun p : Nat × Nat => D.tup [iN p.1, iN p.2]) (fun p => p) (ws.zip cs) 1 1 1 1 (fun x hx p q hp hq => ?_) h.zip (by decide) (by decide) (by omega) (by omega)]
  · rw [List.map_id', Nat.one_mul, Nat.one_mul, r_consM, r_consM, r_bnd, low_terms_ok, lowF_nat (Nat.pow_pos hs) (Nat.lt_trans p1 (by decide +kernel)) (Nat.lt_trans p2 (by decide +kernel)), ob_some, r_retF, r_bnd, r_endR]
    rfl
  · obtain ⟨x1, x2⟩ := h.zip x hx
    rw [s_pat2, inner_ok x1 hW x2 hp hq (fun p q x => by rw [r_op2, r_consM, r_bcM, sum2_nT, r_lift, r_op2])]
theorem zip_range {ws cs : List Nat} (h : ws.length = cs.length) : (List.range ws.length).map (fun k => (ws.getD k 0, cs.getD k 0)) = ws.zip cs := by
  refine List.ext_getElem (by simp [h]) fun i h1 h2 => ?_
  simp only [List.length_map, List.length_range] at h1
  simp [h1, h ▸ h1]
theorem at_nT {ws : List Nat} {k : Nat} (h : k < ws.length) : ixD (nT ws) (iN k) = some (iN (ws.getD k 0)) := by
  unfold nT
  rw [r_ixT, atI_map, atI_ok (by omega) (by omega)]
  simp [h]
theorem law_likely_ok {n : Nat} {ws cs : List Nat} (h : GW n ws cs) (hs : 0 < ws.sum) : m__law_likely [nT ws, nT cs] = ret (rD (LK ws cs)) := by
  show bnd (b__law_likely (nT ws) (nT cs)) endF = _
  unfold b__law_likely
  have hW := h.sum
  obtain ⟨p1, p2⟩ := h.pw
  have h5 := h.n5
  have hl : (bcM lenD (consM (ret (nT ws)) (ret [])) : M Bx D) = ret (iN n) := by
    unfold nT
    rw [r_consM, r_bcM, r_lenT, r_lift, List.length_map, h.lw]
  rw [r_par, hl, rng1_ok (by omega) (by omega), rng_nat, r_forM]
  have hzr := zip_range (ws := ws) (cs := cs) (by rw [h.lw, h.lc])
  rw [h.lw] at hzr
  have hget : ∀ k ∈ List.range n, (ws.getD k 0, cs.getD k 0) ∈ ws.zip cs := fun k hk => by
    rw [← hzr]
    exact List.mem_map.mpr ⟨k, hk, rfl⟩
  rw [show D.int 1 = iN 1 from rfl, outer_ok hW (fun k : Nat => D.int (k : Int)) (fun k => (ws.getD k 0, cs.getD k 0)) (List.range n) 1 1 1 1 (fun x hx p q hp hq => ?_) (fun k hk => h.zip _ (hget k hk)) (by decide) (by decide) (by rw [List.length_range]; omega) (by rw [List.length_range]; omega)]
  · rw [hzr, Nat.one_mul, Nat.one_mul, r_consM, r_consM, r_bnd, law_ratio_ok, ratF_nat (Nat.pow_pos hs) (Nat.lt_trans p1 (by decide +kernel)) (Nat.lt_trans p2 (by decide +kernel)), ob_some, r_retF, r_bnd, r_endR]
    rfl
  · obtain ⟨x1, x2⟩ := h.zip _ (hget x hx)
    have hxn := List.mem_range.mp hx
    have a1 := at_nT (ws := ws) (k := x) (by rw [h.lw]; exact hxn)
    have a2 := at_nT (ws := cs) (k := x) (by rw [h.lc]; exact hxn)
    rw [r_ixM, a2, r_lift, inner_ok x1 hW x2 hp hq (fun p q y => by rw [r_ixM, a1, r_lift, r_op2, r_consM, r_bcM, sum2_nT, r_lift, r_op2])]
/-- the law's own loop over the counts themselves -/
theorem self_loop {n : Nat} {cs : List Nat} (h : GW n cs cs) {τ' l' : Type} {K : D × D → M Bx (Fl τ' l')} : forM' (itM (ret (nT cs))) (fun (s_108 : D × D) count_109 => (forM' (rng1M (ret count_109)) (fun (s_110 : D × D) step_111 => (parM .E .E (op2M mulWD (ret s_110.1) (ret count_109)) (op2M mulWD (ret s_110.2) (bcM sum2D (consM (ret (nT cs)) (ret [])))) fun p_112 q_113 => (ret (.nx (p_112, q_113))))) (s_108.1, s_108.2) fun s_114 => (ret (.nx (s_114.1, s_114.2))))) (.int 1, .int 1) K = K (iN (PW (cs.zip cs)), iN (cs.sum ^ CN (cs.zip cs))) := by
  have hW := h.sum
  have h5 := h.n5
  have hi : (itM (ret (nT cs)) : M Bx (List D)) = ret (cs.map fun k : Nat => D.int (k : Int)) := by unfold nT; rw [r_itT]
  have hz : cs.map (fun c => (c, c)) = cs.zip cs := by
    clear h hW h5 hi
    induction cs with
    | nil => rfl
    | cons c cs ih => rw [List.map_cons, List.zip_cons_cons, ih]
  have hm : ∀ c ∈ cs, c < 32 ∧ c ≤ 8 := fun c hc => by have := h.hc c hc; omega
  rw [hi, r_forM, show D.int 1 = iN 1 from rfl, outer_ok hW (fun k : Nat => D.int (k : Int)) (fun c => (c, c)) cs 1 1 1 1 (fun x hx p q hp hq => ?_) hm (by decide) (by decide) (by rw [h.lc]; omega) (by rw [h.lc]; omega)]
  · rw [hz, Nat.one_mul, Nat.one_mul]
  · obtain ⟨x1, x2⟩ := hm x hx
    rw [inner_ok x1 hW x2 hp hq (fun p q y => by rw [r_op2, r_consM, r_bcM, sum2_nT, r_lift, r_op2])]
end Lw

namespace Lw
open PySem PySem.Spec PyProof.Rows L2 Sn
/-! ### which are likelier -/
def cmpR (r s : Rr) : Int := b2i (decide (r.1 * s.2 < s.1 * r.2)) - b2i (decide (s.1 * r.2 < r.1 * s.2))
structure Fin2 (r : Rr) : Prop where
  ex : ∃ a b : Nat, r = ((a : Int), (b : Int)) ∧ a < 2 ^ 1500 ∧ b < 2 ^ 1500 ∧ 0 < b
theorem low_fin {p q : Nat} (hq : 0 < q) (h1 : p < 2 ^ 1500) (h2 : q < 2 ^ 1500) : Fin2 (low p q) := by
  obtain ⟨a, b, e⟩ := low_nat (p := p) hq
  obtain ⟨l1, l2, l3, l4⟩ := low_le hq e
  exact ⟨a, b, e, by omega, by omega, l3⟩
theorem Fin2.mul {r s : Rr} (h : Fin2 r) (g : Fin2 s) : wmul r.1 s.2 = some (r.1 * s.2) := by
  obtain ⟨a, b, rfl, h1, h2, h3⟩ := h.ex
  obtain ⟨c, d, rfl, g1, g2, g3⟩ := g.ex
  show wmul (a : Int) (d : Int) = some ((a : Int) * (d : Int))
  rw [wmul_nat (a := 1500) (b := 1500) h1 g2, Int.natCast_mul]
theorem GW.fin {n : Nat} {ws cs : List Nat} (h : GW n ws cs) (hs : 0 < ws.sum) : Fin2 (LK ws cs) := by
  obtain ⟨p1, p2⟩ := h.pw
  exact low_fin (Nat.pow_pos hs) (Nat.lt_trans p1 (by decide +kernel)) (Nat.lt_trans p2 (by decide +kernel))
theorem likelier_ok {n : Nat} {ws us cs : List Nat} (h : GW n ws cs) (g : GW n us cs) (hs : 0 < ws.sum) (gs : 0 < us.sum) : m_likelier [nT ws, nT us, nT cs] = ret (.int (cmpR (LK ws cs) (LK us cs))) := by
  show bnd (b_likelier (nT ws) (nT us) (nT cs)) endF = _
  unfold b_likelier
  have l1 := likelihood_ok h hs
  have l2 := likelihood_ok g gs
  have f1 := h.fin hs
  have f2 := g.fin gs
  have m1 := f1.mul f2
  have m2 := f2.mul f1
  have es : ∀ a b : Bool, subB (.bl a) (.bl b) = some (.int (b2i a - b2i b)) := fun a b => rfl
  simp (disch := (first | assumption | (refine InP.mem ?_; assumption) | omega | solve_by_elim | (simp only [InP, decide_eq_true_eq, List.map_id', List.length_map, List.length_cons, List.length_nil, List.length_append, List.length_range, List.length_zip, List.length_tail, List.length_take, List.length_drop, rI_len, rng_len, mem_rI, List.mem_range] at *; omega) | (simp only [List.map_id']; assumption) | simp)) only [r_bnd, r_lift, r_op2, r_cmpT, r_asB, r_asI, r_valT, r_tru_bl, r_tru_int, r_tru_lst, r_tru_tup, r_tru_non, r_notT, r_andTt, r_andTf, r_andT, r_orTt, r_orTf, r_orT, r_andMt, r_andMf, r_andM, r_orMt, r_orMf, r_orM, r_notM, r_negM, r_negD, r_ifM, r_consM, r_tupM, r_lstM, r_tup0, r_tup1, r_tup2, r_tup3, r_tup4, r_tup5, r_tup6, r_lst0, r_lst1, r_lst2, r_lst3, r_lst4, r_lst5, r_bcM, r_lenT, r_lenL, List.length_map, r_tupT, r_tupL, r_lstT, r_lstL, r_int, r_ixM, r_ixT, r_ixL, r_ptM, r_slM, r_slT, r_slL, r_itT, r_itL, r_isi, r_add, r_sub, r_lt, r_le, r_gt, r_ge, r_isN, r_isntN, r_isB, r_isntB, nonNon, nonI, nonT, nonL, nonB, nonS, r_retF, r_endR, r_endN, r_iteF, r_seqN, r_seqR, r_seqB, r_seqC, r_forM, r_own, r_ownd, r_par, r_parN, r_parNN, r_eltT, r_eltF, r_elt, r_eq, r_ne, r_eqb, r_neb, compG_ret, compG_none, compG_retIf, compG_filt, eltM_ret, forL_G, forG_unit, forG_find, chainM_ret, chainT_ret, s_iteB, s_iteT, s_comp, s_all, s_any, s_sum, max2_ok, min2_ok, s_zipL, s_zipT, zipT_map, s_pat2, s_pat3, s_app, s_extL, s_extT, s_count, s_atR, s_atC0, s_atC1, s_atC2, s_in_nats, s_nin_nats, List.map_map, Function.comp_apply, Bool.false_eq_true, if_true, if_false, ↓reduceIte, Bool.not_true, Bool.not_false, Bool.and_true, Bool.true_and, Bool.or_false, Bool.false_or, Bool.and_false, Bool.false_and, Bool.or_true, Bool.true_or, decide_true, decide_false, ob_some, ob_none, ob_bnd, ob_bind, ob_map, ob_op2l, ob_op2r, ob_cmpl, ob_cmpr, ob_consl, ob_consr, ob_tup, ob_lst, ob_bc, ob_ixl, ob_ixr, ob_retF, ob_neg, ob_notM, ob_val, ob_not, ob_and, ob_or, ob_ifM, ob_elt, ob_iteF, ob_it, ob_for, ob_comp, ob_app, ob_own, ob_parl, ob_parr, ob_enum, ob_aug2l, ob_aug2r, ob_dsetl, ob_dsetr, ob_mul, ob_div, ob_mod, ob_rng1, ob_rng2, ob_compM, ob_addL, ob_appM, ob_at, rD_0, rD_1, l1, l2, m1, m2, es]
  rfl
theorem less_ok {r s : Rr} (h : Fin2 r) (g : Fin2 s) : m__law_less [rD r, rD s] = ret (.bl (decide (r.1 * s.2 < s.1 * r.2))) := by
  rw [law_less_ok, h.mul g, g.mul h, Option.bind_some, Option.map_some, ob_some]
theorem cmp_self (r : Rr) : cmpR r r = 0 := by unfold cmpR; omega
theorem cmp_eq {r s : Rr} : (if decide (r.1 * s.2 < s.1 * r.2) = true then (1 : Int) else if decide (s.1 * r.2 < r.1 * s.2) = true then -1 else 0) = cmpR r s := by
  unfold cmpR b2i
  by_cases h1 : r.1 * s.2 < s.1 * r.2
  · rw [decide_eq_true h1, decide_eq_false (by omega)]; rfl
  · rw [decide_eq_false h1]
    by_cases h2 : s.1 * r.2 < r.1 * s.2
    · rw [decide_eq_true h2]; rfl
    · rw [decide_eq_false h2]; rfl
theorem cmp_neg (r s : Rr) : -cmpR r s = cmpR s r := by unfold cmpR; omega
theorem low_less {p q p' q' : Nat} (hq : 0 < q) (hq' : 0 < q') : ((low p q).1 * (low p' q').2 < (low p' q').1 * (low p q).2) ↔ p * q' < p' * q := by
  obtain ⟨a, b, e⟩ := low_nat (p := p) hq
  obtain ⟨c, d, e'⟩ := low_nat (p := p') hq'
  rw [← cross hq hq' e e', e, e']
  show ((a : Int) * (d : Int) < (c : Int) * (b : Int)) ↔ _
  rw [← Int.natCast_mul, ← Int.natCast_mul, Int.ofNat_lt]
/-! ### chances of weights -/
theorem mapO_some {α β : Type} (g : α → β) : ∀ xs : List α, mapO (fun x => some (g x)) xs = some (xs.map g)
  | [] => rfl
  | x :: xs => by rw [mapO, mapO_some g xs]; rfl
structure Rows (n : Nat) (cs : List Nat) (rs : List (List Nat)) : Prop where
  ok : ∀ ws ∈ rs, GW n ws cs ∧ (∀ w ∈ ws, 1 ≤ w) ∧ 0 < ws.sum
  ne : rs ≠ []
  le : rs.length ≤ 4
theorem rows_frac {n : Nat} {cs : List Nat} {rs : List (List Nat)} (h : Rows n cs rs) : ∃ (M : Nat) (y : List Nat → Nat), 0 < M ∧ M < 2 ^ 1500 ∧ (∀ ws ∈ rs, LK ws cs = low (y ws) M ∧ y ws < 2 ^ 1490) ∧ 0 < (rs.map y).sum ∧ (rs.map y).sum < 2 ^ 1500 := by
  obtain ⟨M, h1, h2, h3⟩ := common (rs.map fun ws => ws.sum ^ CN (ws.zip cs)) (fun q hq => by
    obtain ⟨ws, hw, rfl⟩ := List.mem_map.mp hq
    obtain ⟨g1, g2, g3⟩ := h.ok ws hw
    exact ⟨Nat.pow_pos g3, g1.pw.2⟩)
  have hM : M < 2 ^ 1200 := by
    have := h.le
    rw [List.length_map] at h2
    exact Nat.lt_of_lt_of_le h2 (Nat.pow_le_pow_right (by decide) (by omega))
  refine ⟨M, fun ws => PW (ws.zip cs) * (M / ws.sum ^ CN (ws.zip cs)), h1, Nat.lt_trans hM (by decide +kernel), fun ws hw => ?_, ?_, ?_⟩
  · obtain ⟨g1, g2, g3⟩ := h.ok ws hw
    have hd := h3 _ (List.mem_map.mpr ⟨ws, hw, rfl⟩)
    have hq : 0 < ws.sum ^ CN (ws.zip cs) := Nat.pow_pos g3
    refine ⟨low_eq_of hq h1 ?_, ?_⟩
    · rw [Nat.mul_assoc, Nat.div_mul_cancel hd]
    · have : M / ws.sum ^ CN (ws.zip cs) < 2 ^ 1200 := Nat.lt_of_le_of_lt (Nat.div_le_self _ _) hM
      exact Nat.lt_trans (lt_mul2 g1.pw.1 this) (by decide +kernel)
  · obtain ⟨ws, hw⟩ := List.exists_mem_of_ne_nil _ h.ne
    obtain ⟨g1, g2, g3⟩ := h.ok ws hw
    have hd := h3 _ (List.mem_map.mpr ⟨ws, hw, rfl⟩)
    have hy : 0 < PW (ws.zip cs) * (M / ws.sum ^ CN (ws.zip cs)) := Nat.mul_pos (pw_pos fun p hp => g2 _ (List.of_mem_zip hp).1) (Nat.div_pos (Nat.le_of_dvd h1 hd) (Nat.pow_pos g3))
    refine Nat.lt_of_lt_of_le hy ?_
    have : ∀ (zs : List Nat) (z : Nat), z ∈ zs → z ≤ zs.sum := fun zs z hz => by
      induction zs with
      | nil => cases hz
      | cons x xs ih =>
        rw [List.sum_cons]
        rcases List.mem_cons.mp hz with rfl | hz
        · omega
        · have := ih hz; omega
    exact this _ _ (List.mem_map.mpr ⟨ws, hw, rfl⟩)
  · refine Nat.lt_trans (sum_lt (e := 1401) (fun y hy => ?_) (by rw [List.length_map]; have := h.le; omega)) (by decide +kernel)
    obtain ⟨ws, hw, rfl⟩ := List.mem_map.mp hy
    obtain ⟨g1, g2, g3⟩ := h.ok ws hw
    have : M / ws.sum ^ CN (ws.zip cs) < 2 ^ 1200 := Nat.lt_of_le_of_lt (Nat.div_le_self _ _) hM
    exact lt_mul2 g1.pw.1 this
def tR (rs : List Rr) : D := .tup (rs.map rD)
theorem rows_sum {n : Nat} {cs : List Nat} {rs : List (List Nat)} (h : Rows n cs rs) {M : Nat} {y : List Nat → Nat} (hM : 0 < M) (hM2 : M < 2 ^ 1500) (hy : ∀ ws ∈ rs, LK ws cs = low (y ws) M ∧ y ws < 2 ^ 1490) (hS : (rs.map y).sum < 2 ^ 1500) (f : Rr → Rr → Option Rr) (hf : ∀ a b : Nat, a < 2 ^ 1500 → b < 2 ^ 1500 → f (low a M) (low b M) = some (low (a + b) M)) :
    foldO f (0, 1) (rs.map fun ws => LK ws cs) = some (low (rs.map y).sum M) := by
  have e : (rs.map fun ws => LK ws cs) = (rs.map y).map fun z => low z M := by
    rw [List.map_map]
    exact List.map_congr_left fun ws hw => (hy ws hw).1
  rw [e, ← low_zero hM, fold_low f hM hM2 hf (rs.map y) 0 (by omega), Nat.zero_add]
theorem foldO_map {σ α β : Type} (f : σ → β → Option σ) (g : α → β) : ∀ (xs : List α) (s : σ), foldO f s (xs.map g) = foldO (fun s x => f s (g x)) s xs
  | [], _ => rfl
  | x :: xs, s => by
    rw [List.map_cons, foldO, foldO]
    cases f s (g x) with
    | none => rfl
    | some t => exact foldO_map f g xs t
theorem guess_ok {n : Nat} {cs : List Nat} {rs : List (List Nat)} (h : Rows n cs rs) {M : Nat} {y : List Nat → Nat} (hM : 0 < M) (hM2 : M < 2 ^ 1500) (hy : ∀ ws ∈ rs, LK ws cs = low (y ws) M ∧ y ws < 2 ^ 1490) (h0 : 0 < (rs.map y).sum) (hS : (rs.map y).sum < 2 ^ 1500) :
    m_guess_chances [.tup (rs.map nT), nT cs] = ret (tR (rs.map fun ws => low (y ws) (rs.map y).sum)) := by
  show bnd (b_guess_chances (.tup (rs.map nT)) (nT cs)) endF = _
  unfold b_guess_chances tR
  have hl := h.le
  have hc : chkL rs = some rs := if_pos (by omega)
  have hc2 : chkL (rs.map fun ws => LK ws cs) = some (rs.map fun ws => LK ws cs) := if_pos (by rw [List.length_map]; omega)
  have e0 : D.tup [.int 0, .int 1] = rD (0, 1) := rfl
  have e2 : ∀ a b : Int, D.tup [.int a, .int b] = rD (a, b) := fun a b => rfl
  have hsum := rows_sum h hM hM2 hy hS sumF fun a b h1 h2 => (add_low hM h1 h2 hM2).1
  rw [r_itT, ob_compM, hc, ob_some, compL_O (fun ws => some (LK ws cs)) rD (fun ws hw => by
    obtain ⟨g1, g2, g3⟩ := h.ok ws hw
    rw [r_consM, r_consM, r_bnd, likelihood_ok g1 g3, r_eltT, r_bnd, ob_some]), mapO_some, ob_some, r_bnd]
  simp (disch := (first | assumption | (refine InP.mem ?_; assumption) | omega | solve_by_elim | (simp only [InP, decide_eq_true_eq, List.map_id', List.length_map, List.length_cons, List.length_nil, List.length_append, List.length_range, List.length_zip, List.length_tail, List.length_take, List.length_drop, rI_len, rng_len, mem_rI, List.mem_range] at *; omega) | (simp only [List.map_id']; assumption) | simp)) only [r_bnd, r_lift, r_op2, r_cmpT, r_asB, r_asI, r_valT, r_tru_bl, r_tru_int, r_tru_lst, r_tru_tup, r_tru_non, r_notT, r_andTt, r_andTf, r_andT, r_orTt, r_orTf, r_orT, r_andMt, r_andMf, r_andM, r_orMt, r_orMf, r_orM, r_notM, r_negM, r_negD, r_ifM, r_consM, r_tupM, r_lstM, r_tup0, r_tup1, r_tup2, r_tup3, r_tup4, r_tup5, r_tup6, r_lst0, r_lst1, r_lst2, r_lst3, r_lst4, r_lst5, r_bcM, r_lenT, r_lenL, List.length_map, r_tupT, r_tupL, r_lstT, r_lstL, r_int, r_ixM, r_ixT, r_ixL, r_ptM, r_slM, r_slT, r_slL, r_itT, r_itL, r_isi, r_add, r_sub, r_lt, r_le, r_gt, r_ge, r_isN, r_isntN, r_isB, r_isntB, nonNon, nonI, nonT, nonL, nonB, nonS, r_retF, r_endR, r_endN, r_iteF, r_seqN, r_seqR, r_seqB, r_seqC, r_forM, r_own, r_ownd, r_par, r_parN, r_parNN, r_eltT, r_eltF, r_elt, r_eq, r_ne, r_eqb, r_neb, compG_ret, compG_none, compG_retIf, compG_filt, eltM_ret, forL_G, forG_unit, forG_find, chainM_ret, chainT_ret, s_iteB, s_iteT, s_comp, s_all, s_any, s_sum, max2_ok, min2_ok, s_zipL, s_zipT, zipT_map, s_pat2, s_pat3, s_app, s_extL, s_extT, s_count, s_atR, s_atC0, s_atC1, s_atC2, s_in_nats, s_nin_nats, List.map_map, Function.comp_apply, Bool.false_eq_true, if_true, if_false, ↓reduceIte, Bool.not_true, Bool.not_false, Bool.and_true, Bool.true_and, Bool.or_false, Bool.false_or, Bool.and_false, Bool.false_and, Bool.or_true, Bool.true_or, decide_true, decide_false, ob_some, ob_none, ob_bnd, ob_bind, ob_map, ob_op2l, ob_op2r, ob_cmpl, ob_cmpr, ob_consl, ob_consr, ob_tup, ob_lst, ob_bc, ob_ixl, ob_ixr, ob_retF, ob_neg, ob_notM, ob_val, ob_not, ob_and, ob_or, ob_ifM, ob_elt, ob_iteF, ob_it, ob_for, ob_comp, ob_app, ob_own, ob_parl, ob_parr, ob_enum, ob_aug2l, ob_aug2r, ob_dsetl, ob_dsetr, ob_mul, ob_div, ob_mod, ob_rng1, ob_rng2, ob_compM, ob_addL, ob_appM, ob_at, rD_0, rD_1, e0]
  rw [foldO_map] at hsum
  have hpt : ∀ ws ∈ rs, m_part_times [rD (LK ws cs), rD ((low (rs.map y).sum M).2, (low (rs.map y).sum M).1)] = ret (rD (low (y ws) (rs.map y).sum)) := fun ws hw => by
    rw [part_times_ok, (hy ws hw).1]
    have := (div_low (y := y ws) hM h0 (Nat.lt_trans (hy ws hw).2 (by decide +kernel)) hS hM2).1
    unfold timF
    rw [this, ob_some]
  rw [forG_E, forE_O rD (fun s ws => sumF s (LK ws cs)) (fun s x _ => by simp (disch := (first | assumption | (refine InP.mem ?_; assumption) | omega | solve_by_elim | (simp only [InP, decide_eq_true_eq, List.map_id', List.length_map, List.length_cons, List.length_nil, List.length_append, List.length_range, List.length_zip, List.length_tail, List.length_take, List.length_drop, rI_len, rng_len, mem_rI, List.mem_range] at *; omega) | (simp only [List.map_id']; assumption) | simp)) only [r_bnd, r_lift, r_op2, r_cmpT, r_asB, r_asI, r_valT, r_tru_bl, r_tru_int, r_tru_lst, r_tru_tup, r_tru_non, r_notT, r_andTt, r_andTf, r_andT, r_orTt, r_orTf, r_orT, r_andMt, r_andMf, r_andM, r_orMt, r_orMf, r_orM, r_notM, r_negM, r_negD, r_ifM, r_consM, r_tupM, r_lstM, r_tup0, r_tup1, r_tup2, r_tup3, r_tup4, r_tup5, r_tup6, r_lst0, r_lst1, r_lst2, r_lst3, r_lst4, r_lst5, r_bcM, r_lenT, r_lenL, List.length_map, r_tupT, r_tupL, r_lstT, r_lstL, r_int, r_ixM, r_ixT, r_ixL, r_ptM, r_slM, r_slT, r_slL, r_itT, r_itL, r_isi, r_add, r_sub, r_lt, r_le, r_gt, r_ge, r_isN, r_isntN, r_isB, r_isntB, nonNon, nonI, nonT, nonL, nonB, nonS, r_retF, r_endR, r_endN, r_iteF, r_seqN, r_seqR, r_seqB, r_seqC, r_forM, r_own, r_ownd, r_par, r_parN, r_parNN, r_eltT, r_eltF, r_elt, r_eq, r_ne, r_eqb, r_neb, compG_ret, compG_none, compG_retIf, compG_filt, eltM_ret, forL_G, forG_unit, forG_find, chainM_ret, chainT_ret, s_iteB, s_iteT, s_comp, s_all, s_any, s_sum, max2_ok, min2_ok, s_zipL, s_zipT, zipT_map, s_pat2, s_pat3, s_app, s_extL, s_extT, s_count, s_atR, s_atC0, s_atC1, s_atC2, s_in_nats, s_nin_nats, List.map_map, Function.comp_apply, Bool.false_eq_true, if_true, if_false, ↓reduceIte, Bool.not_true, Bool.not_false, Bool.and_true, Bool.true_and, Bool.or_false, Bool.false_or, Bool.and_false, Bool.false_and, Bool.or_true, Bool.true_or, decide_true, decide_false, ob_some, ob_none, ob_bnd, ob_bind, ob_map, ob_op2l, ob_op2r, ob_cmpl, ob_cmpr, ob_consl, ob_consr, ob_tup, ob_lst, ob_bc, ob_ixl, ob_ixr, ob_retF, ob_neg, ob_notM, ob_val, ob_not, ob_and, ob_or, ob_ifM, ob_elt, ob_iteF, ob_it, ob_for, ob_comp, ob_app, ob_own, ob_parl, ob_parr, ob_enum, ob_aug2l, ob_aug2r, ob_dsetl, ob_dsetr, ob_mul, ob_div, ob_mod, ob_rng1, ob_rng2, ob_compM, ob_addL, ob_appM, ob_at, rD_0, rD_1, part_sum_ok]), hsum, ob_some]
  simp (disch := (first | assumption | (refine InP.mem ?_; assumption) | omega | solve_by_elim | (simp only [InP, decide_eq_true_eq, List.map_id', List.length_map, List.length_cons, List.length_nil, List.length_append, List.length_range, List.length_zip, List.length_tail, List.length_take, List.length_drop, rI_len, rng_len, mem_rI, List.mem_range] at *; omega) | (simp only [List.map_id']; assumption) | simp)) only [r_bnd, r_lift, r_op2, r_cmpT, r_asB, r_asI, r_valT, r_tru_bl, r_tru_int, r_tru_lst, r_tru_tup, r_tru_non, r_notT, r_andTt, r_andTf, r_andT, r_orTt, r_orTf, r_orT, r_andMt, r_andMf, r_andM, r_orMt, r_orMf, r_orM, r_notM, r_negM, r_negD, r_ifM, r_consM, r_tupM, r_lstM, r_tup0, r_tup1, r_tup2, r_tup3, r_tup4, r_tup5, r_tup6, r_lst0, r_lst1, r_lst2, r_lst3, r_lst4, r_lst5, r_bcM, r_lenT, r_lenL, List.length_map, r_tupT, r_tupL, r_lstT, r_lstL, r_int, r_ixM, r_ixT, r_ixL, r_ptM, r_slM, r_slT, r_slL, r_itT, r_itL, r_isi, r_add, r_sub, r_lt, r_le, r_gt, r_ge, r_isN, r_isntN, r_isB, r_isntB, nonNon, nonI, nonT, nonL, nonB, nonS, r_retF, r_endR, r_endN, r_iteF, r_seqN, r_seqR, r_seqB, r_seqC, r_forM, r_own, r_ownd, r_par, r_parN, r_parNN, r_eltT, r_eltF, r_elt, r_eq, r_ne, r_eqb, r_neb, compG_ret, compG_none, compG_retIf, compG_filt, eltM_ret, forL_G, forG_unit, forG_find, chainM_ret, chainT_ret, s_iteB, s_iteT, s_comp, s_all, s_any, s_sum, max2_ok, min2_ok, s_zipL, s_zipT, zipT_map, s_pat2, s_pat3, s_app, s_extL, s_extT, s_count, s_atR, s_atC0, s_atC1, s_atC2, s_in_nats, s_nin_nats, List.map_map, Function.comp_apply, Bool.false_eq_true, if_true, if_false, ↓reduceIte, Bool.not_true, Bool.not_false, Bool.and_true, Bool.true_and, Bool.or_false, Bool.false_or, Bool.and_false, Bool.false_and, Bool.or_true, Bool.true_or, decide_true, decide_false, ob_some, ob_none, ob_bnd, ob_bind, ob_map, ob_op2l, ob_op2r, ob_cmpl, ob_cmpr, ob_consl, ob_consr, ob_tup, ob_lst, ob_bc, ob_ixl, ob_ixr, ob_retF, ob_neg, ob_notM, ob_val, ob_not, ob_and, ob_or, ob_ifM, ob_elt, ob_iteF, ob_it, ob_for, ob_comp, ob_app, ob_own, ob_parl, ob_parr, ob_enum, ob_aug2l, ob_aug2r, ob_dsetl, ob_dsetr, ob_mul, ob_div, ob_mod, ob_rng1, ob_rng2, ob_compM, ob_addL, ob_appM, ob_at, rD_0, rD_1, e2, hpt]
  rfl
end Lw

namespace Lw
open PySem PySem.Spec PyProof.Rows L2 Sn
/-! ### _law_same -/
inductive Pb : Nat → D → Prop
  | non {n : Nat} : Pb n .non
  | bl {n : Nat} (b : Bool) : Pb n (.bl b)
  | int {n : Nat} (i : Int) : Pb n (.int i)
  | str {n : Nat} {x : Str} (h : PyData.strOk x = true) : Pb n (.str x)
  | tup {n : Nat} {xs : List D} (h : ∀ x ∈ xs, Pb n x) (hl : xs.length < 16777216) : Pb (n + 1) (.tup xs)
  | lst {n : Nat} {xs : List D} (h : ∀ x ∈ xs, Pb n x) (hl : xs.length < 16777216) : Pb (n + 1) (.lst xs)
theorem all_true (n : Nat) : allD [.lst (List.replicate n (.bl true))] = some (.bl true) := by
  have : List.replicate n (D.bl true) = (List.replicate n true).map D.bl := by simp
  rw [this, all_bls]
  congr 2
  simp
theorem same_non (self : List D → M Bx D) : bnd (b__law_same self .non .non) endF = ret (.bl true) := by simp [b__law_same]
theorem same_bl (self : List D → M Bx D) (b : Bool) : bnd (b__law_same self (.bl b) (.bl b)) endF = ret (.bl true) := by simp [b__law_same]
theorem same_int (self : List D → M Bx D) (b : Int) : bnd (b__law_same self (.int b) (.int b)) endF = ret (.bl true) := by simp [b__law_same]
theorem same_str (self : List D → M Bx D) {x : Str} (h : PyData.strOk x = true) : bnd (b__law_same self (.str x) (.str x)) endF = ret (.bl true) := by
  have e := eq_pl (Pl.str (n := 0) h) (Pl.str (n := 0) h) (by decide) (by decide)
  simp [b__law_same, e]
theorem same_items {self : List D → M Bx D} {n : Nat} {xs : List D} {g : D} (hg : ∀ i : Int, ixD g (.int i) = atI xs i) (ih : ∀ d, Pb n d → self [d, d] = ret (.bl true)) (h : ∀ x ∈ xs, Pb n x) (hl : xs.length < 16777216) :
    compM (rng1M (ret (.int xs.length))) (fun k => eltM (ret true) (bnd (consM (ixM (ret g) (ret k)) (consM (ixM (ret g) (ret k)) (ret []))) self)) = (ret (.lst (List.replicate xs.length (.bl true))) : M Bx D) := by
  rw [rng1_ok (by omega) (by omega), comp_ok (by rw [rng_len]; omega), compL_all (fun _ => D.bl true) fun x hx => ?_]
  · have e : (rng 0 (xs.length : Int)).map (fun _ => D.bl true) = List.replicate xs.length (.bl true) := by
      rw [List.map_const', rng_len]
      congr 1
    rw [e]; rfl
  · obtain ⟨i, rfl, h1, h2⟩ := mem_rng.mp hx
    have e := atI_ok h1 h2
    simp only [r_ixM, hg, e, r_lift, r_consM, r_bnd, r_eltT, ih _ (h _ (List.getElem_mem _))]
theorem same_tup {self : List D → M Bx D} {n : Nat} {xs : List D} (ih : ∀ d, Pb n d → self [d, d] = ret (.bl true)) (h : ∀ x ∈ xs, Pb n x) (hl : xs.length < 16777216) : bnd (b__law_same self (.tup xs) (.tup xs)) endF = ret (.bl true) := by
  have e := same_items (g := .tup xs) (fun _ => rfl) ih h hl
  unfold b__law_same
  simp only [r_isi, i_tuple_tuple, r_lift, r_valT, r_tru_bl, r_andT, Bool.and_self, r_orTt, r_iteF, if_true, r_consM, r_bcM, r_lenT, e, all_true, r_op2, r_eq, decide_true, r_andMt, r_retF, r_bnd, r_seqR, r_endR]
theorem same_lst {self : List D → M Bx D} {n : Nat} {xs : List D} (ih : ∀ d, Pb n d → self [d, d] = ret (.bl true)) (h : ∀ x ∈ xs, Pb n x) (hl : xs.length < 16777216) : bnd (b__law_same self (.lst xs) (.lst xs)) endF = ret (.bl true) := by
  have e := same_items (g := .lst xs) (fun _ => rfl) ih h hl
  unfold b__law_same
  simp only [r_isi, i_tuple_list, i_list_list, r_lift, r_valT, r_tru_bl, r_andT, Bool.and_self, r_orTf, r_orTt, r_iteF, if_true, r_consM, r_bcM, r_lenL, e, all_true, r_op2, r_eq, decide_true, r_andMt, r_retF, r_bnd, r_seqR, r_endR]
theorem same_ok : ∀ (n : Nat) (d : D), Pb n d → m__law_same (n + 1) [d, d] = ret (.bl true)
  | n, _, .non => same_non (m__law_same n)
  | n, _, .bl b => same_bl (m__law_same n) b
  | n, _, .int i => same_int (m__law_same n) i
  | n, _, .str h => same_str (m__law_same n) h
  | n + 1, _, .tup h hl => same_tup (same_ok n) h hl
  | n + 1, _, .lst h hl => same_lst (same_ok n) h hl
theorem Pb.mono {n m : Nat} {d : D} (h : Pb n d) (hm : n ≤ m) : Pb m d := by
  induction h generalizing m with
  | non => exact .non
  | bl b => exact .bl b
  | int i => exact .int i
  | str h => exact .str h
  | tup h hl ih => cases m with | zero => omega | succ m => exact .tup (fun x hx => ih x hx (by omega)) hl
  | lst h hl ih => cases m with | zero => omega | succ m => exact .lst (fun x hx => ih x hx (by omega)) hl
theorem same60 {n : Nat} {d : D} (h : Pb n d) (hn : n ≤ 59) : m__law_same 60 [d, d] = ret (.bl true) := same_ok 59 d (h.mono hn)
end Lw

namespace Lw
open PySem PySem.Spec PyProof.Rows L2 Sn
/-! ### are_counts, for any plain value -/
def wN : D → Bool
  | .int i => decide (0 ≤ i)
  | _ => false
def isI : D → Bool
  | .int _ => true
  | _ => false
def nz : D → Bool
  | .int i => i != 0
  | _ => false
def okC (n : Nat) : D → Bool
  | .tup xs => decide (xs.length = n) && (xs.all wN && xs.any nz)
  | _ => false
def fiB (n : Nat) : D → Bool
  | .tup xs => decide (xs.length = n) && xs.all wN
  | _ => false
theorem is_whole_ok {k : Nat} {d : D} (h : Pb k d) : m_is_whole [d] = ret (.bl (isI d)) := by
  show bnd (b_is_whole d) endF = _
  unfold b_is_whole
  cases h <;> simp (disch := (first | assumption | (refine InP.mem ?_; assumption) | omega | solve_by_elim | (simp only [InP, decide_eq_true_eq, List.map_id', List.length_map, List.length_cons, List.length_nil, List.length_append, List.length_range, List.length_zip, List.length_tail, List.length_take, List.length_drop, rI_len, rng_len, mem_rI, List.mem_range] at *; omega) | (simp only [List.map_id']; assumption) | simp)) only [r_bnd, r_lift, r_op2, r_cmpT, r_asB, r_asI, r_valT, r_tru_bl, r_tru_int, r_tru_lst, r_tru_tup, r_tru_non, r_notT, r_andTt, r_andTf, r_andT, r_orTt, r_orTf, r_orT, r_andMt, r_andMf, r_andM, r_orMt, r_orMf, r_orM, r_notM, r_negM, r_negD, r_ifM, r_consM, r_tupM, r_lstM, r_tup0, r_tup1, r_tup2, r_tup3, r_tup4, r_tup5, r_tup6, r_lst0, r_lst1, r_lst2, r_lst3, r_lst4, r_lst5, r_bcM, r_lenT, r_lenL, List.length_map, r_tupT, r_tupL, r_lstT, r_lstL, r_int, r_ixM, r_ixT, r_ixL, r_ptM, r_slM, r_slT, r_slL, r_itT, r_itL, r_isi, r_add, r_sub, r_lt, r_le, r_gt, r_ge, r_isN, r_isntN, r_isB, r_isntB, nonNon, nonI, nonT, nonL, nonB, nonS, r_retF, r_endR, r_endN, r_iteF, r_seqN, r_seqR, r_seqB, r_seqC, r_forM, r_own, r_ownd, r_par, r_parN, r_parNN, r_eltT, r_eltF, r_elt, r_eq, r_ne, r_eqb, r_neb, compG_ret, compG_none, compG_retIf, compG_filt, eltM_ret, forL_G, forG_unit, forG_find, chainM_ret, chainT_ret, s_iteB, s_iteT, s_comp, s_all, s_any, s_sum, max2_ok, min2_ok, s_zipL, s_zipT, zipT_map, s_pat2, s_pat3, s_app, s_extL, s_extT, s_count, s_atR, s_atC0, s_atC1, s_atC2, s_in_nats, s_nin_nats, List.map_map, Function.comp_apply, Bool.false_eq_true, if_true, if_false, ↓reduceIte, Bool.not_true, Bool.not_false, Bool.and_true, Bool.true_and, Bool.or_false, Bool.false_or, Bool.and_false, Bool.false_and, Bool.or_true, Bool.true_or, decide_true, decide_false, i_int_NoneType, i_int_bool, i_int_int, i_int_str, i_int_tuple, i_int_list, i_bool_NoneType, i_bool_bool, i_bool_int, i_bool_str, i_bool_tuple, i_bool_list] <;> rfl
theorem cond_ok {k : Nat} {d : D} (h : Pb k d) : (andM (bnd (consM (ret d) (ret [])) m_is_whole) (op2M geD (ret d) (ret (.int 0))) : M Bx D) = ret (.bl (wN d)) := by
  rw [r_consM, r_bnd, is_whole_ok h]
  cases h <;> first | rfl | skip
theorem cond2_ok {k : Nat} {d : D} (h : Pb k d) : (andM (isiM "int" (ret d)) (andM (notM (isiM "bool" (ret d))) (op2M geD (ret d) (ret (.int 0)))) : M Bx D) = ret (.bl (wN d)) := by
  cases h <;> simp (disch := (first | assumption | (refine InP.mem ?_; assumption) | omega | solve_by_elim | (simp only [InP, decide_eq_true_eq, List.map_id', List.length_map, List.length_cons, List.length_nil, List.length_append, List.length_range, List.length_zip, List.length_tail, List.length_take, List.length_drop, rI_len, rng_len, mem_rI, List.mem_range] at *; omega) | (simp only [List.map_id']; assumption) | simp)) only [r_bnd, r_lift, r_op2, r_cmpT, r_asB, r_asI, r_valT, r_tru_bl, r_tru_int, r_tru_lst, r_tru_tup, r_tru_non, r_notT, r_andTt, r_andTf, r_andT, r_orTt, r_orTf, r_orT, r_andMt, r_andMf, r_andM, r_orMt, r_orMf, r_orM, r_notM, r_negM, r_negD, r_ifM, r_consM, r_tupM, r_lstM, r_tup0, r_tup1, r_tup2, r_tup3, r_tup4, r_tup5, r_tup6, r_lst0, r_lst1, r_lst2, r_lst3, r_lst4, r_lst5, r_bcM, r_lenT, r_lenL, List.length_map, r_tupT, r_tupL, r_lstT, r_lstL, r_int, r_ixM, r_ixT, r_ixL, r_ptM, r_slM, r_slT, r_slL, r_itT, r_itL, r_isi, r_add, r_sub, r_lt, r_le, r_gt, r_ge, r_isN, r_isntN, r_isB, r_isntB, nonNon, nonI, nonT, nonL, nonB, nonS, r_retF, r_endR, r_endN, r_iteF, r_seqN, r_seqR, r_seqB, r_seqC, r_forM, r_own, r_ownd, r_par, r_parN, r_parNN, r_eltT, r_eltF, r_elt, r_eq, r_ne, r_eqb, r_neb, compG_ret, compG_none, compG_retIf, compG_filt, eltM_ret, forL_G, forG_unit, forG_find, chainM_ret, chainT_ret, s_iteB, s_iteT, s_comp, s_all, s_any, s_sum, max2_ok, min2_ok, s_zipL, s_zipT, zipT_map, s_pat2, s_pat3, s_app, s_extL, s_extT, s_count, s_atR, s_atC0, s_atC1, s_atC2, s_in_nats, s_nin_nats, List.map_map, Function.comp_apply, Bool.false_eq_true, if_true, if_false, ↓reduceIte, Bool.not_true, Bool.not_false, Bool.and_true, Bool.true_and, Bool.or_false, Bool.false_or, Bool.and_false, Bool.false_and, Bool.or_true, Bool.true_or, decide_true, decide_false, i_int_NoneType, i_int_bool, i_int_int, i_int_str, i_int_tuple, i_int_list, i_bool_NoneType, i_bool_bool, i_bool_int, i_bool_str, i_bool_tuple, i_bool_list] <;> rfl
theorem ints_all : ∀ {xs : List D}, xs.all wN = true → ∃ is : List Int, xs = is.map .int ∧ ∀ i ∈ is, 0 ≤ i
  | [], _ => ⟨[], rfl, fun i h => by cases h⟩
  | x :: xs, h => by
    rw [List.all_cons, Bool.and_eq_true] at h
    obtain ⟨is, rfl, h2⟩ := ints_all h.2
    cases x with
    | int i => exact ⟨i :: is, rfl, fun j hj => by
        rcases List.mem_cons.mp hj with rfl | hj
        · exact of_decide_eq_true h.1
        · exact h2 j hj⟩
    | _ => exact absurd h.1 (by simp [wN])
theorem any_nz (is : List Int) : (is.map D.int).any nz = is.any fun i => i != 0 := by rw [List.any_map]; rfl
theorem sum_pos : ∀ {is : List Int}, (∀ i ∈ is, 0 ≤ i) → 0 ≤ is.sum ∧ decide (0 < is.sum) = is.any fun i => i != 0
  | [], _ => ⟨Int.le_refl _, rfl⟩
  | i :: is, h => by
    obtain ⟨h1, h2⟩ := sum_pos (is := is) fun j hj => h j (List.mem_cons_of_mem _ hj)
    have h3 := h i List.mem_cons_self
    rw [List.sum_cons, List.any_cons, ← h2]
    refine ⟨by omega, ?_⟩
    by_cases e : i = 0
    · subst e; simp
    · have e1 : (i != 0) = true := by simpa using e
      rw [e1, Bool.true_or, decide_eq_true_eq]
      omega
theorem any2_ints (is : List Int) : any2D [.tup (is.map D.int)] = some (.bl (is.any fun i => i != 0)) := by
  show (asInts (is.map D.int)).map _ = _
  rw [asInts_map]; rfl
theorem sum2_ints (is : List Int) : sum2D [.tup (is.map D.int)] = some (.int is.sum) := by
  show (asInts (is.map D.int)).map _ = _
  rw [asInts_map]; rfl
theorem comp_wN {k : Nat} {xs : List D} (h : ∀ x ∈ xs, Pb k x) (hl : xs.length < 16777216) {f : D → M Bx D} (hf : ∀ x, Pb k x → f x = ret (.bl (wN x))) : (bcM allD (consM (compM (itM (ret (.tup xs))) fun count => (eltM (ret true) (f count))) (ret [])) : M Bx D) = ret (.bl (xs.all wN)) := by
  rw [r_itT, comp_ok (by omega), compL_all (fun x => D.bl (wN x)) fun x hx => by rw [hf x (h x hx), r_eltT, r_bnd], r_bnd, r_consM, r_bcM, s_all, r_lift]
theorem are_counts_ok {n k : Nat} {ws : List Nat} (hw : ws.length = n) {d : D} (h : Pb k d) : m_are_counts [nT ws, d] = ret (.bl (okC n d)) := by
  show bnd (b_are_counts (nT ws) d) endF = _
  unfold b_are_counts
  cases h with
  | tup hx hl =>
    rename_i k xs
    have hc := comp_wN hx hl (f := fun x => andM (bnd (consM (ret x) (ret [])) m_is_whole) (op2M geD (ret x) (ret (.int 0)))) fun x h => cond_ok h
    have hlen : (bcM lenD (consM (ret (nT ws)) (ret [])) : M Bx D) = ret (iN n) := by
      unfold nT
      rw [r_consM, r_bcM, r_lenT, r_lift, List.length_map, hw]
    rw [hc, hlen]
    by_cases c : xs.length = n
    · cases ha : xs.all wN with
      | false => simp (disch := (first | assumption | (refine InP.mem ?_; assumption) | omega | solve_by_elim | (simp only [InP, decide_eq_true_eq, List.map_id', List.length_map, List.length_cons, List.length_nil, List.length_append, List.length_range, List.length_zip, List.length_tail, List.length_take, List.length_drop, rI_len, rng_len, mem_rI, List.mem_range] at *; omega) | (simp only [List.map_id']; assumption) | simp)) only [r_bnd, r_lift, r_op2, r_cmpT, r_asB, r_asI, r_valT, r_tru_bl, r_tru_int, r_tru_lst, r_tru_tup, r_tru_non, r_notT, r_andTt, r_andTf, r_andT, r_orTt, r_orTf, r_orT, r_andMt, r_andMf, r_andM, r_orMt, r_orMf, r_orM, r_notM, r_negM, r_negD, r_ifM, r_consM, r_tupM, r_lstM, r_tup0, r_tup1, r_tup2, r_tup3, r_tup4, r_tup5, r_tup6, r_lst0, r_lst1, r_lst2, r_lst3, r_lst4, r_lst5, r_bcM, r_lenT, r_lenL, List.length_map, r_tupT, r_tupL, r_lstT, r_lstL, r_int, r_ixM, r_ixT, r_ixL, r_ptM, r_slM, r_slT, r_slL, r_itT, r_itL, r_isi, r_add, r_sub, r_lt, r_le, r_gt, r_ge, r_isN, r_isntN, r_isB, r_isntB, nonNon, nonI, nonT, nonL, nonB, nonS, r_retF, r_endR, r_endN, r_iteF, r_seqN, r_seqR, r_seqB, r_seqC, r_forM, r_own, r_ownd, r_par, r_parN, r_parNN, r_eltT, r_eltF, r_elt, r_eq, r_ne, r_eqb, r_neb, compG_ret, compG_none, compG_retIf, compG_filt, eltM_ret, forL_G, forG_unit, forG_find, chainM_ret, chainT_ret, s_iteB, s_iteT, s_comp, s_all, s_any, s_sum, max2_ok, min2_ok, s_zipL, s_zipT, zipT_map, s_pat2, s_pat3, s_app, s_extL, s_extT, s_count, s_atR, s_atC0, s_atC1, s_atC2, s_in_nats, s_nin_nats, List.map_map, Function.comp_apply, Bool.false_eq_true, if_true, if_false, ↓reduceIte, Bool.not_true, Bool.not_false, Bool.and_true, Bool.true_and, Bool.or_false, Bool.false_or, Bool.and_false, Bool.false_and, Bool.or_true, Bool.true_or, decide_true, decide_false, i_tuple_tuple, c]; simp [okC, ha]
      | true =>
        obtain ⟨is, e, hi⟩ := ints_all ha
        subst e
        have e1 := any2_ints is
        rw [List.length_map] at c
        simp (disch := (first | assumption | (refine InP.mem ?_; assumption) | omega | solve_by_elim | (simp only [InP, decide_eq_true_eq, List.map_id', List.length_map, List.length_cons, List.length_nil, List.length_append, List.length_range, List.length_zip, List.length_tail, List.length_take, List.length_drop, rI_len, rng_len, mem_rI, List.mem_range] at *; omega) | (simp only [List.map_id']; assumption) | simp)) only [r_bnd, r_lift, r_op2, r_cmpT, r_asB, r_asI, r_valT, r_tru_bl, r_tru_int, r_tru_lst, r_tru_tup, r_tru_non, r_notT, r_andTt, r_andTf, r_andT, r_orTt, r_orTf, r_orT, r_andMt, r_andMf, r_andM, r_orMt, r_orMf, r_orM, r_notM, r_negM, r_negD, r_ifM, r_consM, r_tupM, r_lstM, r_tup0, r_tup1, r_tup2, r_tup3, r_tup4, r_tup5, r_tup6, r_lst0, r_lst1, r_lst2, r_lst3, r_lst4, r_lst5, r_bcM, r_lenT, r_lenL, List.length_map, r_tupT, r_tupL, r_lstT, r_lstL, r_int, r_ixM, r_ixT, r_ixL, r_ptM, r_slM, r_slT, r_slL, r_itT, r_itL, r_isi, r_add, r_sub, r_lt, r_le, r_gt, r_ge, r_isN, r_isntN, r_isB, r_isntB, nonNon, nonI, nonT, nonL, nonB, nonS, r_retF, r_endR, r_endN, r_iteF, r_seqN, r_seqR, r_seqB, r_seqC, r_forM, r_own, r_ownd, r_par, r_parN, r_parNN, r_eltT, r_eltF, r_elt, r_eq, r_ne, r_eqb, r_neb, compG_ret, compG_none, compG_retIf, compG_filt, eltM_ret, forL_G, forG_unit, forG_find, chainM_ret, chainT_ret, s_iteB, s_iteT, s_comp, s_all, s_any, s_sum, max2_ok, min2_ok, s_zipL, s_zipT, zipT_map, s_pat2, s_pat3, s_app, s_extL, s_extT, s_count, s_atR, s_atC0, s_atC1, s_atC2, s_in_nats, s_nin_nats, List.map_map, Function.comp_apply, Bool.false_eq_true, if_true, if_false, ↓reduceIte, Bool.not_true, Bool.not_false, Bool.and_true, Bool.true_and, Bool.or_false, Bool.false_or, Bool.and_false, Bool.false_and, Bool.or_true, Bool.true_or, decide_true, decide_false, i_tuple_tuple, c, e1]
        have : okC n (.tup (is.map .int)) = is.any fun i => i != 0 := by
          show (decide ((is.map D.int).length = n) && ((is.map D.int).all wN && (is.map D.int).any nz)) = _
          rw [ha, any_nz, decide_eq_true (by rw [List.length_map]; exact c)]; rfl
        rw [this]
    · have c' : ¬ ((xs.length : Int) = (n : Int)) := by omega
      simp (disch := (first | assumption | (refine InP.mem ?_; assumption) | omega | solve_by_elim | (simp only [InP, decide_eq_true_eq, List.map_id', List.length_map, List.length_cons, List.length_nil, List.length_append, List.length_range, List.length_zip, List.length_tail, List.length_take, List.length_drop, rI_len, rng_len, mem_rI, List.mem_range] at *; omega) | (simp only [List.map_id']; assumption) | simp)) only [r_bnd, r_lift, r_op2, r_cmpT, r_asB, r_asI, r_valT, r_tru_bl, r_tru_int, r_tru_lst, r_tru_tup, r_tru_non, r_notT, r_andTt, r_andTf, r_andT, r_orTt, r_orTf, r_orT, r_andMt, r_andMf, r_andM, r_orMt, r_orMf, r_orM, r_notM, r_negM, r_negD, r_ifM, r_consM, r_tupM, r_lstM, r_tup0, r_tup1, r_tup2, r_tup3, r_tup4, r_tup5, r_tup6, r_lst0, r_lst1, r_lst2, r_lst3, r_lst4, r_lst5, r_bcM, r_lenT, r_lenL, List.length_map, r_tupT, r_tupL, r_lstT, r_lstL, r_int, r_ixM, r_ixT, r_ixL, r_ptM, r_slM, r_slT, r_slL, r_itT, r_itL, r_isi, r_add, r_sub, r_lt, r_le, r_gt, r_ge, r_isN, r_isntN, r_isB, r_isntB, nonNon, nonI, nonT, nonL, nonB, nonS, r_retF, r_endR, r_endN, r_iteF, r_seqN, r_seqR, r_seqB, r_seqC, r_forM, r_own, r_ownd, r_par, r_parN, r_parNN, r_eltT, r_eltF, r_elt, r_eq, r_ne, r_eqb, r_neb, compG_ret, compG_none, compG_retIf, compG_filt, eltM_ret, forL_G, forG_unit, forG_find, chainM_ret, chainT_ret, s_iteB, s_iteT, s_comp, s_all, s_any, s_sum, max2_ok, min2_ok, s_zipL, s_zipT, zipT_map, s_pat2, s_pat3, s_app, s_extL, s_extT, s_count, s_atR, s_atC0, s_atC1, s_atC2, s_in_nats, s_nin_nats, List.map_map, Function.comp_apply, Bool.false_eq_true, if_true, if_false, ↓reduceIte, Bool.not_true, Bool.not_false, Bool.and_true, Bool.true_and, Bool.or_false, Bool.false_or, Bool.and_false, Bool.false_and, Bool.or_true, Bool.true_or, decide_true, decide_false, i_tuple_tuple, c']
      simp [okC, c]
  | _ => simp (disch := (first | assumption | (refine InP.mem ?_; assumption) | omega | solve_by_elim | (simp only [InP, decide_eq_true_eq, List.map_id', List.length_map, List.length_cons, List.length_nil, List.length_append, List.length_range, List.length_zip, List.length_tail, List.length_take, List.length_drop, rI_len, rng_len, mem_rI, List.mem_range] at *; omega) | (simp only [List.map_id']; assumption) | simp)) only [r_bnd, r_lift, r_op2, r_cmpT, r_asB, r_asI, r_valT, r_tru_bl, r_tru_int, r_tru_lst, r_tru_tup, r_tru_non, r_notT, r_andTt, r_andTf, r_andT, r_orTt, r_orTf, r_orT, r_andMt, r_andMf, r_andM, r_orMt, r_orMf, r_orM, r_notM, r_negM, r_negD, r_ifM, r_consM, r_tupM, r_lstM, r_tup0, r_tup1, r_tup2, r_tup3, r_tup4, r_tup5, r_tup6, r_lst0, r_lst1, r_lst2, r_lst3, r_lst4, r_lst5, r_bcM, r_lenT, r_lenL, List.length_map, r_tupT, r_tupL, r_lstT, r_lstL, r_int, r_ixM, r_ixT, r_ixL, r_ptM, r_slM, r_slT, r_slL, r_itT, r_itL, r_isi, r_add, r_sub, r_lt, r_le, r_gt, r_ge, r_isN, r_isntN, r_isB, r_isntB, nonNon, nonI, nonT, nonL, nonB, nonS, r_retF, r_endR, r_endN, r_iteF, r_seqN, r_seqR, r_seqB, r_seqC, r_forM, r_own, r_ownd, r_par, r_parN, r_parNN, r_eltT, r_eltF, r_elt, r_eq, r_ne, r_eqb, r_neb, compG_ret, compG_none, compG_retIf, compG_filt, eltM_ret, forL_G, forG_unit, forG_find, chainM_ret, chainT_ret, s_iteB, s_iteT, s_comp, s_all, s_any, s_sum, max2_ok, min2_ok, s_zipL, s_zipT, zipT_map, s_pat2, s_pat3, s_app, s_extL, s_extT, s_count, s_atR, s_atC0, s_atC1, s_atC2, s_in_nats, s_nin_nats, List.map_map, Function.comp_apply, Bool.false_eq_true, if_true, if_false, ↓reduceIte, Bool.not_true, Bool.not_false, Bool.and_true, Bool.true_and, Bool.or_false, Bool.false_or, Bool.and_false, Bool.false_and, Bool.or_true, Bool.true_or, decide_true, decide_false, i_tuple_NoneType, i_tuple_bool, i_tuple_int, i_tuple_str, i_tuple_list]; rfl
theorem fine_ok2 {n k : Nat} {d : D} (h : Pb k d) : (andM (isiM "tuple" (ret d)) (andM (op2M eqD (bcM lenD (consM (ret d) (ret []))) (ret (iN n))) (bcM allD (consM (compM (itM (ret d)) fun k_131 => (eltM (ret true) (andM (isiM "int" (ret k_131)) (andM (notM (isiM "bool" (ret k_131))) (op2M geD (ret k_131) (ret (.int 0))))))) (ret [])))) : M Bx D) = ret (.bl (fiB n d)) := by
  cases h with
  | tup hx hl =>
    rename_i k xs
    have hc := comp_wN hx hl (f := fun x => (andM (isiM "int" (ret x)) (andM (notM (isiM "bool" (ret x))) (op2M geD (ret x) (ret (.int 0)))))) fun x h => cond2_ok h
    rw [hc]
    by_cases c : xs.length = n
    · simp (disch := (first | assumption | (refine InP.mem ?_; assumption) | omega | solve_by_elim | (simp only [InP, decide_eq_true_eq, List.map_id', List.length_map, List.length_cons, List.length_nil, List.length_append, List.length_range, List.length_zip, List.length_tail, List.length_take, List.length_drop, rI_len, rng_len, mem_rI, List.mem_range] at *; omega) | (simp only [List.map_id']; assumption) | simp)) only [r_bnd, r_lift, r_op2, r_cmpT, r_asB, r_asI, r_valT, r_tru_bl, r_tru_int, r_tru_lst, r_tru_tup, r_tru_non, r_notT, r_andTt, r_andTf, r_andT, r_orTt, r_orTf, r_orT, r_andMt, r_andMf, r_andM, r_orMt, r_orMf, r_orM, r_notM, r_negM, r_negD, r_ifM, r_consM, r_tupM, r_lstM, r_tup0, r_tup1, r_tup2, r_tup3, r_tup4, r_tup5, r_tup6, r_lst0, r_lst1, r_lst2, r_lst3, r_lst4, r_lst5, r_bcM, r_lenT, r_lenL, List.length_map, r_tupT, r_tupL, r_lstT, r_lstL, r_int, r_ixM, r_ixT, r_ixL, r_ptM, r_slM, r_slT, r_slL, r_itT, r_itL, r_isi, r_add, r_sub, r_lt, r_le, r_gt, r_ge, r_isN, r_isntN, r_isB, r_isntB, nonNon, nonI, nonT, nonL, nonB, nonS, r_retF, r_endR, r_endN, r_iteF, r_seqN, r_seqR, r_seqB, r_seqC, r_forM, r_own, r_ownd, r_par, r_parN, r_parNN, r_eltT, r_eltF, r_elt, r_eq, r_ne, r_eqb, r_neb, compG_ret, compG_none, compG_retIf, compG_filt, eltM_ret, forL_G, forG_unit, forG_find, chainM_ret, chainT_ret, s_iteB, s_iteT, s_comp, s_all, s_any, s_sum, max2_ok, min2_ok, s_zipL, s_zipT, zipT_map, s_pat2, s_pat3, s_app, s_extL, s_extT, s_count, s_atR, s_atC0, s_atC1, s_atC2, s_in_nats, s_nin_nats, List.map_map, Function.comp_apply, Bool.false_eq_true, if_true, if_false, ↓reduceIte, Bool.not_true, Bool.not_false, Bool.and_true, Bool.true_and, Bool.or_false, Bool.false_or, Bool.and_false, Bool.false_and, Bool.or_true, Bool.true_or, decide_true, decide_false, i_tuple_tuple, c]; simp [fiB, c]
    · have c' : ¬ ((xs.length : Int) = (n : Int)) := by omega
      simp (disch := (first | assumption | (refine InP.mem ?_; assumption) | omega | solve_by_elim | (simp only [InP, decide_eq_true_eq, List.map_id', List.length_map, List.length_cons, List.length_nil, List.length_append, List.length_range, List.length_zip, List.length_tail, List.length_take, List.length_drop, rI_len, rng_len, mem_rI, List.mem_range] at *; omega) | (simp only [List.map_id']; assumption) | simp)) only [r_bnd, r_lift, r_op2, r_cmpT, r_asB, r_asI, r_valT, r_tru_bl, r_tru_int, r_tru_lst, r_tru_tup, r_tru_non, r_notT, r_andTt, r_andTf, r_andT, r_orTt, r_orTf, r_orT, r_andMt, r_andMf, r_andM, r_orMt, r_orMf, r_orM, r_notM, r_negM, r_negD, r_ifM, r_consM, r_tupM, r_lstM, r_tup0, r_tup1, r_tup2, r_tup3, r_tup4, r_tup5, r_tup6, r_lst0, r_lst1, r_lst2, r_lst3, r_lst4, r_lst5, r_bcM, r_lenT, r_lenL, List.length_map, r_tupT, r_tupL, r_lstT, r_lstL, r_int, r_ixM, r_ixT, r_ixL, r_ptM, r_slM, r_slT, r_slL, r_itT, r_itL, r_isi, r_add, r_sub, r_lt, r_le, r_gt, r_ge, r_isN, r_isntN, r_isB, r_isntB, nonNon, nonI, nonT, nonL, nonB, nonS, r_retF, r_endR, r_endN, r_iteF, r_seqN, r_seqR, r_seqB, r_seqC, r_forM, r_own, r_ownd, r_par, r_parN, r_parNN, r_eltT, r_eltF, r_elt, r_eq, r_ne, r_eqb, r_neb, compG_ret, compG_none, compG_retIf, compG_filt, eltM_ret, forL_G, forG_unit, forG_find, chainM_ret, chainT_ret, s_iteB, s_iteT, s_comp, s_all, s_any, s_sum, max2_ok, min2_ok, s_zipL, s_zipT, zipT_map, s_pat2, s_pat3, s_app, s_extL, s_extT, s_count, s_atR, s_atC0, s_atC1, s_atC2, s_in_nats, s_nin_nats, List.map_map, Function.comp_apply, Bool.false_eq_true, if_true, if_false, ↓reduceIte, Bool.not_true, Bool.not_false, Bool.and_true, Bool.true_and, Bool.or_false, Bool.false_or, Bool.and_false, Bool.false_and, Bool.or_true, Bool.true_or, decide_true, decide_false, i_tuple_tuple, c']; simp [fiB, c]
  | _ => simp (disch := (first | assumption | (refine InP.mem ?_; assumption) | omega | solve_by_elim | (simp only [InP, decide_eq_true_eq, List.map_id', List.length_map, List.length_cons, List.length_nil, List.length_append, List.length_range, List.length_zip, List.length_tail, List.length_take, List.length_drop, rI_len, rng_len, mem_rI, List.mem_range] at *; omega) | (simp only [List.map_id']; assumption) | simp)) only [r_bnd, r_lift, r_op2, r_cmpT, r_asB, r_asI, r_valT, r_tru_bl, r_tru_int, r_tru_lst, r_tru_tup, r_tru_non, r_notT, r_andTt, r_andTf, r_andT, r_orTt, r_orTf, r_orT, r_andMt, r_andMf, r_andM, r_orMt, r_orMf, r_orM, r_notM, r_negM, r_negD, r_ifM, r_consM, r_tupM, r_lstM, r_tup0, r_tup1, r_tup2, r_tup3, r_tup4, r_tup5, r_tup6, r_lst0, r_lst1, r_lst2, r_lst3, r_lst4, r_lst5, r_bcM, r_lenT, r_lenL, List.length_map, r_tupT, r_tupL, r_lstT, r_lstL, r_int, r_ixM, r_ixT, r_ixL, r_ptM, r_slM, r_slT, r_slL, r_itT, r_itL, r_isi, r_add, r_sub, r_lt, r_le, r_gt, r_ge, r_isN, r_isntN, r_isB, r_isntB, nonNon, nonI, nonT, nonL, nonB, nonS, r_retF, r_endR, r_endN, r_iteF, r_seqN, r_seqR, r_seqB, r_seqC, r_forM, r_own, r_ownd, r_par, r_parN, r_parNN, r_eltT, r_eltF, r_elt, r_eq, r_ne, r_eqb, r_neb, compG_ret, compG_none, compG_retIf, compG_filt, eltM_ret, forL_G, forG_unit, forG_find, chainM_ret, chainT_ret, s_iteB, s_iteT, s_comp, s_all, s_any, s_sum, max2_ok, min2_ok, s_zipL, s_zipT, zipT_map, s_pat2, s_pat3, s_app, s_extL, s_extT, s_count, s_atR, s_atC0, s_atC1, s_atC2, s_in_nats, s_nin_nats, List.map_map, Function.comp_apply, Bool.false_eq_true, if_true, if_false, ↓reduceIte, Bool.not_true, Bool.not_false, Bool.and_true, Bool.true_and, Bool.or_false, Bool.false_or, Bool.and_false, Bool.false_and, Bool.or_true, Bool.true_or, decide_true, decide_false, i_tuple_NoneType, i_tuple_bool, i_tuple_int, i_tuple_str, i_tuple_list]; rfl
theorem due_ok2 {n k : Nat} {d : D} (h : Pb k d) : (ifM (valT (ret (.bl (fiB n d)))) (andM (ret (.bl (fiB n d))) (op2M gtD (bcM sum2D (consM (ret d) (ret []))) (ret (.int 0)))) (ret (.bl false)) : M Bx D) = ret (.bl (okC n d)) := by
  cases hb : fiB n d with
  | false =>
    have : okC n d = false := by
      cases d with
      | tup xs =>
        show (decide (xs.length = n) && (xs.all wN && xs.any nz)) = false
        have hb' : (decide (xs.length = n) && xs.all wN) = false := hb
        rw [← Bool.and_assoc, hb']; rfl
      | _ => rfl
    simp (disch := (first | assumption | (refine InP.mem ?_; assumption) | omega | solve_by_elim | (simp only [InP, decide_eq_true_eq, List.map_id', List.length_map, List.length_cons, List.length_nil, List.length_append, List.length_range, List.length_zip, List.length_tail, List.length_take, List.length_drop, rI_len, rng_len, mem_rI, List.mem_range] at *; omega) | (simp only [List.map_id']; assumption) | simp)) only [r_bnd, r_lift, r_op2, r_cmpT, r_asB, r_asI, r_valT, r_tru_bl, r_tru_int, r_tru_lst, r_tru_tup, r_tru_non, r_notT, r_andTt, r_andTf, r_andT, r_orTt, r_orTf, r_orT, r_andMt, r_andMf, r_andM, r_orMt, r_orMf, r_orM, r_notM, r_negM, r_negD, r_ifM, r_consM, r_tupM, r_lstM, r_tup0, r_tup1, r_tup2, r_tup3, r_tup4, r_tup5, r_tup6, r_lst0, r_lst1, r_lst2, r_lst3, r_lst4, r_lst5, r_bcM, r_lenT, r_lenL, List.length_map, r_tupT, r_tupL, r_lstT, r_lstL, r_int, r_ixM, r_ixT, r_ixL, r_ptM, r_slM, r_slT, r_slL, r_itT, r_itL, r_isi, r_add, r_sub, r_lt, r_le, r_gt, r_ge, r_isN, r_isntN, r_isB, r_isntB, nonNon, nonI, nonT, nonL, nonB, nonS, r_retF, r_endR, r_endN, r_iteF, r_seqN, r_seqR, r_seqB, r_seqC, r_forM, r_own, r_ownd, r_par, r_parN, r_parNN, r_eltT, r_eltF, r_elt, r_eq, r_ne, r_eqb, r_neb, compG_ret, compG_none, compG_retIf, compG_filt, eltM_ret, forL_G, forG_unit, forG_find, chainM_ret, chainT_ret, s_iteB, s_iteT, s_comp, s_all, s_any, s_sum, max2_ok, min2_ok, s_zipL, s_zipT, zipT_map, s_pat2, s_pat3, s_app, s_extL, s_extT, s_count, s_atR, s_atC0, s_atC1, s_atC2, s_in_nats, s_nin_nats, List.map_map, Function.comp_apply, Bool.false_eq_true, if_true, if_false, ↓reduceIte, Bool.not_true, Bool.not_false, Bool.and_true, Bool.true_and, Bool.or_false, Bool.false_or, Bool.and_false, Bool.false_and, Bool.or_true, Bool.true_or, decide_true, decide_false, this]
  | true =>
    cases d with
    | tup xs =>
      unfold fiB at hb
      rw [Bool.and_eq_true] at hb
      obtain ⟨is, e, hi⟩ := ints_all hb.2
      subst e
      have e1 := sum2_ints is
      have e2 := (sum_pos hi).2
      have : okC n (.tup (is.map .int)) = is.any fun i => i != 0 := by
        show (decide ((is.map D.int).length = n) && ((is.map D.int).all wN && (is.map D.int).any nz)) = _
        rw [hb.1, hb.2, any_nz]; rfl
      simp (disch := (first | assumption | (refine InP.mem ?_; assumption) | omega | solve_by_elim | (simp only [InP, decide_eq_true_eq, List.map_id', List.length_map, List.length_cons, List.length_nil, List.length_append, List.length_range, List.length_zip, List.length_tail, List.length_take, List.length_drop, rI_len, rng_len, mem_rI, List.mem_range] at *; omega) | (simp only [List.map_id']; assumption) | simp)) only [r_bnd, r_lift, r_op2, r_cmpT, r_asB, r_asI, r_valT, r_tru_bl, r_tru_int, r_tru_lst, r_tru_tup, r_tru_non, r_notT, r_andTt, r_andTf, r_andT, r_orTt, r_orTf, r_orT, r_andMt, r_andMf, r_andM, r_orMt, r_orMf, r_orM, r_notM, r_negM, r_negD, r_ifM, r_consM, r_tupM, r_lstM, r_tup0, r_tup1, r_tup2, r_tup3, r_tup4, r_tup5, r_tup6, r_lst0, r_lst1, r_lst2, r_lst3, r_lst4, r_lst5, r_bcM, r_lenT, r_lenL, List.length_map, r_tupT, r_tupL, r_lstT, r_lstL, r_int, r_ixM, r_ixT, r_ixL, r_ptM, r_slM, r_slT, r_slL, r_itT, r_itL, r_isi, r_add, r_sub, r_lt, r_le, r_gt, r_ge, r_isN, r_isntN, r_isB, r_isntB, nonNon, nonI, nonT, nonL, nonB, nonS, r_retF, r_endR, r_endN, r_iteF, r_seqN, r_seqR, r_seqB, r_seqC, r_forM, r_own, r_ownd, r_par, r_parN, r_parNN, r_eltT, r_eltF, r_elt, r_eq, r_ne, r_eqb, r_neb, compG_ret, compG_none, compG_retIf, compG_filt, eltM_ret, forL_G, forG_unit, forG_find, chainM_ret, chainT_ret, s_iteB, s_iteT, s_comp, s_all, s_any, s_sum, max2_ok, min2_ok, s_zipL, s_zipT, zipT_map, s_pat2, s_pat3, s_app, s_extL, s_extT, s_count, s_atR, s_atC0, s_atC1, s_atC2, s_in_nats, s_nin_nats, List.map_map, Function.comp_apply, Bool.false_eq_true, if_true, if_false, ↓reduceIte, Bool.not_true, Bool.not_false, Bool.and_true, Bool.true_and, Bool.or_false, Bool.false_or, Bool.and_false, Bool.false_and, Bool.or_true, Bool.true_or, decide_true, decide_false, e1, this, e2]
    | _ => cases hb
end Lw

namespace Lw
open PySem PySem.Spec PyProof.Rows L2 Sn
theorem wp_andT {n k : M Bx Bool} {P : Bool → Prop} (h : Wp n fun t => Wp (if t = true then k else ret false) P) : Wp (andT n k) P := Wp.bnd h
theorem str_small : (List.range 100).all (fun n => PyData.strOk (Str.ofString (toString (n : Int))) && decide ((n : Int).natAbs.log2 < 1920)) = true := by decide +kernel
theorem strD_small {i : Int} (h : 0 ≤ i) (h2 : i < 100) : ∃ x, strD [.int i] = some (.str x) ∧ PyData.strOk x = true := by
  obtain ⟨n, rfl⟩ := Int.eq_ofNat_of_zero_le h
  have := List.all_eq_true.mp str_small n (List.mem_range.mpr (by omega))
  rw [Bool.and_eq_true, decide_eq_true_eq] at this
  exact ⟨_, (if_pos this.2 : (if (n : Int).natAbs.log2 < 1920 then some (D.str (Str.ofString (toString (n : Int)))) else none) = _), this.1⟩
/-! ### _law_bent -/
inductive Pt : Nat → D → Prop
  | int {n : Nat} {i : Int} (h : 0 ≤ i ∧ i < 100) : Pt n (.int i)
  | tup {n : Nat} {xs : List D} (h : ∀ x ∈ xs, Pt n x) (hl : xs.length ≤ 1000) : Pt (n + 1) (.tup xs)
theorem Pt.pb {n : Nat} {d : D} (h : Pt n d) : Pb n d := by
  induction h with
  | int h => exact .int _
  | tup h hl ih => exact .tup ih (by omega)
theorem cut_mem {α : Type} {xs : List α} {i j : Option Int} {x : α} (h : x ∈ cutL xs i j) : x ∈ xs := List.mem_of_mem_drop (List.mem_of_mem_take h)
theorem cut_len {α : Type} (xs : List α) (i j : Option Int) : (cutL xs i j).length ≤ xs.length := by
  unfold cutL
  rw [List.length_take, List.length_drop]; omega
theorem pick_wp {xs : List D} {p : Int} {P : D → Prop} (h : 0 ≤ p) (h2 : p < xs.length) (hl : xs.length ≤ 16777216) (q : ∀ x ∈ xs, P x) : Wp (ixM (lstM (ret xs)) (ret (.int p)) : M Bx D) P := by
  unfold lstM
  rw [r_bnd, lstD_le hl, r_lift, r_ixM, r_ixL, atI_ok h h2, r_lift]
  exact Wp.ret (q _ (List.getElem_mem _))
theorem pb_str {n : Nat} {x : Str} (h : PyData.strOk x = true) : Pb n (.str x) := .str h
theorem bent_int {n : Nat} {i : Int} (h : 0 ≤ i ∧ i < 100) (self : List D → M Bx D) : Wp (bnd (b__law_bent self .box (.int i)) endF) (Pb (n + 2)) := by
  unfold b__law_bent
  obtain ⟨x, ex, hx⟩ := strD_small h.1 h.2
  simp only [r_isi, i_tuple_int, r_lift, r_valT, r_tru_bl, r_andTf, r_iteF, Bool.false_eq_true, if_false, r_bnd, r_seqN]
  refine Wp.bnd (Wp.bnd (Wp.drawc (by decide) (by decide) fun p p1 p2 => ?_))
  simp only [i_int_int, i_bool_int, r_lift, r_valT, r_tru_bl, r_notT, Bool.not_false, r_andTt, if_true, r_op2, r_add, r_sub, r_eq, r_consM, r_bcM, ex, tupM, r_bnd, r_tup1, r_iteF, r_negM, r_negD]
  refine Wp.bnd (Wp.retF (pick_wp p1 (by simpa using p2) (by simp) fun y hy => Wp.ret (Wp.ret ?_)))
  simp only [List.mem_cons, List.not_mem_nil, or_false] at hy
  rcases hy with rfl | rfl | rfl | rfl | rfl | rfl | rfl | rfl
  · exact .int _
  · exact .int _
  · exact .int _
  · exact .bl _
  · exact .non
  · exact .str hx
  · exact .tup (fun z hz => by rw [List.mem_singleton.mp hz]; exact .int _) (by simp)
  · exact .int _
theorem bent_tup {n : Nat} {xs : List D} (h : ∀ x ∈ xs, Pt n x) (hl : xs.length ≤ 1000) (self : List D → M Bx D) (ih : ∀ x ∈ xs, Wp (self [.box, x]) (Pb (n + 2))) : Wp (bnd (b__law_bent self .box (.tup xs)) endF) (Pb (n + 3)) := by
  unfold b__law_bent
  have pe : ∀ x ∈ xs, Pb (n + 2) x := fun x hx => (h x hx).pb.mono (by omega)
  have pc : ∀ i j, ∀ x ∈ cutL xs i j, Pb (n + 2) x := fun i j x hx => pe x (cut_mem hx)
  have addC : ∀ ys zs : List D, ys.length ≤ 2000 → zs.length ≤ 2000 → (op2M addD (ret (.tup ys)) (ret (.tup zs)) : M Bx D) = ret (.tup (ys ++ zs)) := fun ys zs h1 h2 => by
    rw [r_op2, addT_ok (by omega), r_lift]
  refine Wp.bnd (Wp.ite (wp_andT ?_))
  refine Wp.eq (n := ret true) (by simp) (Wp.ret ?_)
  rw [if_pos rfl]
  refine wp_andT (Wp.eq (n := ret (decide ((0 : Int) < (xs.length : Int)))) (by simp) ?_)
  -- the other way: a pick
  have other : Wp (seqF (.nx () : Fl Unit Unit) fun (s_00 : Unit) => (bnd (bnd (consM (ret .box) (consM (ret (.int 8)) (ret []))) m_draw) fun pick_59 => (iteF (valT (isiM "tuple" (ret (.tup xs)))) (retF (ixM (lstM (consM (op2M addD (ret (.tup xs)) (slM (ret (.tup xs)) (ret none) (ptM (ret (.int 1))))) (consM (slM (ret (.tup xs)) (ptM (ret (.int 1))) (ret none)) (consM (revM (ret (.tup xs))) (consM (op2M addD (ret (.tup xs)) (tupM (consM (ret (.int 0)) (ret [])))) (consM (op2M addD (slM (ret (.tup xs)) (ret none) (ptM (ret (.int 1)))) (ret (.tup xs))) (consM (slM (ret (.tup xs)) (ret none) (ptM (negM (ret (.int 1))))) (consM (ret .non) (consM (slM (ret (.tup xs)) (ret none) (ptM (ret (.int 1)))) (ret [])))))))))) (ret pick_59))) (ret (.nx ())) fun (s_60 : Unit) => (iteF (andT (valT (isiM "int" (ret (.tup xs)))) (notT (valT (isiM "bool" (ret (.tup xs)))))) (retF (ixM (lstM (consM (op2M addD (ret (.tup xs)) (ret (.int 1))) (consM (op2M subD (ret (.tup xs)) (ret (.int 1))) (consM (negM (ret (.tup xs))) (consM (op2M eqD (ret (.tup xs)) (ret (.int 1))) (consM (ret .non) (consM (bcM strD (consM (ret (.tup xs)) (ret []))) (consM (tupM (consM (ret (.tup xs)) (ret []))) (consM (op2M addD (ret (.tup xs)) (ret (.int 1001))) (ret [])))))))))) (ret pick_59))) (ret (.nx ())) fun (s_61 : Unit) => (iteF (valT (isiM "str" (ret (.tup xs)))) (retF (ixM (lstM (consM (op2M addD (ret (.tup xs)) (ret (.str "a"))) (consM (slM (ret (.tup xs)) (ptM (ret (.int 1))) (ret none)) (consM (ret (.str "any")) (consM stuck (consM (ret (.int 0)) (consM (ret (.str "")) (consM (op2M addD (ret (.tup xs)) (ret (.str "z0z0z0z0"))) (consM (tupM (consM (ret (.tup xs)) (ret []))) (ret [])))))))))) (ret pick_59))) (ret (.nx ())) fun (s_62 : Unit) => (retF (ixM (lstM (consM (ret (.int 0)) (consM (ret (.int 1)) (consM (ret .non) (consM (ret (.bl true)) (consM (ret (.bl false)) (consM (ret (.str "a")) (consM (tupM (ret [])) (consM (negM (ret (.int 1))) (ret [])))))))))) (ret pick_59))))))) : M Bx (Fl Unit Unit)) fun a => Wp (endF a : M Bx D) (Pb (n + 3)) := by
    rw [r_seqN]
    refine Wp.bnd (Wp.drawc (by decide) (by decide) fun p p1 p2 => ?_)
    rw [r_isi, i_tuple_tuple, r_lift, r_valT, r_tru_bl, r_iteF, if_pos rfl]
    have l1 := cut_len xs none (some 1)
    have l2 := cut_len xs (some 1) none
    have l3 := cut_len xs none (some (-1))
    have er : (revM (ret (.tup xs)) : M Bx D) = ret (.tup xs.reverse) := rfl
    have en : (ptM (negM (ret (.int 1))) : M Bx (Option Int)) = ret (some (-1)) := rfl
    simp only [r_ptM, en, r_slM, r_slT, r_lift, er, tupM, r_consM, r_bnd, r_tup1, r_tup2, addC xs _ (by omega) (by omega : (cutL xs none (some 1)).length ≤ 2000), addC xs [_] (by omega) (by simp), addC _ xs (by omega : (cutL xs none (some 1)).length ≤ 2000) (by omega)]
    refine Wp.bnd (Wp.retF (pick_wp p1 (by simpa using p2) (by simp) fun y hy => Wp.ret (Wp.ret ?_)))
    simp only [List.mem_cons, List.not_mem_nil, or_false] at hy
    have two : ∀ {ys zs : List D}, (∀ y ∈ ys, Pb (n + 2) y) → (∀ y ∈ zs, Pb (n + 2) y) → ys.length ≤ 2000 → zs.length ≤ 2000 → Pb (n + 3) (.tup (ys ++ zs)) := fun h1 h2 h3 h4 => .tup (fun y hy => (List.mem_append.mp hy).elim (h1 y) (h2 y)) (by rw [List.length_append]; omega)
    rcases hy with rfl | rfl | rfl | rfl | rfl | rfl | rfl | rfl
    · exact two pe (pc _ _) (by omega) (by omega)
    · exact .tup (pc _ _) (by omega)
    · exact .tup (fun y hy => pe y (List.mem_reverse.mp hy)) (by rw [List.length_reverse]; omega)
    · exact two pe (fun y hy => by rw [List.mem_singleton.mp hy]; exact .int _) (by omega) (by simp)
    · exact two (pc _ _) pe (by omega) (by omega)
    · exact .tup (pc _ _) (by omega)
    · exact .non
    · exact .tup (pc _ _) (by omega)
  refine Wp.ret ?_
  by_cases c : (0 : Int) < (xs.length : Int)
  · rw [decide_eq_true c, if_pos rfl]
    refine Wp.cmp (Wp.drawc (by decide) (by decide) fun g _ _ => Wp.ret ⟨_, r_gt _ _, ?_⟩)
    by_cases c2 : 0 < g
    · rw [decide_eq_true c2, if_pos rfl]
      refine Wp.bnd (Wp.mono (P := fun d => ∃ a : Int, d = .int a ∧ 0 ≤ a ∧ a < xs.length) (Wp.drawc (k := (xs.length : Int)) c (by omega) fun a a1 a2 => ⟨a, rfl, a1, a2⟩) fun d ⟨a, e, a1, a2⟩ => ?_)
      subst e
      obtain ⟨k, rfl⟩ := Int.eq_ofNat_of_zero_le a1
      have ei : ixD (.tup xs) (.int (k : Int)) = some (xs[k]'(by omega)) := by rw [r_ixT, atI_ok a1 a2]; rfl
      have l1 := cut_len xs none (some (k : Int))
      have l2 := cut_len xs (some ((k : Int) + 1)) none
      rw [r_ixM, ei, r_lift, r_consM, r_consM, r_bnd, r_ptM, r_slM, r_slT, r_lift, r_op2, r_add, r_lift, r_ptM, r_slM, r_slT, r_lift]
      refine Wp.retF (Wp.op2 (Wp.op2 (Wp.ret (Wp.bnd (Wp.cons ((ih _ (List.getElem_mem (by omega))).mono fun y hy => Wp.ret ?_)))))) 
      rw [r_tup1, r_lift]
      refine Wp.ret ⟨_, addT_ok (by rw [List.length_singleton]; omega), Wp.ret ⟨_, addT_ok (by rw [List.length_append, List.length_singleton]; omega), Wp.ret (Wp.ret ?_)⟩⟩
      refine .tup (fun z hz => ?_) (by rw [List.length_append, List.length_append, List.length_singleton]; omega)
      rcases List.mem_append.mp hz with hz | hz
      · rcases List.mem_append.mp hz with hz | hz
        · exact pc _ _ z hz
        · rw [List.mem_singleton.mp hz]; exact hy
      · exact pc _ _ z hz
    · rw [decide_eq_false c2, if_neg Bool.false_ne_true]
      exact Wp.ret other
  · rw [decide_eq_false c, if_neg Bool.false_ne_true]
    exact Wp.ret (Wp.ret other)
theorem bent_wp : ∀ (n k : Nat) (d : D), Pt n d → Wp (m__law_bent (n + 1 + k) [.box, d]) (Pb (n + 2))
  | n, k, _, .int h => by
    rw [show n + 1 + k = (n + k) + 1 by omega]
    exact bent_int h _
  | n + 1, k, _, .tup h hl => by
    rw [show n + 1 + 1 + k = (n + 1 + k) + 1 by omega]
    exact bent_tup h hl _ fun x hx => bent_wp n k x (h x hx)
end Lw

namespace Lw
open PySem PySem.Spec PyProof.Rows L2 Sn
/-! ### what is drawn -/
theorem nats_of {b : Nat} : ∀ {ys : List D}, (∀ y ∈ ys, ∃ k : Nat, y = .int (k : Int) ∧ b ≤ k ∧ k < 9 + b) → ∃ ws : List Nat, ys = ws.map (fun k : Nat => D.int (k : Int)) ∧ ∀ w ∈ ws, b ≤ w ∧ w < 9 + b
  | [], _ => ⟨[], rfl, fun w h => by cases h⟩
  | y :: ys, h => by
    obtain ⟨k, rfl, h1, h2⟩ := h y List.mem_cons_self
    obtain ⟨ws, rfl, h3⟩ := nats_of (ys := ys) fun z hz => h z (List.mem_cons_of_mem _ hz)
    exact ⟨k :: ws, rfl, fun w hw => by
      rcases List.mem_cons.mp hw with rfl | hw
      · exact ⟨h1, h2⟩
      · exact h3 w hw⟩
theorem drawn_tup {n b : Nat} (hn : n ≤ 5) {f : D → M Bx D} (hf : ∀ x, Wp (f x) fun d => ∃ k : Nat, d = .int (k : Int) ∧ b ≤ k ∧ k < 9 + b) : Wp (bcM tupleD (consM (compM (rng1M (ret (iN n))) fun k => eltM (ret true) (f k)) (ret [])) : M Bx D) fun d => ∃ ws, d = nT ws ∧ ws.length = n ∧ ∀ w ∈ ws, b ≤ w ∧ w < 9 + b := by
  rw [rng1_ok (by omega) (by omega)]
  refine Wp.bc (Wp.cons (Wp.compM (Wp.ret ⟨by rw [rng_len]; omega, Wp.comp (R := fun _ y => ∃ k : Nat, y = .int (k : Int) ∧ b ≤ k ∧ k < 9 + b) (fun x _ => Wp.elt ((hf x).mono fun y hy => ⟨y, rfl, hy⟩)) fun ys hl hr => ?_⟩)))
  rw [rng_len] at hl
  obtain ⟨ws, rfl, h2⟩ := nats_of (b := b) (ys := ys) fun y hy => by
    obtain ⟨i, hi, rfl⟩ := List.mem_iff_getElem.mp hy
    exact hr i _ _ (List.getElem?_eq_getElem (by rw [rng_len]; omega)) (List.getElem?_eq_getElem hi)
  rw [List.length_map] at hl
  refine Wp.ret ⟨_, r_tupL _, ws, rfl, by omega, h2⟩
theorem one_draw : ∀ x : D, Wp (op2M addD (ret (.int 1)) (bnd (consM (ret .box) (consM (ret (.int 9)) (ret []))) m_draw) : M Bx D) fun d => ∃ k : Nat, d = .int (k : Int) ∧ 1 ≤ k ∧ k < 9 + 1 := fun _ =>
  Wp.op2 (Wp.ret (Wp.drawn (by decide) (by decide) fun k hk => ⟨_, r_add _ _, k + 1, by rw [show (1 : Int) + (k : Int) = ((k + 1 : Nat) : Int) by omega], by omega, by omega⟩))
theorem zero_draw : ∀ x : D, Wp (bnd (consM (ret .box) (consM (ret (.int 9)) (ret []))) m_draw : M Bx D) fun d => ∃ k : Nat, d = .int (k : Int) ∧ 0 ≤ k ∧ k < 9 + 0 := fun _ =>
  Wp.drawn (by decide) (by decide) fun k hk => ⟨k, rfl, by omega, by omega⟩
theorem rep_ok (x : D) {n : Nat} (h1 : 1 ≤ n) (h5 : n ≤ 5) : (op2M mulWD (ret (.tup [x])) (ret (iN n)) : M Bx D) = ret (.tup (List.replicate n x)) := by
  rw [r_op2]
  have : mulWD (.tup [x]) (iN n) = some (.tup (List.replicate n x)) := by
    unfold mulWD mulD
    dsimp only
    rw [if_pos ⟨by omega, by omega, by
      by_cases e : n = 1
      · exact .inr (.inl (by omega))
      · exact .inr (.inr ⟨by omega, by omega, by simp⟩)⟩]
    congr 2
    rw [Int.toNat_natCast]
    clear h1 h5
    induction n with
    | zero => rfl
    | succ n ih => rw [List.replicate_succ, List.flatten_cons, ih, List.replicate_succ]; rfl
  rw [this, r_lift]
/-! ### counts as weights -/
theorem dg_zip : ∀ {ws cs : List Nat}, ws.length = cs.length → dg (ws.zip cs) = cs.zip cs ∧ CN (ws.zip cs) = cs.sum ∧ WS (ws.zip cs) = ws.sum
  | [], [], _ => ⟨rfl, rfl, rfl⟩
  | w :: ws, c :: cs, h => by
    obtain ⟨h1, h2, h3⟩ := dg_zip (ws := ws) (cs := cs) (by simpa using h)
    refine ⟨?_, ?_, ?_⟩
    · rw [List.zip_cons_cons, List.zip_cons_cons, ← h1]; rfl
    · rw [List.zip_cons_cons, CN, h2, List.sum_cons]
    · rw [List.zip_cons_cons, WS, h3, List.sum_cons]
  | [], _ :: _, h => by simp at h
  | _ :: _, [], h => by simp at h
theorem not_less {n : Nat} {ws cs : List Nat} (h : GW n ws cs) (h9 : ∀ w ∈ ws, w ≤ 9) (hs : 0 < ws.sum) (hc : 0 < cs.sum) : ¬ ((LK cs cs).1 * (LK ws cs).2 < (LK ws cs).1 * (LK cs cs).2) := by
  unfold LK
  rw [low_less (Nat.pow_pos hc) (Nat.pow_pos hs)]
  obtain ⟨d1, d2, d3⟩ := dg_zip (ws := ws) (cs := cs) (by rw [h.lw, h.lc])
  obtain ⟨_, d4, _⟩ := dg_zip (ws := cs) (cs := cs) rfl
  have hg : GoodL (ws.zip cs) := fun p hp => ⟨h9 _ (List.of_mem_zip hp).1, h.hc _ (List.of_mem_zip hp).2⟩
  have := gibbs hg (by rw [h.len]; exact h.n5)
  rw [d1, d2, d3] at this
  rw [d2, d4]
  omega
theorem zip_dbl : ∀ (ws cs : List Nat), (ws.map fun w => 2 * w).zip cs = (ws.zip cs).map fun p => (2 * p.1, p.2)
  | [], _ => rfl
  | _ :: _, [] => rfl
  | w :: ws, c :: cs => by rw [List.map_cons, List.zip_cons_cons, zip_dbl ws cs]; rfl
theorem cn_dbl : ∀ l : List (Nat × Nat), CN (l.map fun p => (2 * p.1, p.2)) = CN l
  | [] => rfl
  | p :: l => by rw [List.map_cons, CN, cn_dbl l, CN]
theorem sum_dbl : ∀ ws : List Nat, (ws.map fun w => 2 * w).sum = 2 * ws.sum
  | [] => rfl
  | w :: ws => by rw [List.map_cons, List.sum_cons, sum_dbl ws, List.sum_cons]; omega
theorem lk_dbl {ws cs : List Nat} (hs : 0 < ws.sum) : LK (ws.map fun w => 2 * w) cs = LK ws cs := by
  unfold LK
  rw [zip_dbl, cn_dbl, sum_dbl, pw_dbl]
  refine low_eq_of (Nat.pow_pos (by omega)) (Nat.pow_pos hs) ?_
  rw [Nat.mul_pow]
  ac_rfl
theorem double_ok {ws : List Nat} (hl : ws.length ≤ 5) (hw : ∀ w ∈ ws, w < 32) : (bcM tupleD (consM (compM (itM (ret (nT ws))) fun weight_136 => (eltM (ret true) (op2M mulWD (ret (.int 2)) (ret weight_136)))) (ret [])) : M Bx D) = ret (nT (ws.map fun w => 2 * w)) := by
  have hc : chkL ws = some ws := if_pos (by omega)
  have hi : (itM (ret (nT ws)) : M Bx (List D)) = ret (ws.map fun k : Nat => D.int (k : Int)) := by unfold nT; rw [r_itT]
  rw [hi, ob_compM, hc, ob_some, compL_O (fun w => some (2 * w)) (fun k : Nat => D.int (k : Int)) (fun w h => by
    have h5 : w < 2 ^ 5 := hw w h
    rw [r_op2, show D.int 2 = iN 2 from rfl, mul_nat (a := 2) (b := 5) (by decide) h5 (by decide), r_eltT, r_bnd, ob_some]), mapO_some, ob_some, r_bnd, r_consM, r_bcM, r_tupL, r_lift]
  unfold nT
  rfl
/-! ### rows of weights -/
theorem asTups_nT : ∀ rs : List (List Nat), asTups (rs.map nT) = some (rs.map fun ws => ws.map fun k : Nat => (k : Int))
  | [] => rfl
  | ws :: rs => by
    rw [List.map_cons]
    show (asInts (ws.map fun k : Nat => D.int (k : Int))).bind (fun is => (asTups (rs.map nT)).map fun r => is :: r) = _
    rw [asInts_nats, asTups_nT rs]
    rfl
theorem pull {rs : List (List Nat)} : ∀ {ks : List (List Int)}, (∀ k ∈ ks, k ∈ rs.map fun ws => ws.map fun k : Nat => (k : Int)) → ∃ us : List (List Nat), ks = us.map (fun ws => ws.map fun k : Nat => (k : Int)) ∧ ∀ u ∈ us, u ∈ rs
  | [], _ => ⟨[], rfl, fun u h => by cases h⟩
  | k :: ks, h => by
    obtain ⟨us, rfl, h2⟩ := pull (ks := ks) fun x hx => h x (List.mem_cons_of_mem _ hx)
    obtain ⟨ws, hw, rfl⟩ := List.mem_map.mp (h k List.mem_cons_self)
    exact ⟨ws :: us, rfl, fun u hu => by
      rcases List.mem_cons.mp hu with rfl | hu
      · exact hw
      · exact h2 u hu⟩
open Classical in
theorem ssD_of {xs : List D} {ks : List (List Int)} {d : Nat} (h : asTups xs = some ks) (ok : tupOk d ks) : ssD [.lst xs] = some (.lst ((canT ks).map tI')) := by
  unfold ssD
  simp only [h, Option.bind_some]
  rw [if_pos ⟨d, ok⟩]
theorem ss_rows {n : Nat} {rs : List (List Nat)} (h1 : 1 ≤ n) (h : ∀ ws ∈ rs, ws.length = n ∧ ∀ w ∈ ws, w ≤ 9) (hne : rs ≠ []) (hl : rs.length ≤ 4) : ∃ us : List (List Nat), ssM (ret (.lst (rs.map nT)) : M Bx D) = ret (.lst (us.map nT)) ∧ us ≠ [] ∧ us.length ≤ 4 ∧ ∀ u ∈ us, u ∈ rs := by
  obtain ⟨ks, hks⟩ : ∃ ks, ks = rs.map fun ws : List Nat => ws.map fun k : Nat => (k : Int) := ⟨_, rfl⟩
  have ok : tupOk n ks := by
    refine ⟨by rw [hks, List.length_map]; omega, h1, fun k hk => ?_⟩
    rw [hks] at hk
    obtain ⟨ws, hw, rfl⟩ := List.mem_map.mp hk
    refine ⟨by rw [List.length_map]; exact (h ws hw).1, fun m hm => ?_⟩
    obtain ⟨w, hw2, rfl⟩ := List.mem_map.mp hm
    have := (h ws hw).2 w hw2
    omega
  obtain ⟨us, e, hu⟩ := pull (rs := rs) (ks := canT ks) fun k hk => by
    rw [← hks]
    exact (canT_mem ok).mp hk
  refine ⟨us, ?_, ?_, ?_, hu⟩
  · have e1 : ssD [.lst (rs.map nT)] = some (.lst ((canT ks).map tI')) := by
      exact ssD_of (by rw [asTups_nT, hks]) ok
    unfold ssM
    rw [r_bnd, e1, r_lift, e, List.map_map]
    congr 2
    apply List.map_congr_left
    intro u _
    simp only [Function.comp_apply, tI', nT, List.map_map]
    rfl
  · intro e0
    rw [e0] at e
    obtain ⟨ws, hw⟩ := List.exists_mem_of_ne_nil _ hne
    have : (ws.map fun k : Nat => (k : Int)) ∈ canT ks := (canT_mem ok).mpr (by rw [hks]; exact List.mem_map.mpr ⟨ws, hw, rfl⟩)
    rw [e] at this
    cases this
  · have := canT_len ks
    rw [e, hks, List.length_map, List.length_map] at this
    omega
theorem pl_nT (ws : List Nat) : Pl 1 (nT ws) := .tup fun x hx => by
  obtain ⟨k, _, rfl⟩ := List.mem_map.mp hx
  exact .int _
theorem nin_nT (x : Int) (ws : List Nat) : ∃ b, ninD (.int x) (nT ws) = some (.bl b) := by
  have h1 : shD (.int x) = true := (Pl.int (n := 0) x).sh (by decide)
  have h2 : shD (nT ws) = true := (pl_nT ws).sh (by decide)
  exact ⟨_, if_pos ⟨h1, h2⟩⟩
theorem pb_nT {ws : List Nat} (hl : ws.length ≤ 100) : Pb 1 (nT ws) := .tup (fun x hx => by
  obtain ⟨k, _, rfl⟩ := List.mem_map.mp hx
  exact .int _) (by rw [List.length_map]; omega)
theorem pt_nT {ws : List Nat} (hl : ws.length ≤ 100) (h : ∀ w ∈ ws, w < 100) : Pt 1 (nT ws) := .tup (fun x hx => by
  obtain ⟨k, hk, rfl⟩ := List.mem_map.mp hx
  have := h k hk
  exact .int ⟨by omega, by omega⟩) (by rw [List.length_map]; omega)
theorem pb_rD (r : Rr) : Pb 1 (rD r) := .tup (fun x hx => by
  simp only [List.mem_cons, List.not_mem_nil, or_false] at hx
  rcases hx with rfl | rfl <;> exact .int _) (by simp)
theorem same_rii (r : Rr) (a b : Int) : m__law_same 60 [.tup [rD r, .int a, .int b], .tup [rD r, .int a, .int b]] = ret (.bl true) := same60 (n := 2) (.tup (fun x hx => by
  simp only [List.mem_cons, List.not_mem_nil, or_false] at hx
  rcases hx with rfl | rfl | rfl
  · exact pb_rD _
  · exact .int _
  · exact .int _) (by simp)) (by decide)
theorem same_ir (a : Int) (r : Rr) : m__law_same 60 [.tup [.int a, rD r], .tup [.int a, rD r]] = ret (.bl true) := same60 (n := 2) (.tup (fun x hx => by
  simp only [List.mem_cons, List.not_mem_nil, or_false] at hx
  rcases hx with rfl | rfl
  · exact .int _
  · exact pb_rD _) (by simp)) (by decide)
theorem same_tR (rs : List Rr) (h : rs.length ≤ 100) : m__law_same 60 [tR rs, tR rs] = ret (.bl true) := same60 (n := 2) (.tup (fun x hx => by
  obtain ⟨r, _, rfl⟩ := List.mem_map.mp hx
  exact pb_rD r) (by rw [List.length_map]; omega)) (by decide)
theorem pl_rD (r : Rr) : Pl 1 (rD r) := .tup fun x hx => by
  simp only [List.mem_cons, List.not_mem_nil, or_false] at hx
  rcases hx with rfl | rfl <;> exact .int _
theorem neR (r : Rr) : neD (rD r) (rD r) = some (.bl false) := by rw [ne_pl (pl_rD r) (pl_rD r) (by decide) (by decide), decide_eq_true rfl]; rfl
theorem e2 (a b : Int) : D.tup [.int a, .int b] = rD (a, b) := rfl
end Lw

namespace Lw
open PySem PySem.Spec PyProof.Rows L2 Sn
/-! ### the law -/
theorem forW {mi : M Bx (List D)} {f : Unit → D → M Bx (Fl Unit Unit)} {k : Unit → M Bx (Fl Unit Unit)} {P : Fl Unit Unit → Prop} (h : Wp mi fun xs => Wp (forL f k xs ()) P) : Wp (forM' mi f () k) P := Wp.bnd h
theorem counts_wp {n : Nat} {cs : List Nat} (h1 : 1 ≤ n) (h5 : n ≤ 5) (hl : cs.length = n) (hc : ∀ c ∈ cs, c ≤ 8) : Wp (ifM (valT (bcM any2D (consM (ret (nT cs)) (ret [])))) (ret (nT cs)) (op2M mulWD (tupM (consM (ret (.int 1)) (ret []))) (ret (iN n))) : M Bx D) fun d => ∃ cs, d = nT cs ∧ cs.length = n ∧ (∀ c ∈ cs, c ≤ 8) ∧ 0 < cs.sum := by
  have ha : any2D [nT cs] = some (.bl ((cs.map fun k : Nat => (k : Int)).any fun i => i != 0)) := by
    have := any2_ints (cs.map fun k : Nat => (k : Int))
    rw [List.map_map] at this
    exact this
  have hr : (op2M mulWD (tupM (consM (ret (.int 1)) (ret []))) (ret (iN n)) : M Bx D) = ret (nT (List.replicate n 1)) := by
    rw [r_consM, r_tupM, r_tup1, r_lift, rep_ok _ h1 h5]
    unfold nT
    rw [List.map_replicate]
    rfl
  rw [hr, r_consM, r_bcM, ha, r_lift, r_valT, r_tru_bl, r_ifM]
  split
  · rename_i hany
    refine Wp.ret ⟨cs, rfl, hl, hc, ?_⟩
    obtain ⟨i, hi, hne⟩ := List.any_eq_true.mp hany
    obtain ⟨c, hcm, rfl⟩ := List.mem_map.mp hi
    have hc0 : 0 < c := by
      have : (c : Int) ≠ 0 := by simpa using hne
      omega
    clear hr ha hany hi hl hc
    induction cs with
    | nil => cases hcm
    | cons x xs ih =>
      rw [List.sum_cons]
      rcases List.mem_cons.mp hcm with rfl | h
      · omega
      · have := ih h; omega
  · refine Wp.ret ⟨List.replicate n 1, rfl, List.length_replicate, fun c hc => ?_, ?_⟩
    · rw [(List.mem_replicate.mp hc).2]; decide
    · rw [List.sum_replicate_nat]; omega
theorem sum_pos1 {ws : List Nat} {n : Nat} (h1 : 1 ≤ n) (hl : ws.length = n) (h : ∀ w ∈ ws, 1 ≤ w) : 0 < ws.sum := by
  cases ws with
  | nil => rw [List.length_nil] at hl; omega
  | cons w ws => rw [List.sum_cons]; have := h w List.mem_cons_self; omega
theorem okC_nT {n : Nat} {cs : List Nat} (hl : cs.length = n) (hs : 0 < cs.sum) : okC n (nT cs) = true := by
  have e : nT cs = .tup ((cs.map fun k : Nat => (k : Int)).map D.int) := by unfold nT; rw [List.map_map]; rfl
  have hp := sum_pos (is := cs.map fun k : Nat => (k : Int)) fun i hi => by
    obtain ⟨c, _, rfl⟩ := List.mem_map.mp hi
    omega
  rw [e]
  show (decide (((cs.map fun k : Nat => (k : Int)).map D.int).length = n) && (((cs.map fun k : Nat => (k : Int)).map D.int).all wN && ((cs.map fun k : Nat => (k : Int)).map D.int).any nz)) = true
  rw [any_nz, ← hp.2, sum_nats, decide_eq_true (show 0 < ((cs.sum : Nat) : Int) by omega), decide_eq_true (by rw [List.length_map, List.length_map, hl]), Bool.true_and, Bool.and_true, List.all_map, List.all_map, List.all_eq_true]
  intro c _
  simp [wN]
theorem value_ok {n k : Nat} {ws : List Nat} (hw : ws.length = n) {y : D} (h : Pb k y) : (bnd (andM (isiM "tuple" (ret y)) (andM (op2M eqD (bcM lenD (consM (ret y) (ret []))) (ret (iN n))) (bcM allD (consM (compM (itM (ret y)) fun k_131 => (eltM (ret true) (andM (isiM "int" (ret k_131)) (andM (notM (isiM "bool" (ret k_131))) (op2M geD (ret k_131) (ret (.int 0))))))) (ret []))))) fun fine_129 => (iteF (notT (valT (bnd (consM (bnd (consM (ret (nT ws)) (consM (ret y) (ret []))) m_are_counts) (consM (ifM (valT (ret fine_129)) (andM (ret fine_129) (op2M gtD (bcM sum2D (consM (ret y) (ret []))) (ret (.int 0)))) (ret (.bl false))) (ret []))) (m__law_same 60)))) (retF (ret (.bl false))) (ret (.nx ())) fun (s_130 : Unit) => (ret (.nx ()))) : M Bx (Fl Unit Unit)) = ret (.nx ()) := by
  have e1 := fine_ok2 (n := n) h
  have e2 := due_ok2 (n := n) h
  have e3 := are_counts_ok hw h
  have e4 : m__law_same 60 [.bl (okC n y), .bl (okC n y)] = ret (.bl true) := same60 (n := 0) (.bl _) (by decide)
  rw [e1, r_bnd, e2, r_consM, r_consM, r_bnd, e3, r_consM, r_consM, r_bnd, e4, r_valT, r_tru_bl, r_notT, r_iteF, if_neg (by decide), r_bnd, r_seqN]
theorem rows_wp {n : Nat} (h5 : n ≤ 5) {ws us : List Nat} (hw : ws.length = n ∧ ∀ w ∈ ws, 1 ≤ w ∧ w < 9 + 1) (hu : us.length = n ∧ ∀ w ∈ us, 1 ≤ w ∧ w < 9 + 1) : Wp (op2M addD (lstM (consM (ret (nT ws)) (consM (ret (nT us)) (ret [])))) (compM (rng1M (bnd (consM (ret .box) (consM (ret (.int 3)) (ret []))) m_draw)) fun step_134 => (eltM (ret true) (bcM tupleD (consM (compM (rng1M (ret (iN n))) fun k_135 => (eltM (ret true) (op2M addD (ret (.int 1)) (bnd (consM (ret .box) (consM (ret (.int 9)) (ret []))) m_draw)))) (ret []))))) : M Bx D) fun d => ∃ rs : List (List Nat), d = .lst (rs.map nT) ∧ rs ≠ [] ∧ rs.length ≤ 4 ∧ ∀ r ∈ rs, r.length = n ∧ ∀ w ∈ r, 1 ≤ w ∧ w < 9 + 1 := by
  refine Wp.op2 (Wp.eq (n := ret (.lst [nT ws, nT us])) (by rw [r_consM, r_consM, r_lstM, r_lst2, r_lift]) (Wp.ret ?_))
  refine Wp.mono (P := fun d => ∃ rs : List (List Nat), d = .lst (rs.map nT) ∧ rs.length ≤ 2 ∧ ∀ r ∈ rs, r.length = n ∧ ∀ w ∈ r, 1 ≤ w ∧ w < 9 + 1) ?_ fun d ⟨rs, e, r1, r2⟩ => ?_
  · refine Wp.compM (Wp.rng1 (Wp.drawn (by decide) (by decide) fun k hk => ?_))
    refine ⟨(k : Int), rfl, ⟨by omega, by omega⟩, by rw [rng_len]; omega, ?_⟩
    refine (Wp.compS (R := fun y => ∃ r : List Nat, y = nT r ∧ r.length = n ∧ ∀ w ∈ r, 1 ≤ w ∧ w < 9 + 1) (fun x _ => Wp.elt ((drawn_tup h5 one_draw).mono fun d h y e => by cases e; exact h)) fun ys hl hr => ?_)
    rw [rng_len] at hl
    have : ∃ rs : List (List Nat), ys = rs.map nT ∧ ∀ r ∈ rs, r.length = n ∧ ∀ w ∈ r, 1 ≤ w ∧ w < 9 + 1 := by
      clear hl
      induction ys with
      | nil => exact ⟨[], rfl, fun r h => by cases h⟩
      | cons y ys ih =>
        obtain ⟨rs, rfl, h2⟩ := ih fun z hz => hr z (List.mem_cons_of_mem _ hz)
        obtain ⟨r, rfl, h3⟩ := hr y List.mem_cons_self
        exact ⟨r :: rs, rfl, fun q hq => by
          rcases List.mem_cons.mp hq with rfl | hq
          · exact h3
          · exact h2 q hq⟩
    obtain ⟨rs, rfl, h2⟩ := this
    rw [List.length_map] at hl
    exact ⟨rs, rfl, by omega, h2⟩
  · subst e
    refine ⟨_, addL_ok (by rw [List.length_map]; simp; omega), ws :: us :: rs, rfl, by simp, by simp; omega, fun r hr => ?_⟩
    rcases List.mem_cons.mp hr with rfl | hr
    · exact hw
    · rcases List.mem_cons.mp hr with rfl | hr
      · exact hu
      · exact r2 r hr
theorem law_wp : Wp (bnd b_law endF) fun d => d = .bl true := by
  unfold b_law
  refine Wp.bnd (Wp.forN (rng1_ok (by decide) (by decide)) (fun x _ => ?_) ?_)
  · refine Wp.bnd (Wp.op2 (Wp.ret (Wp.drawn (by decide) (by decide) fun n0 hn => ⟨_, r_add _ _, ?_⟩)))
    obtain ⟨n, hn1, hn5, en⟩ : ∃ n : Nat, 1 ≤ n ∧ n ≤ 5 ∧ (1 : Int) + (n0 : Int) = (n : Int) := ⟨n0 + 1, by omega, by omega, by omega⟩
    rw [en]
    refine Wp.bnd ((drawn_tup hn5 one_draw).mono fun d ⟨ws, e, w1, w2⟩ => ?_)
    subst e
    refine Wp.bnd ((drawn_tup hn5 one_draw).mono fun d ⟨us, e, u1, u2⟩ => ?_)
    subst e
    refine Wp.bnd ((drawn_tup hn5 zero_draw).mono fun d ⟨cs0, e, k1, k2⟩ => ?_)
    subst e
    refine Wp.bnd ((counts_wp hn1 hn5 k1 fun c hc => by have := k2 c hc; omega).mono fun d ⟨cs, e, c1, c2, c3⟩ => ?_)
    subst e
    have gw : GW n ws cs := ⟨w1, c1, hn5, fun w hw => by have := w2 w hw; omega, c2⟩
    have gu : GW n us cs := ⟨u1, c1, hn5, fun w hw => by have := u2 w hw; omega, c2⟩
    have gc : GW n cs cs := ⟨c1, c1, hn5, fun w hw => by have := c2 w hw; omega, c2⟩
    have sw := sum_pos1 hn1 w1 fun w hw => (w2 w hw).1
    have su := sum_pos1 hn1 u1 fun w hw => (u2 w hw).1
    have gd : GW n (ws.map fun w => 2 * w) cs := ⟨by rw [List.length_map]; exact w1, c1, hn5, fun w hw => by
      obtain ⟨v, hv, rfl⟩ := List.mem_map.mp hw
      have := w2 v hv; omega, c2⟩
    have sd : 0 < (ws.map fun w => 2 * w).sum := by rw [sum_dbl]; omega
    have a1 := are_counts_ok w1 (pb_nT (ws := cs) (by omega))
    rw [okC_nT c1 c3] at a1
    refine Wp.off (by simp (disch := (first | assumption | (refine InP.mem ?_; assumption) | omega | solve_by_elim | (simp only [InP, decide_eq_true_eq, List.map_id', List.length_map, List.length_cons, List.length_nil, List.length_append, List.length_range, List.length_zip, List.length_tail, List.length_take, List.length_drop, rI_len, rng_len, mem_rI, List.mem_range] at *; omega) | (simp only [List.map_id']; assumption) | simp)) only [r_bnd, r_lift, r_op2, r_cmpT, r_asB, r_asI, r_valT, r_tru_bl, r_tru_int, r_tru_lst, r_tru_tup, r_tru_non, r_notT, r_andTt, r_andTf, r_andT, r_orTt, r_orTf, r_orT, r_andMt, r_andMf, r_andM, r_orMt, r_orMf, r_orM, r_notM, r_negM, r_negD, r_ifM, r_consM, r_tupM, r_lstM, r_tup0, r_tup1, r_tup2, r_tup3, r_tup4, r_tup5, r_tup6, r_lst0, r_lst1, r_lst2, r_lst3, r_lst4, r_lst5, r_bcM, r_lenT, r_lenL, List.length_map, r_tupT, r_tupL, r_lstT, r_lstL, r_int, r_ixM, r_ixT, r_ixL, r_ptM, r_slM, r_slT, r_slL, r_itT, r_itL, r_isi, r_add, r_sub, r_lt, r_le, r_gt, r_ge, r_isN, r_isntN, r_isB, r_isntB, nonNon, nonI, nonT, nonL, nonB, nonS, r_retF, r_endR, r_endN, r_iteF, r_seqN, r_seqR, r_seqB, r_seqC, r_forM, r_own, r_ownd, r_par, r_parN, r_parNN, r_eltT, r_eltF, r_elt, r_eq, r_ne, r_eqb, r_neb, compG_ret, compG_none, compG_retIf, compG_filt, eltM_ret, forL_G, forG_unit, forG_find, chainM_ret, chainT_ret, s_iteB, s_iteT, s_comp, s_all, s_any, s_sum, max2_ok, min2_ok, s_zipL, s_zipT, zipT_map, s_pat2, s_pat3, s_app, s_extL, s_extT, s_count, s_atR, s_atC0, s_atC1, s_atC2, s_in_nats, s_nin_nats, List.map_map, Function.comp_apply, Bool.false_eq_true, if_true, if_false, ↓reduceIte, Bool.not_true, Bool.not_false, Bool.and_true, Bool.true_and, Bool.or_false, Bool.false_or, Bool.and_false, Bool.false_and, Bool.or_true, Bool.true_or, decide_true, decide_false, a1]) ?_
    have lw := law_likely_ok gw sw
    have lu := law_likely_ok gu su
    refine Wp.parE (Wp.eq (by rw [r_consM, r_consM, r_bnd, lw]) (Wp.ret (Wp.eq (by rw [r_consM, r_consM, r_bnd, lu]) (Wp.ret ?_))))
    have fw := gw.fin sw
    have fu := gu.fin su
    have fc := gc.fin c3
    refine Wp.val (v := .int (cmpR (LK ws cs) (LK us cs))) ?_ ?_
    · have e1 := less_ok fw fu
      have e2 := less_ok fu fw
      rw [← cmp_eq]
      simp (disch := (first | assumption | (refine InP.mem ?_; assumption) | omega | solve_by_elim | (simp only [InP, decide_eq_true_eq, List.map_id', List.length_map, List.length_cons, List.length_nil, List.length_append, List.length_range, List.length_zip, List.length_tail, List.length_take, List.length_drop, rI_len, rng_len, mem_rI, List.mem_range] at *; omega) | (simp only [List.map_id']; assumption) | simp)) only [r_bnd, r_lift, r_op2, r_cmpT, r_asB, r_asI, r_valT, r_tru_bl, r_tru_int, r_tru_lst, r_tru_tup, r_tru_non, r_notT, r_andTt, r_andTf, r_andT, r_orTt, r_orTf, r_orT, r_andMt, r_andMf, r_andM, r_orMt, r_orMf, r_orM, r_notM, r_negM, r_negD, r_ifM, r_consM, r_tupM, r_lstM, r_tup0, r_tup1, r_tup2, r_tup3, r_tup4, r_tup5, r_tup6, r_lst0, r_lst1, r_lst2, r_lst3, r_lst4, r_lst5, r_bcM, r_lenT, r_lenL, List.length_map, r_tupT, r_tupL, r_lstT, r_lstL, r_int, r_ixM, r_ixT, r_ixL, r_ptM, r_slM, r_slT, r_slL, r_itT, r_itL, r_isi, r_add, r_sub, r_lt, r_le, r_gt, r_ge, r_isN, r_isntN, r_isB, r_isntB, nonNon, nonI, nonT, nonL, nonB, nonS, r_retF, r_endR, r_endN, r_iteF, r_seqN, r_seqR, r_seqB, r_seqC, r_forM, r_own, r_ownd, r_par, r_parN, r_parNN, r_eltT, r_eltF, r_elt, r_eq, r_ne, r_eqb, r_neb, compG_ret, compG_none, compG_retIf, compG_filt, eltM_ret, forL_G, forG_unit, forG_find, chainM_ret, chainT_ret, s_iteB, s_iteT, s_comp, s_all, s_any, s_sum, max2_ok, min2_ok, s_zipL, s_zipT, zipT_map, s_pat2, s_pat3, s_app, s_extL, s_extT, s_count, s_atR, s_atC0, s_atC1, s_atC2, s_in_nats, s_nin_nats, List.map_map, Function.comp_apply, Bool.false_eq_true, if_true, if_false, ↓reduceIte, Bool.not_true, Bool.not_false, Bool.and_true, Bool.true_and, Bool.or_false, Bool.false_or, Bool.and_false, Bool.false_and, Bool.or_true, Bool.true_or, decide_true, decide_false, e1, e2]
      split
      · rfl
      · split <;> rfl
    · have m1 := likelihood_ok gw sw
      have m2 := likelier_ok gw gu sw su
      have m3 := likelier_ok gu gw su sw
      have m4 := same_rii (LK ws cs) (cmpR (LK ws cs) (LK us cs)) (cmpR (LK us cs) (LK ws cs))
      have m5 := cmp_neg (LK ws cs) (LK us cs)
      refine Wp.off (by simp (disch := (first | assumption | (refine InP.mem ?_; assumption) | omega | solve_by_elim | (simp only [InP, decide_eq_true_eq, List.map_id', List.length_map, List.length_cons, List.length_nil, List.length_append, List.length_range, List.length_zip, List.length_tail, List.length_take, List.length_drop, rI_len, rng_len, mem_rI, List.mem_range] at *; omega) | (simp only [List.map_id']; assumption) | simp)) only [r_bnd, r_lift, r_op2, r_cmpT, r_asB, r_asI, r_valT, r_tru_bl, r_tru_int, r_tru_lst, r_tru_tup, r_tru_non, r_notT, r_andTt, r_andTf, r_andT, r_orTt, r_orTf, r_orT, r_andMt, r_andMf, r_andM, r_orMt, r_orMf, r_orM, r_notM, r_negM, r_negD, r_ifM, r_consM, r_tupM, r_lstM, r_tup0, r_tup1, r_tup2, r_tup3, r_tup4, r_tup5, r_tup6, r_lst0, r_lst1, r_lst2, r_lst3, r_lst4, r_lst5, r_bcM, r_lenT, r_lenL, List.length_map, r_tupT, r_tupL, r_lstT, r_lstL, r_int, r_ixM, r_ixT, r_ixL, r_ptM, r_slM, r_slT, r_slL, r_itT, r_itL, r_isi, r_add, r_sub, r_lt, r_le, r_gt, r_ge, r_isN, r_isntN, r_isB, r_isntB, nonNon, nonI, nonT, nonL, nonB, nonS, r_retF, r_endR, r_endN, r_iteF, r_seqN, r_seqR, r_seqB, r_seqC, r_forM, r_own, r_ownd, r_par, r_parN, r_parNN, r_eltT, r_eltF, r_elt, r_eq, r_ne, r_eqb, r_neb, compG_ret, compG_none, compG_retIf, compG_filt, eltM_ret, forL_G, forG_unit, forG_find, chainM_ret, chainT_ret, s_iteB, s_iteT, s_comp, s_all, s_any, s_sum, max2_ok, min2_ok, s_zipL, s_zipT, zipT_map, s_pat2, s_pat3, s_app, s_extL, s_extT, s_count, s_atR, s_atC0, s_atC1, s_atC2, s_in_nats, s_nin_nats, List.map_map, Function.comp_apply, Bool.false_eq_true, if_true, if_false, ↓reduceIte, Bool.not_true, Bool.not_false, Bool.and_true, Bool.true_and, Bool.or_false, Bool.false_or, Bool.and_false, Bool.false_and, Bool.or_true, Bool.true_or, decide_true, decide_false, m1, m2, m3, m5, m4]) ?_
      refine Wp.parE (Wp.ret (Wp.ret ?_))
      refine Wp.forP (fun K => self_loop gc) ?_
      have hcc := gc.pw
      have q1 : m__law_ratio [iN (PW (cs.zip cs)), iN (cs.sum ^ CN (cs.zip cs))] = ret (rD (LK cs cs)) := by
        rw [law_ratio_ok, ratF_nat (Nat.pow_pos c3) (Nat.lt_trans hcc.1 (by decide +kernel)) (Nat.lt_trans hcc.2 (by decide +kernel)), ob_some]
        rfl
      have hnl := not_less gw (fun w hw => by have := w2 w hw; omega) sw c3
      have q2 := less_ok fc fw
      rw [decide_eq_false hnl] at q2
      obtain ⟨bb, q3⟩ := nin_nT 0 cs
      have q4 := likelihood_ok gc c3
      have q5 := likelier_ok gc gw c3 sw
      have q6 : decide (cmpR (LK cs cs) (LK ws cs) = 1) = false := by
        unfold cmpR
        rw [decide_eq_false hnl]
        unfold b2i
        rw [if_neg (by decide), decide_eq_false_iff_not]
        split <;> omega
      have q7 := neR (LK cs cs)
      refine Wp.off (by simp (disch := (first | assumption | (refine InP.mem ?_; assumption) | omega | solve_by_elim | (simp only [InP, decide_eq_true_eq, List.map_id', List.length_map, List.length_cons, List.length_nil, List.length_append, List.length_range, List.length_zip, List.length_tail, List.length_take, List.length_drop, rI_len, rng_len, mem_rI, List.mem_range] at *; omega) | (simp only [List.map_id']; assumption) | simp)) only [r_bnd, r_lift, r_op2, r_cmpT, r_asB, r_asI, r_valT, r_tru_bl, r_tru_int, r_tru_lst, r_tru_tup, r_tru_non, r_notT, r_andTt, r_andTf, r_andT, r_orTt, r_orTf, r_orT, r_andMt, r_andMf, r_andM, r_orMt, r_orMf, r_orM, r_notM, r_negM, r_negD, r_ifM, r_consM, r_tupM, r_lstM, r_tup0, r_tup1, r_tup2, r_tup3, r_tup4, r_tup5, r_tup6, r_lst0, r_lst1, r_lst2, r_lst3, r_lst4, r_lst5, r_bcM, r_lenT, r_lenL, List.length_map, r_tupT, r_tupL, r_lstT, r_lstL, r_int, r_ixM, r_ixT, r_ixL, r_ptM, r_slM, r_slT, r_slL, r_itT, r_itL, r_isi, r_add, r_sub, r_lt, r_le, r_gt, r_ge, r_isN, r_isntN, r_isB, r_isntB, nonNon, nonI, nonT, nonL, nonB, nonS, r_retF, r_endR, r_endN, r_iteF, r_seqN, r_seqR, r_seqB, r_seqC, r_forM, r_own, r_ownd, r_par, r_parN, r_parNN, r_eltT, r_eltF, r_elt, r_eq, r_ne, r_eqb, r_neb, compG_ret, compG_none, compG_retIf, compG_filt, eltM_ret, forL_G, forG_unit, forG_find, chainM_ret, chainT_ret, s_iteB, s_iteT, s_comp, s_all, s_any, s_sum, max2_ok, min2_ok, s_zipL, s_zipT, zipT_map, s_pat2, s_pat3, s_app, s_extL, s_extT, s_count, s_atR, s_atC0, s_atC1, s_atC2, s_in_nats, s_nin_nats, List.map_map, Function.comp_apply, Bool.false_eq_true, if_true, if_false, ↓reduceIte, Bool.not_true, Bool.not_false, Bool.and_true, Bool.true_and, Bool.or_false, Bool.false_or, Bool.and_false, Bool.false_and, Bool.or_true, Bool.true_or, decide_true, decide_false, q1, q2, q3, q4, q5, q6, q7]) ?_
      refine Wp.val (v := nT (ws.map fun w => 2 * w)) (double_ok (by omega) fun w hw => by have := w2 w hw; omega) ?_
      have d1 := likelier_ok gw gd sw sd
      rw [lk_dbl sw, cmp_self] at d1
      refine Wp.off (by simp (disch := (first | assumption | (refine InP.mem ?_; assumption) | omega | solve_by_elim | (simp only [InP, decide_eq_true_eq, List.map_id', List.length_map, List.length_cons, List.length_nil, List.length_append, List.length_range, List.length_zip, List.length_tail, List.length_take, List.length_drop, rI_len, rng_len, mem_rI, List.mem_range] at *; omega) | (simp only [List.map_id']; assumption) | simp)) only [r_bnd, r_lift, r_op2, r_cmpT, r_asB, r_asI, r_valT, r_tru_bl, r_tru_int, r_tru_lst, r_tru_tup, r_tru_non, r_notT, r_andTt, r_andTf, r_andT, r_orTt, r_orTf, r_orT, r_andMt, r_andMf, r_andM, r_orMt, r_orMf, r_orM, r_notM, r_negM, r_negD, r_ifM, r_consM, r_tupM, r_lstM, r_tup0, r_tup1, r_tup2, r_tup3, r_tup4, r_tup5, r_tup6, r_lst0, r_lst1, r_lst2, r_lst3, r_lst4, r_lst5, r_bcM, r_lenT, r_lenL, List.length_map, r_tupT, r_tupL, r_lstT, r_lstL, r_int, r_ixM, r_ixT, r_ixL, r_ptM, r_slM, r_slT, r_slL, r_itT, r_itL, r_isi, r_add, r_sub, r_lt, r_le, r_gt, r_ge, r_isN, r_isntN, r_isB, r_isntB, nonNon, nonI, nonT, nonL, nonB, nonS, r_retF, r_endR, r_endN, r_iteF, r_seqN, r_seqR, r_seqB, r_seqC, r_forM, r_own, r_ownd, r_par, r_parN, r_parNN, r_eltT, r_eltF, r_elt, r_eq, r_ne, r_eqb, r_neb, compG_ret, compG_none, compG_retIf, compG_filt, eltM_ret, forL_G, forG_unit, forG_find, chainM_ret, chainT_ret, s_iteB, s_iteT, s_comp, s_all, s_any, s_sum, max2_ok, min2_ok, s_zipL, s_zipT, zipT_map, s_pat2, s_pat3, s_app, s_extL, s_extT, s_count, s_atR, s_atC0, s_atC1, s_atC2, s_in_nats, s_nin_nats, List.map_map, Function.comp_apply, Bool.false_eq_true, if_true, if_false, ↓reduceIte, Bool.not_true, Bool.not_false, Bool.and_true, Bool.true_and, Bool.or_false, Bool.false_or, Bool.and_false, Bool.false_and, Bool.or_true, Bool.true_or, decide_true, decide_false, d1]) ?_
      refine Wp.bnd ((rows_wp hn5 ⟨w1, w2⟩ ⟨u1, u2⟩).mono fun d ⟨rs0, e, r1, r2, r3⟩ => ?_)
      subst e
      obtain ⟨rs, t1, t2, t3, t4⟩ := ss_rows hn1 (rs := rs0) (fun r hr => ⟨(r3 r hr).1, fun w hw => by have := (r3 r hr).2 w hw; omega⟩) r1 r2
      have hR : Rows n cs rs := ⟨fun r hr => by
        obtain ⟨g1, g2⟩ := r3 r (t4 r hr)
        exact ⟨⟨g1, c1, hn5, fun w hw => by have := g2 w hw; omega, c2⟩, fun w hw => (g2 w hw).1, sum_pos1 hn1 g1 fun w hw => (g2 w hw).1⟩, t2, t3⟩
      refine Wp.val t1 ?_
      obtain ⟨MM, y, y1, y2, y3, y4, y5⟩ := rows_frac hR
      have hcl : chkL rs = some rs := if_pos (by omega)
      refine Wp.val (v := .lst ((rs.map fun r => LK r cs).map rD)) ?_ ?_
      · rw [r_itL, ob_compM, hcl, ob_some, compL_O (fun r => some (LK r cs)) rD (fun r hr => by
          obtain ⟨g1, g2, g3⟩ := hR.ok r hr
          rw [r_consM, r_consM, r_bnd, law_likely_ok g1 g3, r_eltT, r_bnd, ob_some]), mapO_some, ob_some, r_bnd]
      have hsum := rows_sum hR y1 y2 y3 y5 lplF fun a b h1 h2 => (add_low y1 h1 h2 y2).2
      refine Wp.val (v := rD (low (rs.map y).sum MM)) ?_ ?_
      · rw [r_consM, r_bnd, law_sum_lst _ _ (r_itL _)]
        unfold lsumF
        rw [hsum, ob_some]
      refine Wp.val (v := tR (rs.map fun r => low (y r) (rs.map y).sum)) ?_ ?_
      · rw [r_consM, r_bcM, r_tupL, r_lift, r_consM, r_consM, r_bnd, guess_ok hR y1 y2 y3 y4 y5]
      refine Wp.off ?_ ?_
      · have hcl2 : chkL (rs.map fun r => LK r cs) = some (rs.map fun r => LK r cs) := if_pos (by rw [List.length_map]; omega)
        have hdue : (bcM tupleD (consM (compM (itM (ret (.lst ((rs.map fun r => LK r cs).map rD)))) fun part_124 => (eltM (ret true) (bnd (consM (op2M mulWD (ixM (ret part_124) (ret (.int 0))) (ixM (ret (rD (low (rs.map y).sum MM))) (ret (.int 1)))) (consM (op2M mulWD (ixM (ret part_124) (ret (.int 1))) (ixM (ret (rD (low (rs.map y).sum MM))) (ret (.int 0)))) (ret []))) m__law_ratio))) (ret [])) : M Bx D) = ret (tR (rs.map fun r => low (y r) (rs.map y).sum)) := by
          have hp : ∀ r ∈ rs, ((wmul (LK r cs).1 (low (rs.map y).sum MM).2).bind fun s => (wmul (LK r cs).2 (low (rs.map y).sum MM).1).bind fun z => ratF s z) = some (low (y r) (rs.map y).sum) := fun r hr => by
            rw [(y3 r hr).1]
            exact (div_low y1 y4 (Nat.lt_trans (y3 r hr).2 (by decide +kernel)) y5 y2).2
          rw [r_itL, List.map_map, ob_compM, hcl, ob_some, compL_O (fun r => some (low (y r) (rs.map y).sum)) rD (fun r hr => by
            rw [← hp r hr]
            simp (disch := (first | assumption | (refine InP.mem ?_; assumption) | omega | solve_by_elim | (simp only [InP, decide_eq_true_eq, List.map_id', List.length_map, List.length_cons, List.length_nil, List.length_append, List.length_range, List.length_zip, List.length_tail, List.length_take, List.length_drop, rI_len, rng_len, mem_rI, List.mem_range] at *; omega) | (simp only [List.map_id']; assumption) | simp)) only [r_bnd, r_lift, r_op2, r_cmpT, r_asB, r_asI, r_valT, r_tru_bl, r_tru_int, r_tru_lst, r_tru_tup, r_tru_non, r_notT, r_andTt, r_andTf, r_andT, r_orTt, r_orTf, r_orT, r_andMt, r_andMf, r_andM, r_orMt, r_orMf, r_orM, r_notM, r_negM, r_negD, r_ifM, r_consM, r_tupM, r_lstM, r_tup0, r_tup1, r_tup2, r_tup3, r_tup4, r_tup5, r_tup6, r_lst0, r_lst1, r_lst2, r_lst3, r_lst4, r_lst5, r_bcM, r_lenT, r_lenL, List.length_map, r_tupT, r_tupL, r_lstT, r_lstL, r_int, r_ixM, r_ixT, r_ixL, r_ptM, r_slM, r_slT, r_slL, r_itT, r_itL, r_isi, r_add, r_sub, r_lt, r_le, r_gt, r_ge, r_isN, r_isntN, r_isB, r_isntB, nonNon, nonI, nonT, nonL, nonB, nonS, r_retF, r_endR, r_endN, r_iteF, r_seqN, r_seqR, r_seqB, r_seqC, r_forM, r_own, r_ownd, r_par, r_parN, r_parNN, r_eltT, r_eltF, r_elt, r_eq, r_ne, r_eqb, r_neb, compG_ret, compG_none, compG_retIf, compG_filt, eltM_ret, forL_G, forG_unit, forG_find, chainM_ret, chainT_ret, s_iteB, s_iteT, s_comp, s_all, s_any, s_sum, max2_ok, min2_ok, s_zipL, s_zipT, zipT_map, s_pat2, s_pat3, s_app, s_extL, s_extT, s_count, s_atR, s_atC0, s_atC1, s_atC2, s_in_nats, s_nin_nats, List.map_map, Function.comp_apply, Bool.false_eq_true, if_true, if_false, ↓reduceIte, Bool.not_true, Bool.not_false, Bool.and_true, Bool.true_and, Bool.or_false, Bool.false_or, Bool.and_false, Bool.false_and, Bool.or_true, Bool.true_or, decide_true, decide_false, ob_some, ob_none, ob_bnd, ob_bind, ob_map, ob_op2l, ob_op2r, ob_cmpl, ob_cmpr, ob_consl, ob_consr, ob_tup, ob_lst, ob_bc, ob_ixl, ob_ixr, ob_retF, ob_neg, ob_notM, ob_val, ob_not, ob_and, ob_or, ob_ifM, ob_elt, ob_iteF, ob_it, ob_for, ob_comp, ob_app, ob_own, ob_parl, ob_parr, ob_enum, ob_aug2l, ob_aug2r, ob_dsetl, ob_dsetr, ob_mul, ob_div, ob_mod, ob_rng1, ob_rng2, ob_compM, ob_addL, ob_appM, ob_at, rD_0, rD_1, law_ratio_ok]), mapO_some, ob_some, r_bnd, r_consM, r_bcM, r_tupL, r_lift]
          rfl
        have hs2 := same_tR (rs.map fun r => low (y r) (rs.map y).sum) (by rw [List.length_map]; omega)
        have hs3 : m__law_sum [tR (rs.map fun r => low (y r) (rs.map y).sum)] = ret (rD (1, 1)) := by
          have e1 := law_sum_lst (rs.map fun r => low (y r) (rs.map y).sum) (tR (rs.map fun r => low (y r) (rs.map y).sum)) (by unfold tR; rw [r_itT])
          have e2 := fold_low lplF y4 y5 (fun a b h1 h2 => (add_low y4 h1 h2 y5).2) (rs.map y) 0 (by omega)
          rw [low_zero y4, Nat.zero_add, low_one y4, List.map_map] at e2
          rw [e1]
          unfold lsumF
          have e3 : foldO lplF (0, 1) (rs.map fun r => low (y r) (rs.map y).sum) = some (1, 1) := e2
          rw [e3, ob_some]
        have ne1 := neR (1, 1)
        rw [hdue]
        simp (disch := (first | assumption | (refine InP.mem ?_; assumption) | omega | solve_by_elim | (simp only [InP, decide_eq_true_eq, List.map_id', List.length_map, List.length_cons, List.length_nil, List.length_append, List.length_range, List.length_zip, List.length_tail, List.length_take, List.length_drop, rI_len, rng_len, mem_rI, List.mem_range] at *; omega) | (simp only [List.map_id']; assumption) | simp)) only [r_bnd, r_lift, r_op2, r_cmpT, r_asB, r_asI, r_valT, r_tru_bl, r_tru_int, r_tru_lst, r_tru_tup, r_tru_non, r_notT, r_andTt, r_andTf, r_andT, r_orTt, r_orTf, r_orT, r_andMt, r_andMf, r_andM, r_orMt, r_orMf, r_orM, r_notM, r_negM, r_negD, r_ifM, r_consM, r_tupM, r_lstM, r_tup0, r_tup1, r_tup2, r_tup3, r_tup4, r_tup5, r_tup6, r_lst0, r_lst1, r_lst2, r_lst3, r_lst4, r_lst5, r_bcM, r_lenT, r_lenL, List.length_map, r_tupT, r_tupL, r_lstT, r_lstL, r_int, r_ixM, r_ixT, r_ixL, r_ptM, r_slM, r_slT, r_slL, r_itT, r_itL, r_isi, r_add, r_sub, r_lt, r_le, r_gt, r_ge, r_isN, r_isntN, r_isB, r_isntB, nonNon, nonI, nonT, nonL, nonB, nonS, r_retF, r_endR, r_endN, r_iteF, r_seqN, r_seqR, r_seqB, r_seqC, r_forM, r_own, r_ownd, r_par, r_parN, r_parNN, r_eltT, r_eltF, r_elt, r_eq, r_ne, r_eqb, r_neb, compG_ret, compG_none, compG_retIf, compG_filt, eltM_ret, forL_G, forG_unit, forG_find, chainM_ret, chainT_ret, s_iteB, s_iteT, s_comp, s_all, s_any, s_sum, max2_ok, min2_ok, s_zipL, s_zipT, zipT_map, s_pat2, s_pat3, s_app, s_extL, s_extT, s_count, s_atR, s_atC0, s_atC1, s_atC2, s_in_nats, s_nin_nats, List.map_map, Function.comp_apply, Bool.false_eq_true, if_true, if_false, ↓reduceIte, Bool.not_true, Bool.not_false, Bool.and_true, Bool.true_and, Bool.or_false, Bool.false_or, Bool.and_false, Bool.false_and, Bool.or_true, Bool.true_or, decide_true, decide_false, hs2, hs3, e2, ne1]
      · refine Wp.mono (forW ?_) fun _ h => h
        have hb : Wp (compM (rng1M (ret (.int 5))) fun k_126 => (eltM (ret true) (bnd (consM (ret .box) (consM (ret (nT cs)) (ret []))) (m__law_bent 60))) : M Bx D) fun d => ∃ ys, d = .lst ys ∧ ys.length ≤ 5 ∧ ∀ y ∈ ys, Pb 3 y := by
          rw [rng1_ok (by decide) (by decide)]
          refine Wp.compM (Wp.ret ⟨by rw [rng_len]; decide, Wp.compS (R := fun y => Pb 3 y) (fun x _ => Wp.elt (Wp.eq (by rw [r_consM, r_consM, r_bnd]) ((bent_wp 1 58 _ (pt_nT (by omega) fun c hc => by have := c2 c hc; omega)).mono fun y hy z e => by cases e; exact hy))) fun ys hl hr => ⟨ys, rfl, by rw [rng_len] at hl; exact hl, hr⟩⟩)
        have hv : ∃ vs : List D, (lstM (consM (ret (nT cs)) (consM (slM (ret (nT cs)) (ptM (ret (.int 1))) (ret none)) (consM (op2M addD (ret (nT cs)) (tupM (consM (ret (.int 1)) (ret [])))) (consM (op2M mulWD (tupM (consM (ret (.int 0)) (ret []))) (ret (iN n))) (consM (op2M mulWD (tupM (consM (negM (ret (.int 1))) (ret []))) (ret (iN n))) (consM (op2M mulWD (tupM (consM (ret (.bl true)) (ret []))) (ret (iN n))) (consM (ret .non) (consM (tupM (ret [])) (consM (ret (.int 0)) (ret [])))))))))) : M Bx D) = ret (.lst vs) ∧ vs.length = 9 ∧ ∀ v ∈ vs, Pb 3 v := by
          have pc : ∀ z ∈ (cs.map fun k : Nat => D.int (k : Int)), Pb 2 z := fun z hz => by
            obtain ⟨k, _, rfl⟩ := List.mem_map.mp hz
            exact .int _
          have prep : ∀ z : D, Pb 2 z → Pb 3 (.tup (List.replicate n z)) := fun z hz => .tup (fun w hw => by rw [(List.mem_replicate.mp hw).2]; exact hz) (by rw [List.length_replicate]; omega)
          refine ⟨[nT cs, .tup (cutL (cs.map fun k : Nat => D.int (k : Int)) (some 1) none), .tup ((cs.map fun k : Nat => D.int (k : Int)) ++ [.int 1]), .tup (List.replicate n (.int 0)), .tup (List.replicate n (.int (-1))), .tup (List.replicate n (.bl true)), .non, .tup [], .int 0], ?_, rfl, fun v hv => ?_⟩
          · have x1 : (slM (ret (nT cs)) (ptM (ret (.int 1))) (ret none) : M Bx D) = ret (.tup (cutL (cs.map fun k : Nat => D.int (k : Int)) (some 1) none)) := by
              unfold nT
              rw [r_ptM, r_slM, r_slT, r_lift]
            have x2 : (op2M addD (ret (nT cs)) (tupM (consM (ret (.int 1)) (ret []))) : M Bx D) = ret (.tup ((cs.map fun k : Nat => D.int (k : Int)) ++ [.int 1])) := by
              unfold nT
              rw [r_consM, r_tupM, r_tup1, r_lift, r_op2, addT_ok (by simp; omega), r_lift]
            have x3 : ∀ z : D, (op2M mulWD (tupM (consM (ret z) (ret []))) (ret (iN n)) : M Bx D) = ret (.tup (List.replicate n z)) := fun z => by
              rw [r_consM, r_tupM, r_tup1, r_lift, rep_ok _ hn1 hn5]
            have x4 : (negM (ret (.int 1)) : M Bx D) = ret (.int (-1)) := by rw [r_negM, r_negD, r_lift]
            rw [x1, x2, x4, x3, x3, x3]
            have x5 : (tupM (ret []) : M Bx D) = ret (.tup []) := by rw [r_tupM, r_tup0, r_lift]
            rw [x5]
            simp only [r_consM]
            unfold lstM
            rw [r_bnd, lstD_le (by simp), r_lift]
          · simp only [List.mem_cons, List.not_mem_nil, or_false] at hv
            rcases hv with rfl | rfl | rfl | rfl | rfl | rfl | rfl | rfl | rfl
            · exact (pb_nT (by omega)).mono (by decide)
            · exact .tup (fun z hz => pc z (cut_mem hz)) (by have := cut_len (cs.map fun k : Nat => D.int (k : Int)) (some 1) none; rw [List.length_map] at this; omega)
            · exact .tup (fun z hz => (List.mem_append.mp hz).elim (pc z) fun h => by rw [List.mem_singleton.mp h]; exact .int _) (by simp; omega)
            · exact prep _ (.int _)
            · exact prep _ (.int _)
            · exact prep _ (.bl _)
            · exact .non
            · exact .tup (fun z hz => by cases hz) (by simp)
            · exact .int _
        obtain ⟨vs, v1, v2, v3⟩ := hv
        refine Wp.bnd (Wp.op2 (Wp.eq v1 (Wp.ret (hb.mono fun d ⟨ys, e, z1, z2⟩ => ?_))))
        subst e
        refine ⟨_, addL_ok (by omega), Wp.ret ?_⟩
        show Wp (forL _ _ (vs ++ ys) ()) _
        refine Wp.eq (forL_unit fun v hv => ?_) (Wp.ret rfl)
        exact value_ok w1 ((List.mem_append.mp hv).elim (v3 v) (z2 v))
  · have g1 : GW 2 [1, 1] [1, 3] := ⟨rfl, rfl, by decide, by decide, by decide⟩
    have g2 : GW 2 [1, 3] [1, 3] := ⟨rfl, rfl, by decide, by decide, by decide⟩
    have g3 : GW 2 [1, 3] [1, 1] := ⟨rfl, rfl, by decide, by decide, by decide⟩
    have k1 := likelier_ok g1 g2 (by decide) (by decide)
    have k2 := likelihood_ok g3 (by decide)
    rw [show cmpR (LK [1, 1] [1, 3]) (LK [1, 3] [1, 3]) = 1 by decide +kernel] at k1
    rw [show LK [1, 3] [1, 1] = (3, 16) by decide +kernel] at k2
    have s1 := same_ir 1 (3, 16)
    have n1 : D.tup [.int 1, .int 1] = nT [1, 1] := rfl
    have n2 : D.tup [.int 1, .int 3] = nT [1, 3] := rfl
    have n3 : D.tup [.int 3, .int 16] = rD (3, 16) := rfl
    refine Wp.eq (n := ret (.rt (.bl true))) ?_ (Wp.ret (Wp.eq (r_endR _) (Wp.ret rfl)))
    simp (disch := (first | assumption | (refine InP.mem ?_; assumption) | omega | solve_by_elim | (simp only [InP, decide_eq_true_eq, List.map_id', List.length_map, List.length_cons, List.length_nil, List.length_append, List.length_range, List.length_zip, List.length_tail, List.length_take, List.length_drop, rI_len, rng_len, mem_rI, List.mem_range] at *; omega) | (simp only [List.map_id']; assumption) | simp)) only [r_bnd, r_lift, r_op2, r_cmpT, r_asB, r_asI, r_valT, r_tru_bl, r_tru_int, r_tru_lst, r_tru_tup, r_tru_non, r_notT, r_andTt, r_andTf, r_andT, r_orTt, r_orTf, r_orT, r_andMt, r_andMf, r_andM, r_orMt, r_orMf, r_orM, r_notM, r_negM, r_negD, r_ifM, r_consM, r_tupM, r_lstM, r_tup0, r_tup1, r_tup2, r_tup3, r_tup4, r_tup5, r_tup6, r_lst0, r_lst1, r_lst2, r_lst3, r_lst4, r_lst5, r_bcM, r_lenT, r_lenL, List.length_map, r_tupT, r_tupL, r_lstT, r_lstL, r_int, r_ixM, r_ixT, r_ixL, r_ptM, r_slM, r_slT, r_slL, r_itT, r_itL, r_isi, r_add, r_sub, r_lt, r_le, r_gt, r_ge, r_isN, r_isntN, r_isB, r_isntB, nonNon, nonI, nonT, nonL, nonB, nonS, r_retF, r_endR, r_endN, r_iteF, r_seqN, r_seqR, r_seqB, r_seqC, r_forM, r_own, r_ownd, r_par, r_parN, r_parNN, r_eltT, r_eltF, r_elt, r_eq, r_ne, r_eqb, r_neb, compG_ret, compG_none, compG_retIf, compG_filt, eltM_ret, forL_G, forG_unit, forG_find, chainM_ret, chainT_ret, s_iteB, s_iteT, s_comp, s_all, s_any, s_sum, max2_ok, min2_ok, s_zipL, s_zipT, zipT_map, s_pat2, s_pat3, s_app, s_extL, s_extT, s_count, s_atR, s_atC0, s_atC1, s_atC2, s_in_nats, s_nin_nats, List.map_map, Function.comp_apply, Bool.false_eq_true, if_true, if_false, ↓reduceIte, Bool.not_true, Bool.not_false, Bool.and_true, Bool.true_and, Bool.or_false, Bool.false_or, Bool.and_false, Bool.false_and, Bool.or_true, Bool.true_or, decide_true, decide_false, n1, n2, n3, k1, k2, s1]
theorem law_true (b : Bx) : ∃ b', bnd b_law endF b = some (.bl true, b') := by
  obtain ⟨d, b', e, h⟩ := law_wp b
  subst h
  exact ⟨b', e⟩
end Lw

namespace Lw
open PySem PySem.Spec PyProof.Rows L2 Sn
theorem all_mk (hm : ∀ b : Bx, ∃ b', bnd b_law endF b = some (.bl true, b')) {l : PySem.W.OpenLaw} {w : World} {K : PySem.W.Frag} {h : Heap} {mg : Str → Option Value} {fa : Addr} (X : K.In h) (G : h.Ns mainGlobals mg) (hfa : mg "law" = some (.ref fa))
    {f_is_whole : Addr} {od_is_whole an_is_whole : Option Addr} {sl_is_whole : Array (Option Value)} {oc_is_whole kV_is_whole dc_is_whole pm_is_whole cd_is_whole ct_is_whole : Value}
    {f_low_terms : Addr} {od_low_terms an_low_terms : Option Addr} {sl_low_terms : Array (Option Value)} {oc_low_terms kV_low_terms dc_low_terms pm_low_terms cd_low_terms ct_low_terms : Value}
    {f_part_sum : Addr} {od_part_sum an_part_sum : Option Addr} {sl_part_sum : Array (Option Value)} {oc_part_sum kV_part_sum dc_part_sum pm_part_sum cd_part_sum ct_part_sum : Value}
    {f_part_times : Addr} {od_part_times an_part_times : Option Addr} {sl_part_times : Array (Option Value)} {oc_part_times kV_part_times dc_part_times pm_part_times cd_part_times ct_part_times : Value}
    {f_are_counts : Addr} {od_are_counts an_are_counts : Option Addr} {sl_are_counts : Array (Option Value)} {oc_are_counts kV_are_counts dc_are_counts pm_are_counts cd_are_counts ct_are_counts : Value}
    {f_likelihood : Addr} {od_likelihood an_likelihood : Option Addr} {sl_likelihood : Array (Option Value)} {oc_likelihood kV_likelihood dc_likelihood pm_likelihood cd_likelihood ct_likelihood : Value}
    {f_likelier : Addr} {od_likelier an_likelier : Option Addr} {sl_likelier : Array (Option Value)} {oc_likelier kV_likelier dc_likelier pm_likelier cd_likelier ct_likelier : Value}
    {f_guess_chances : Addr} {od_guess_chances an_guess_chances : Option Addr} {sl_guess_chances : Array (Option Value)} {oc_guess_chances kV_guess_chances dc_guess_chances pm_guess_chances cd_guess_chances ct_guess_chances : Value}
    {f__law_box : Addr} {od__law_box an__law_box : Option Addr} {sl__law_box : Array (Option Value)} {oc__law_box kV__law_box dc__law_box pm__law_box cd__law_box ct__law_box : Value}
    {f__law_load : Addr} {od__law_load an__law_load : Option Addr} {sl__law_load : Array (Option Value)} {oc__law_load kV__law_load dc__law_load pm__law_load cd__law_load ct__law_load : Value}
    {f__law_draw : Addr} {od__law_draw an__law_draw : Option Addr} {sl__law_draw : Array (Option Value)} {oc__law_draw kV__law_draw dc__law_draw pm__law_draw cd__law_draw ct__law_draw : Value}
    {f__law_same : Addr} {od__law_same an__law_same : Option Addr} {sl__law_same : Array (Option Value)} {oc__law_same kV__law_same dc__law_same pm__law_same cd__law_same ct__law_same : Value}
    {f__law_bent : Addr} {od__law_bent an__law_bent : Option Addr} {sl__law_bent : Array (Option Value)} {oc__law_bent kV__law_bent dc__law_bent pm__law_bent cd__law_bent ct__law_bent : Value}
    {f__law_ratio : Addr} {od__law_ratio an__law_ratio : Option Addr} {sl__law_ratio : Array (Option Value)} {oc__law_ratio kV__law_ratio dc__law_ratio pm__law_ratio cd__law_ratio ct__law_ratio : Value}
    {f__law_plus : Addr} {od__law_plus an__law_plus : Option Addr} {sl__law_plus : Array (Option Value)} {oc__law_plus kV__law_plus dc__law_plus pm__law_plus cd__law_plus ct__law_plus : Value}
    {f__law_less : Addr} {od__law_less an__law_less : Option Addr} {sl__law_less : Array (Option Value)} {oc__law_less kV__law_less dc__law_less pm__law_less cd__law_less ct__law_less : Value}
    {f__law_sum : Addr} {od__law_sum an__law_sum : Option Addr} {sl__law_sum : Array (Option Value)} {oc__law_sum kV__law_sum dc__law_sum pm__law_sum cd__law_sum ct__law_sum : Value}
    {f__law_likely : Addr} {od__law_likely an__law_likely : Option Addr} {sl__law_likely : Array (Option Value)} {oc__law_likely kV__law_likely dc__law_likely pm__law_likely cd__law_likely ct__law_likely : Value}
    {f_law : Addr} {od_law an_law : Option Addr} {sl_law : Array (Option Value)} {oc_law kV_law dc_law pm_law cd_law ct_law : Value}
    (a_is_whole : PySem.W.nsIn K mainGlobals "is_whole" = some (some (.ref f_is_whole))) (l_is_whole : K.lookup f_is_whole = some ⟨oc_is_whole, od_is_whole, .func (PySem.W.fnOf "is_whole" "is_whole" (defArgs s_is_whole) (defBody s_is_whole) (defScope s_is_whole) .none kV_is_whole dc_is_whole pm_is_whole an_is_whole cd_is_whole ct_is_whole), sl_is_whole⟩) (c_is_whole : PySem.W.codeIn K cd_is_whole "is_whole" = true) (k_is_whole : PySem.W.keepIn K (.ref f_is_whole) = true)
    (a_low_terms : PySem.W.nsIn K mainGlobals "low_terms" = some (some (.ref f_low_terms))) (l_low_terms : K.lookup f_low_terms = some ⟨oc_low_terms, od_low_terms, .func (PySem.W.fnOf "low_terms" "low_terms" (defArgs s_low_terms) (defBody s_low_terms) (defScope s_low_terms) .none kV_low_terms dc_low_terms pm_low_terms an_low_terms cd_low_terms ct_low_terms), sl_low_terms⟩) (c_low_terms : PySem.W.codeIn K cd_low_terms "low_terms" = true) (k_low_terms : PySem.W.keepIn K (.ref f_low_terms) = true)
    (a_part_sum : PySem.W.nsIn K mainGlobals "part_sum" = some (some (.ref f_part_sum))) (l_part_sum : K.lookup f_part_sum = some ⟨oc_part_sum, od_part_sum, .func (PySem.W.fnOf "part_sum" "part_sum" (defArgs s_part_sum) (defBody s_part_sum) (defScope s_part_sum) .none kV_part_sum dc_part_sum pm_part_sum an_part_sum cd_part_sum ct_part_sum), sl_part_sum⟩) (c_part_sum : PySem.W.codeIn K cd_part_sum "part_sum" = true) (k_part_sum : PySem.W.keepIn K (.ref f_part_sum) = true)
    (a_part_times : PySem.W.nsIn K mainGlobals "part_times" = some (some (.ref f_part_times))) (l_part_times : K.lookup f_part_times = some ⟨oc_part_times, od_part_times, .func (PySem.W.fnOf "part_times" "part_times" (defArgs s_part_times) (defBody s_part_times) (defScope s_part_times) .none kV_part_times dc_part_times pm_part_times an_part_times cd_part_times ct_part_times), sl_part_times⟩) (c_part_times : PySem.W.codeIn K cd_part_times "part_times" = true) (k_part_times : PySem.W.keepIn K (.ref f_part_times) = true)
    (a_are_counts : PySem.W.nsIn K mainGlobals "are_counts" = some (some (.ref f_are_counts))) (l_are_counts : K.lookup f_are_counts = some ⟨oc_are_counts, od_are_counts, .func (PySem.W.fnOf "are_counts" "are_counts" (defArgs s_are_counts) (defBody s_are_counts) (defScope s_are_counts) .none kV_are_counts dc_are_counts pm_are_counts an_are_counts cd_are_counts ct_are_counts), sl_are_counts⟩) (c_are_counts : PySem.W.codeIn K cd_are_counts "are_counts" = true) (k_are_counts : PySem.W.keepIn K (.ref f_are_counts) = true)
    (a_likelihood : PySem.W.nsIn K mainGlobals "likelihood" = some (some (.ref f_likelihood))) (l_likelihood : K.lookup f_likelihood = some ⟨oc_likelihood, od_likelihood, .func (PySem.W.fnOf "likelihood" "likelihood" (defArgs s_likelihood) (defBody s_likelihood) (defScope s_likelihood) .none kV_likelihood dc_likelihood pm_likelihood an_likelihood cd_likelihood ct_likelihood), sl_likelihood⟩) (c_likelihood : PySem.W.codeIn K cd_likelihood "likelihood" = true) (k_likelihood : PySem.W.keepIn K (.ref f_likelihood) = true)
    (a_likelier : PySem.W.nsIn K mainGlobals "likelier" = some (some (.ref f_likelier))) (l_likelier : K.lookup f_likelier = some ⟨oc_likelier, od_likelier, .func (PySem.W.fnOf "likelier" "likelier" (defArgs s_likelier) (defBody s_likelier) (defScope s_likelier) .none kV_likelier dc_likelier pm_likelier an_likelier cd_likelier ct_likelier), sl_likelier⟩) (c_likelier : PySem.W.codeIn K cd_likelier "likelier" = true) (k_likelier : PySem.W.keepIn K (.ref f_likelier) = true)
    (a_guess_chances : PySem.W.nsIn K mainGlobals "guess_chances" = some (some (.ref f_guess_chances))) (l_guess_chances : K.lookup f_guess_chances = some ⟨oc_guess_chances, od_guess_chances, .func (PySem.W.fnOf "guess_chances" "guess_chances" (defArgs s_guess_chances) (defBody s_guess_chances) (defScope s_guess_chances) .none kV_guess_chances dc_guess_chances pm_guess_chances an_guess_chances cd_guess_chances ct_guess_chances), sl_guess_chances⟩) (c_guess_chances : PySem.W.codeIn K cd_guess_chances "guess_chances" = true) (k_guess_chances : PySem.W.keepIn K (.ref f_guess_chances) = true)
    (a__law_box : PySem.W.nsIn K mainGlobals "_law_box" = some (some (.ref f__law_box))) (l__law_box : K.lookup f__law_box = some ⟨oc__law_box, od__law_box, .func (PySem.W.fnOf "_law_box" "_law_box" (defArgs s__law_box) (defBody s__law_box) (defScope s__law_box) .none kV__law_box dc__law_box pm__law_box an__law_box cd__law_box ct__law_box), sl__law_box⟩) (c__law_box : PySem.W.codeIn K cd__law_box "_law_box" = true) (k__law_box : PySem.W.keepIn K (.ref f__law_box) = true)
    (a__law_load : PySem.W.nsIn K mainGlobals "_law_load" = some (some (.ref f__law_load))) (l__law_load : K.lookup f__law_load = some ⟨oc__law_load, od__law_load, .func (PySem.W.fnOf "_law_load" "_law_load" (defArgs s__law_load) (defBody s__law_load) (defScope s__law_load) .none kV__law_load dc__law_load pm__law_load an__law_load cd__law_load ct__law_load), sl__law_load⟩) (c__law_load : PySem.W.codeIn K cd__law_load "_law_load" = true) (k__law_load : PySem.W.keepIn K (.ref f__law_load) = true)
    (a__law_draw : PySem.W.nsIn K mainGlobals "_law_draw" = some (some (.ref f__law_draw))) (l__law_draw : K.lookup f__law_draw = some ⟨oc__law_draw, od__law_draw, .func (PySem.W.fnOf "_law_draw" "_law_draw" (defArgs s__law_draw) (defBody s__law_draw) (defScope s__law_draw) .none kV__law_draw dc__law_draw pm__law_draw an__law_draw cd__law_draw ct__law_draw), sl__law_draw⟩) (c__law_draw : PySem.W.codeIn K cd__law_draw "_law_draw" = true) (k__law_draw : PySem.W.keepIn K (.ref f__law_draw) = true)
    (a__law_same : PySem.W.nsIn K mainGlobals "_law_same" = some (some (.ref f__law_same))) (l__law_same : K.lookup f__law_same = some ⟨oc__law_same, od__law_same, .func (PySem.W.fnOf "_law_same" "_law_same" (defArgs s__law_same) (defBody s__law_same) (defScope s__law_same) .none kV__law_same dc__law_same pm__law_same an__law_same cd__law_same ct__law_same), sl__law_same⟩) (c__law_same : PySem.W.codeIn K cd__law_same "_law_same" = true) (k__law_same : PySem.W.keepIn K (.ref f__law_same) = true)
    (a__law_bent : PySem.W.nsIn K mainGlobals "_law_bent" = some (some (.ref f__law_bent))) (l__law_bent : K.lookup f__law_bent = some ⟨oc__law_bent, od__law_bent, .func (PySem.W.fnOf "_law_bent" "_law_bent" (defArgs s__law_bent) (defBody s__law_bent) (defScope s__law_bent) .none kV__law_bent dc__law_bent pm__law_bent an__law_bent cd__law_bent ct__law_bent), sl__law_bent⟩) (c__law_bent : PySem.W.codeIn K cd__law_bent "_law_bent" = true) (k__law_bent : PySem.W.keepIn K (.ref f__law_bent) = true)
    (a__law_ratio : PySem.W.nsIn K mainGlobals "_law_ratio" = some (some (.ref f__law_ratio))) (l__law_ratio : K.lookup f__law_ratio = some ⟨oc__law_ratio, od__law_ratio, .func (PySem.W.fnOf "_law_ratio" "_law_ratio" (defArgs s__law_ratio) (defBody s__law_ratio) (defScope s__law_ratio) .none kV__law_ratio dc__law_ratio pm__law_ratio an__law_ratio cd__law_ratio ct__law_ratio), sl__law_ratio⟩) (c__law_ratio : PySem.W.codeIn K cd__law_ratio "_law_ratio" = true) (k__law_ratio : PySem.W.keepIn K (.ref f__law_ratio) = true)
    (a__law_plus : PySem.W.nsIn K mainGlobals "_law_plus" = some (some (.ref f__law_plus))) (l__law_plus : K.lookup f__law_plus = some ⟨oc__law_plus, od__law_plus, .func (PySem.W.fnOf "_law_plus" "_law_plus" (defArgs s__law_plus) (defBody s__law_plus) (defScope s__law_plus) .none kV__law_plus dc__law_plus pm__law_plus an__law_plus cd__law_plus ct__law_plus), sl__law_plus⟩) (c__law_plus : PySem.W.codeIn K cd__law_plus "_law_plus" = true) (k__law_plus : PySem.W.keepIn K (.ref f__law_plus) = true)
    (a__law_less : PySem.W.nsIn K mainGlobals "_law_less" = some (some (.ref f__law_less))) (l__law_less : K.lookup f__law_less = some ⟨oc__law_less, od__law_less, .func (PySem.W.fnOf "_law_less" "_law_less" (defArgs s__law_less) (defBody s__law_less) (defScope s__law_less) .none kV__law_less dc__law_less pm__law_less an__law_less cd__law_less ct__law_less), sl__law_less⟩) (c__law_less : PySem.W.codeIn K cd__law_less "_law_less" = true) (k__law_less : PySem.W.keepIn K (.ref f__law_less) = true)
    (a__law_sum : PySem.W.nsIn K mainGlobals "_law_sum" = some (some (.ref f__law_sum))) (l__law_sum : K.lookup f__law_sum = some ⟨oc__law_sum, od__law_sum, .func (PySem.W.fnOf "_law_sum" "_law_sum" (defArgs s__law_sum) (defBody s__law_sum) (defScope s__law_sum) .none kV__law_sum dc__law_sum pm__law_sum an__law_sum cd__law_sum ct__law_sum), sl__law_sum⟩) (c__law_sum : PySem.W.codeIn K cd__law_sum "_law_sum" = true) (k__law_sum : PySem.W.keepIn K (.ref f__law_sum) = true)
    (a__law_likely : PySem.W.nsIn K mainGlobals "_law_likely" = some (some (.ref f__law_likely))) (l__law_likely : K.lookup f__law_likely = some ⟨oc__law_likely, od__law_likely, .func (PySem.W.fnOf "_law_likely" "_law_likely" (defArgs s__law_likely) (defBody s__law_likely) (defScope s__law_likely) .none kV__law_likely dc__law_likely pm__law_likely an__law_likely cd__law_likely ct__law_likely), sl__law_likely⟩) (c__law_likely : PySem.W.codeIn K cd__law_likely "_law_likely" = true) (k__law_likely : PySem.W.keepIn K (.ref f__law_likely) = true)
    (a_law : PySem.W.nsIn K mainGlobals "law" = some (some (.ref f_law))) (l_law : K.lookup f_law = some ⟨oc_law, od_law, .func (PySem.W.fnOf "law" "law" (defArgs s_law) (defBody s_law) (defScope s_law) .none kV_law dc_law pm_law an_law cd_law ct_law), sl_law⟩) (c_law : PySem.W.codeIn K cd_law "law" = true) (k_law : PySem.W.keepIn K (.ref f_law) = true)
    (z_abs : PySem.W.nsIn K mainGlobals "abs" = some none)
    (z_all : PySem.W.nsIn K mainGlobals "all" = some none)
    (z_any : PySem.W.nsIn K mainGlobals "any" = some none)
    (z_bool : PySem.W.nsIn K mainGlobals "bool" = some none)
    (z_int : PySem.W.nsIn K mainGlobals "int" = some none)
    (z_isinstance : PySem.W.nsIn K mainGlobals "isinstance" = some none)
    (z_len : PySem.W.nsIn K mainGlobals "len" = some none)
    (z_list : PySem.W.nsIn K mainGlobals "list" = some none)
    (z_range : PySem.W.nsIn K mainGlobals "range" = some none)
    (z_set : PySem.W.nsIn K mainGlobals "set" = some none)
    (z_sorted : PySem.W.nsIn K mainGlobals "sorted" = some none)
    (z_str : PySem.W.nsIn K mainGlobals "str" = some none)
    (z_sum : PySem.W.nsIn K mainGlobals "sum" = some none)
    (z_tuple : PySem.W.nsIn K mainGlobals "tuple" = some none)
    (z_zip : PySem.W.nsIn K mainGlobals "zip" = some none) :
    ∃ fd : FuncData, (∀ (s : Shared) (v : Value), BindsTo s fd ⟨[v], []⟩ [("script", v)]) ∧ ∀ base : Heap, K.In base → base.Ns mainGlobals mg → FnOk l.prog w K mg base CX0 64 fa fd ["script"] (spLaw K) := by
  have e := hfa.symm.trans (PySem.W.mg_of X G a_law)
  cases e
  have F_is_whole := fun_mk (st := s_is_whole) l_is_whole c_is_whole k_is_whole
  have F_low_terms := fun_mk (st := s_low_terms) l_low_terms c_low_terms k_low_terms
  have F_part_sum := fun_mk (st := s_part_sum) l_part_sum c_part_sum k_part_sum
  have F_part_times := fun_mk (st := s_part_times) l_part_times c_part_times k_part_times
  have F_are_counts := fun_mk (st := s_are_counts) l_are_counts c_are_counts k_are_counts
  have F_likelihood := fun_mk (st := s_likelihood) l_likelihood c_likelihood k_likelihood
  have F_likelier := fun_mk (st := s_likelier) l_likelier c_likelier k_likelier
  have F_guess_chances := fun_mk (st := s_guess_chances) l_guess_chances c_guess_chances k_guess_chances
  have F__law_box := fun_mk (st := s__law_box) l__law_box c__law_box k__law_box
  have F__law_load := fun_mk (st := s__law_load) l__law_load c__law_load k__law_load
  have F__law_draw := fun_mk (st := s__law_draw) l__law_draw c__law_draw k__law_draw
  have F__law_same := fun_mk (st := s__law_same) l__law_same c__law_same k__law_same
  have F__law_bent := fun_mk (st := s__law_bent) l__law_bent c__law_bent k__law_bent
  have F__law_ratio := fun_mk (st := s__law_ratio) l__law_ratio c__law_ratio k__law_ratio
  have F__law_plus := fun_mk (st := s__law_plus) l__law_plus c__law_plus k__law_plus
  have F__law_less := fun_mk (st := s__law_less) l__law_less c__law_less k__law_less
  have F__law_sum := fun_mk (st := s__law_sum) l__law_sum c__law_sum k__law_sum
  have F__law_likely := fun_mk (st := s__law_likely) l__law_likely c__law_likely k__law_likely
  have F_law := fun_mk (st := s_law) l_law c_law k_law
  have z_abs := PySem.W.mg_none_of X G z_abs
  have z_all := PySem.W.mg_none_of X G z_all
  have z_any := PySem.W.mg_none_of X G z_any
  have z_bool := PySem.W.mg_none_of X G z_bool
  have z_int := PySem.W.mg_none_of X G z_int
  have z_isinstance := PySem.W.mg_none_of X G z_isinstance
  have z_len := PySem.W.mg_none_of X G z_len
  have z_list := PySem.W.mg_none_of X G z_list
  have z_range := PySem.W.mg_none_of X G z_range
  have z_set := PySem.W.mg_none_of X G z_set
  have z_sorted := PySem.W.mg_none_of X G z_sorted
  have z_str := PySem.W.mg_none_of X G z_str
  have z_sum := PySem.W.mg_none_of X G z_sum
  have z_tuple := PySem.W.mg_none_of X G z_tuple
  have z_zip := PySem.W.mg_none_of X G z_zip
  refine ⟨PySem.W.fnOf "law" "law" (defArgs s_law) (defBody s_law) (defScope s_law) .none kV_law dc_law pm_law an_law cd_law ct_law, fun s v => .of_eq rfl, fun base _ _ => ?_⟩
  have b_load := F__law_load.binds (ps := ["box"]) fun _ _ _ _ _ _ us hl => match us, hl with | [_], _ => rfl
  have b_box := F__law_box.binds (ps := ["script"]) fun _ _ _ _ _ _ us hl => match us, hl with | [_], _ => rfl
  have b_draw := F__law_draw.binds (ps := ["box", "many"]) fun _ _ _ _ _ _ us hl => match us, hl with | [_, _], _ => rfl
  have h__law_draw : HasF (S := Bx) ⟨l.prog, w, K, mg, base⟩ 2 "_law_draw" 2 m_draw := ⟨_, _, _, PySem.W.mg_of X G a__law_draw, k__law_draw, b_draw, ok_draw (k := 0) F__law_draw F__law_load b_load (PySem.W.mg_of X G a__law_load) z_len z_int⟩
  have h_is_whole := h_is_whole (P := l.prog) (w := w) (base := base) F_is_whole (PySem.W.mg_of X G a_is_whole) z_bool z_int z_isinstance
  have h_low_terms := h_low_terms (P := l.prog) (w := w) (base := base) F_low_terms (PySem.W.mg_of X G a_low_terms) z_abs
  have h_part_sum := h_part_sum (P := l.prog) (w := w) (base := base) F_part_sum (PySem.W.mg_of X G a_part_sum) h_low_terms
  have h_part_times := h_part_times (P := l.prog) (w := w) (base := base) F_part_times (PySem.W.mg_of X G a_part_times) h_low_terms
  have h_are_counts := h_are_counts (P := l.prog) (w := w) (base := base) F_are_counts (PySem.W.mg_of X G a_are_counts) z_all z_any z_isinstance z_len z_tuple h_is_whole
  have h_likelihood := h_likelihood (P := l.prog) (w := w) (base := base) F_likelihood (PySem.W.mg_of X G a_likelihood) z_range z_sum z_zip h_low_terms
  have h_likelier := h_likelier (P := l.prog) (w := w) (base := base) F_likelier (PySem.W.mg_of X G a_likelier) h_likelihood
  have h_guess_chances := h_guess_chances (P := l.prog) (w := w) (base := base) F_guess_chances (PySem.W.mg_of X G a_guess_chances) z_tuple h_likelihood h_part_sum h_part_times
  have h__law_same := h__law_same (P := l.prog) (w := w) (base := base) F__law_same (PySem.W.mg_of X G a__law_same) z_all z_bool z_int z_isinstance z_len z_list z_range z_str z_tuple 60
  have h__law_bent := h__law_bent (P := l.prog) (w := w) (base := base) F__law_bent (PySem.W.mg_of X G a__law_bent) z_bool z_int z_isinstance z_len z_str z_tuple h__law_draw 60
  have h__law_ratio := h__law_ratio (P := l.prog) (w := w) (base := base) F__law_ratio (PySem.W.mg_of X G a__law_ratio) z_abs
  have h__law_plus := h__law_plus (P := l.prog) (w := w) (base := base) F__law_plus (PySem.W.mg_of X G a__law_plus) h__law_ratio
  have h__law_less := h__law_less (P := l.prog) (w := w) (base := base) F__law_less (PySem.W.mg_of X G a__law_less)
  have h__law_sum := h__law_sum (P := l.prog) (w := w) (base := base) F__law_sum (PySem.W.mg_of X G a__law_sum) h__law_plus
  have h__law_likely := h__law_likely (P := l.prog) (w := w) (base := base) F__law_likely (PySem.W.mg_of X G a__law_likely) z_len z_range z_sum h__law_ratio
  exact h_law (P := l.prog) (w := w) (base := base) F_law z_all z_any z_bool z_int z_isinstance z_len z_range z_set z_sorted z_sum z_tuple h_are_counts h__law_likely h_likelier h_likelihood h__law_same h__law_ratio h__law_less h__law_sum h__law_bent h_guess_chances h__law_draw (ok_box (k := 0) F__law_box z_len z_list) k__law_box b_box (PySem.W.mg_of X G a__law_box) hm
end Lw
open PySem PySem.W PyProof.Rows
set_option maxHeartbeats 0 in
theorem PySem.Challenge.cw_albumsfilled_k23_whole_guesses_of_weight_holds : PySem.Challenge.rw_albumsfilled_k23_whole_guesses_of_weight.Holds := by
  w_on; o_law; k_head; (case hw => w_witness2)
  k_fill
  refine L2.walk_of (l := PySem.Challenge.rw_albumsfilled_k23_whole_guesses_of_weight) (n := 63) (k := 64) (x := "script") (CX := fun _ => L2.CX0) (sp := fun w => Sn.spLaw _) rfl (by decide) rfl ⟨rfl, by decide, by decide⟩ (fun w h Y => PySem.W.kIn_of Y) ?F (fun _ H a ns hl hO hS => ⟨a, ns, rfl, hS, hl, Sn.Sz.only hO, fun _ => rfl⟩) (fun _ _ _ _ _ h => h)
  case F =>
    intro w mg fa h KX G hmg
    refine' Lw.all_mk Lw.law_true KX G hmg ?a_is_whole ?l_is_whole ?c_is_whole ?k_is_whole ?a_low_terms ?l_low_terms ?c_low_terms ?k_low_terms ?a_part_sum ?l_part_sum ?c_part_sum ?k_part_sum ?a_part_times ?l_part_times ?c_part_times ?k_part_times ?a_are_counts ?l_are_counts ?c_are_counts ?k_are_counts ?a_likelihood ?l_likelihood ?c_likelihood ?k_likelihood ?a_likelier ?l_likelier ?c_likelier ?k_likelier ?a_guess_chances ?l_guess_chances ?c_guess_chances ?k_guess_chances ?a__law_box ?l__law_box ?c__law_box ?k__law_box ?a__law_load ?l__law_load ?c__law_load ?k__law_load ?a__law_draw ?l__law_draw ?c__law_draw ?k__law_draw ?a__law_same ?l__law_same ?c__law_same ?k__law_same ?a__law_bent ?l__law_bent ?c__law_bent ?k__law_bent ?a__law_ratio ?l__law_ratio ?c__law_ratio ?k__law_ratio ?a__law_plus ?l__law_plus ?c__law_plus ?k__law_plus ?a__law_less ?l__law_less ?c__law_less ?k__law_less ?a__law_sum ?l__law_sum ?c__law_sum ?k__law_sum ?a__law_likely ?l__law_likely ?c__law_likely ?k__law_likely ?a_law ?l_law ?c_law ?k_law ?z_abs ?z_all ?z_any ?z_bool ?z_int ?z_isinstance ?z_len ?z_list ?z_range ?z_set ?z_sorted ?z_str ?z_sum ?z_tuple ?z_zip
    (case a_is_whole => k_is); (case l_is_whole => k_is); (case c_is_whole => k_is); (case k_is_whole => k_is); (case a_low_terms => k_is); (case l_low_terms => k_is); (case c_low_terms => k_is); (case k_low_terms => k_is); (case a_part_sum => k_is); (case l_part_sum => k_is); (case c_part_sum => k_is); (case k_part_sum => k_is); (case a_part_times => k_is); (case l_part_times => k_is); (case c_part_times => k_is); (case k_part_times => k_is); (case a_are_counts => k_is); (case l_are_counts => k_is); (case c_are_counts => k_is); (case k_are_counts => k_is); (case a_likelihood => k_is); (case l_likelihood => k_is); (case c_likelihood => k_is); (case k_likelihood => k_is); (case a_likelier => k_is); (case l_likelier => k_is); (case c_likelier => k_is); (case k_likelier => k_is); (case a_guess_chances => k_is); (case l_guess_chances => k_is); (case c_guess_chances => k_is); (case k_guess_chances => k_is); (case a__law_box => k_is); (case l__law_box => k_is); (case c__law_box => k_is); (case k__law_box => k_is); (case a__law_load => k_is); (case l__law_load => k_is); (case c__law_load => k_is); (case k__law_load => k_is); (case a__law_draw => k_is); (case l__law_draw => k_is); (case c__law_draw => k_is); (case k__law_draw => k_is); (case a__law_same => k_is); (case l__law_same => k_is); (case c__law_same => k_is); (case k__law_same => k_is); (case a__law_bent => k_is); (case l__law_bent => k_is); (case c__law_bent => k_is); (case k__law_bent => k_is); (case a__law_ratio => k_is); (case l__law_ratio => k_is); (case c__law_ratio => k_is); (case k__law_ratio => k_is); (case a__law_plus => k_is); (case l__law_plus => k_is); (case c__law_plus => k_is); (case k__law_plus => k_is); (case a__law_less => k_is); (case l__law_less => k_is); (case c__law_less => k_is); (case k__law_less => k_is); (case a__law_sum => k_is); (case l__law_sum => k_is); (case c__law_sum => k_is); (case k__law_sum => k_is); (case a__law_likely => k_is); (case l__law_likely => k_is); (case c__law_likely => k_is); (case k__law_likely => k_is); (case a_law => k_is); (case l_law => k_is); (case c_law => k_is); (case k_law => k_is); (case z_abs => k_is); (case z_all => k_is); (case z_any => k_is); (case z_bool => k_is); (case z_int => k_is); (case z_isinstance => k_is); (case z_len => k_is); (case z_list => k_is); (case z_range => k_is); (case z_set => k_is); (case z_sorted => k_is); (case z_str => k_is); (case z_sum => k_is); (case z_tuple => k_is); (case z_zip => k_is)
