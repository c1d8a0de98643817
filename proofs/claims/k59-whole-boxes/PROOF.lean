import PyProof.Rows.All
import Wide.All
import OpenK.AllK
import Wide.FinOn
import HandS.ForMost
import HandS.TupAny
import HandS.IsInst
import HandS.Deep
import HandS.Flow
import HandS.Words
import HandS.TupLe
import HandS.TupMul
import HandS.Zip
import HandS.Style
import HandS.Text
import HandS.RaiseMore
import HandS.SetFor
import HandS.More
import HandS.SortInts
import PySem.Challenge.RW_albumsfilled_k59_whole_boxes_of_packets
set_option Elab.async false
set_option linter.all false
set_option maxRecDepth 100000
namespace Sn
open PySem PySem.Spec PyProof.Rows L2

/-! ### data, computations -/
inductive D where
  | non | bl (b : Bool) | int (i : Int) | str (x : Str) | tup (xs : List D) | lst (xs : List D) | dct (kvs : List (D × D)) | box

def M (S : Type) (α : Type) : Type := S → Option (α × S)
section
variable {S α β γ : Type}
def ret (a : α) : M S α := fun s => some (a, s)
def stuck : M S α := fun _ => none
def bnd (m : M S α) (k : α → M S β) : M S β := fun s => match m s with
  | none => none
  | some (a, s') => k a s'
theorem bnd_some {m : M S α} {k : α → M S β} {s : S} {r : β × S} (h : bnd m k s = some r) : ∃ a s', m s = some (a, s') ∧ k a s' = some r := by
  unfold bnd at h
  cases e : m s with
  | none => rw [e] at h; cases h
  | some p => obtain ⟨a, s'⟩ := p; rw [e] at h; exact ⟨a, s', rfl, h⟩
theorem ret_some {a b : α} {s s' : S} (h : (ret a : M S α) s = some (b, s')) : b = a ∧ s' = s := by
  have h' : some (a, s) = some (b, s') := h
  cases h'
  exact ⟨rfl, rfl⟩
theorem stuck_some {s : S} {r : α × S} (h : (stuck : M S α) s = some r) : False := by cases (show (none : Option (α × S)) = some r from h)
theorem bnd_ret (a : α) (k : α → M S β) : bnd (ret a) k = k a := rfl
theorem bnd_stuck (k : α → M S β) : bnd stuck k = stuck := rfl
theorem bnd_bnd (m : M S α) (k : α → M S β) (l : β → M S γ) : bnd (bnd m k) l = bnd m fun a => bnd (k a) l := by
  funext s
  unfold bnd
  cases m s with
  | none => rfl
  | some p => rfl
theorem bnd_id (m : M S α) : bnd m ret = m := by
  funext s
  unfold bnd
  cases m s with
  | none => rfl
  | some p => rfl
theorem bnd_ite {c : Prop} [Decidable c] (m n : M S α) (k : α → M S β) : bnd (if c then m else n) k = if c then bnd m k else bnd n k := by
  split <;> rfl
end

/-- the law's box: how a state of it lies in the heap -/
class BoxS (S : Type) where
  R : S → Addr → Addr → Hp → Prop
  there : ∀ {st β γ H}, R st β γ H → (∃ o, H β = some o) ∧ ∃ o, H γ = some o
  congr : ∀ {st β γ H H'}, R st β γ H → H' β = H β → H' γ = H γ → R st β γ H'

structure Wd where
  β : Addr
  γ : Addr
def Wd.bx (W : Wd) (a : Addr) : Prop := a = W.β ∨ a = W.γ

def keyD : Key → D
  | .inl i => .int i
  | .inr x => .str x

/-! ### how data lies in a heap that stays as it is -/
/-- a tuple: tracked, or an object of the module -/
def TupAt (K : PySem.W.Frag) (Z : Hp) (a : Addr) (vs : List V) : Prop :=
  Z a = some (.tup vs) ∨ ∃ (o : Obj) (its : Array Value) (n : Nat), K.lookup a = some o ∧ o.cls = .type "tuple" ∧ o.data = .seq its n ∧ its.size ≤ sizeLine ∧ Vals vs its.toList
mutual
inductive Rep (K : PySem.W.Frag) (β : Addr) (Z : Hp) : D → V → Prop
  | non : Rep K β Z .non .non
  | bl (b : Bool) : Rep K β Z (.bl b) (.bl b)
  | int (i : Int) : Rep K β Z (.int i) (.int i)
  | str (x : Str) : Rep K β Z (.str x) (.str x)
  | box : Rep K β Z .box (.ref β)
  | tup {a : Addr} {vs : List V} {ds : List D} : TupAt K Z a vs → RepL K β Z ds vs → Rep K β Z (.tup ds) (.ref a)
  | lst {a : Addr} {vs : List V} {ds : List D} : Z a = some (.lst vs) → RepL K β Z ds vs → Rep K β Z (.lst ds) (.ref a)
  | dK {a : Addr} {kvs : List (Key × V)} {ds : List (D × D)} : Z a = some (.dK kvs) → RepK K β Z ds kvs → Rep K β Z (.dct ds) (.ref a)
  | dT {a : Addr} {kvs : List (List Key × V)} {ds : List (D × D)} : Z a = some (.dT kvs) → RepT K β Z ds kvs → Rep K β Z (.dct ds) (.ref a)
inductive RepL (K : PySem.W.Frag) (β : Addr) (Z : Hp) : List D → List V → Prop
  | nil : RepL K β Z [] []
  | cons {d : D} {v : V} {ds : List D} {vs : List V} : Rep K β Z d v → RepL K β Z ds vs → RepL K β Z (d :: ds) (v :: vs)
inductive RepK (K : PySem.W.Frag) (β : Addr) (Z : Hp) : List (D × D) → List (Key × V) → Prop
  | nil : RepK K β Z [] []
  | cons {k : Key} {d : D} {v : V} {ds : List (D × D)} {vs : List (Key × V)} : Rep K β Z d v → RepK K β Z ds vs → RepK K β Z ((keyD k, d) :: ds) ((k, v) :: vs)
inductive RepT (K : PySem.W.Frag) (β : Addr) (Z : Hp) : List (D × D) → List (List Key × V) → Prop
  | cons {k : List Key} {d : D} {v : V} {ds : List (D × D)} {vs : List (List Key × V)} : Rep K β Z d v → RepT K β Z ds vs → RepT K β Z ((.tup (k.map keyD), d) :: ds) ((k, v) :: vs)
end

def Sub (Z Z' : Hp) : Prop := ∀ a o, Z a = some o → Z' a = some o
theorem Sub.refl (Z : Hp) : Sub Z Z := fun _ _ h => h
theorem Sub.trans {Z Z1 Z2 : Hp} (h : Sub Z Z1) (g : Sub Z1 Z2) : Sub Z Z2 := fun a o e => g a o (h a o e)
theorem Sub.tupAt {K : PySem.W.Frag} {Z Z' : Hp} {a : Addr} {vs : List V} (s : Sub Z Z') (h : TupAt K Z a vs) : TupAt K Z' a vs := h.elim (fun h => .inl (s _ _ h)) .inr
theorem Sub.sqT {K : PySem.W.Frag} {Z Z' : Hp} {a : Addr} {vs : List V} (s : Sub Z Z') (h : TupAt K Z a vs) : SqT K Z' a vs := h.elim (fun h => .inl (.inl (s _ _ h))) .inr
theorem Sub.sqTT {K : PySem.W.Frag} {Z Z' : Hp} {a : Addr} {vs : List V} (s : Sub Z Z') (h : SqT K Z a vs) : SqT K Z' a vs := by
  rcases h with (h | ⟨o, h⟩) | h
  · exact .inl (.inl (s _ _ h))
  · exact .inl (.inr ⟨o, s _ _ h⟩)
  · exact .inr h
theorem Sub.sqL {K : PySem.W.Frag} {Z Z' : Hp} {a : Addr} {vs : List V} (s : Sub Z Z') (h : SqL K Z a vs) : SqL K Z' a vs := by
  rcases h with (h | ⟨o, h⟩) | h
  · exact .inl (.inl (s _ _ h))
  · exact .inl (.inr ⟨o, s _ _ h⟩)
  · exact .inr h

section
variable {K : PySem.W.Frag} {β : Addr} {Z Z' : Hp}
mutual
theorem Rep.mono (s : Sub Z Z') : ∀ {d : D} {v : V}, Rep K β Z d v → Rep K β Z' d v
  | _, _, .non => .non
  | _, _, .bl b => .bl b
  | _, _, .int i => .int i
  | _, _, .str x => .str x
  | _, _, .box => .box
  | _, _, .tup h r => .tup (s.tupAt h) (RepL.mono s r)
  | _, _, .lst h r => .lst (s _ _ h) (RepL.mono s r)
  | _, _, .dK h r => .dK (s _ _ h) (RepK.mono s r)
  | _, _, .dT h r => .dT (s _ _ h) (RepT.mono s r)
theorem RepL.mono (s : Sub Z Z') : ∀ {d : List D} {v : List V}, RepL K β Z d v → RepL K β Z' d v
  | _, _, .nil => .nil
  | _, _, .cons h r => .cons (Rep.mono s h) (RepL.mono s r)
theorem RepK.mono (s : Sub Z Z') : ∀ {d : List (D × D)} {v : List (Key × V)}, RepK K β Z d v → RepK K β Z' d v
  | _, _, .nil => .nil
  | _, _, .cons h r => .cons (Rep.mono s h) (RepK.mono s r)
theorem RepT.mono (s : Sub Z Z') : ∀ {d : List (D × D)} {v : List (List Key × V)}, RepT K β Z d v → RepT K β Z' d v
  | _, _, .cons h r => .cons (Rep.mono s h) (RepT.mono s r)
end
theorem RepL.length : ∀ {ds : List D} {vs : List V}, RepL K β Z ds vs → ds.length = vs.length
  | _, _, .nil => rfl
  | _, _, .cons _ r => by rw [List.length_cons, List.length_cons, RepL.length r]
theorem RepL.append : ∀ {ds es : List D} {vs us : List V}, RepL K β Z ds vs → RepL K β Z es us → RepL K β Z (ds ++ es) (vs ++ us)
  | _, _, _, _, .nil, s => s
  | _, _, _, _, .cons h r, s => .cons h (RepL.append r s)
theorem RepL.get : ∀ {ds : List D} {vs : List V} {i : Nat} {d : D}, RepL K β Z ds vs → ds[i]? = some d → ∃ v, vs[i]? = some v ∧ Rep K β Z d v
  | _, _, _, _, .nil, e => by simp at e
  | _, _, 0, _, .cons h _, e => by simp at e; subst e; exact ⟨_, rfl, h⟩
  | _, _, i + 1, d, .cons _ r, e => by
    obtain ⟨v, h1, h2⟩ := RepL.get (i := i) (d := d) r (by simpa using e)
    exact ⟨v, by simpa using h1, h2⟩
theorem RepL.get' : ∀ {ds : List D} {vs : List V} {i : Nat} {v : V}, RepL K β Z ds vs → vs[i]? = some v → ∃ d, ds[i]? = some d ∧ Rep K β Z d v
  | _, _, _, _, .nil, e => by simp at e
  | _, _, 0, _, .cons h _, e => by simp at e; subst e; exact ⟨_, rfl, h⟩
  | _, _, i + 1, d, .cons _ r, e => by
    obtain ⟨v, h1, h2⟩ := RepL.get' (i := i) (v := d) r (by simpa using e)
    exact ⟨v, by simpa using h1, h2⟩
theorem RepL.take : ∀ {ds : List D} {vs : List V} (n : Nat), RepL K β Z ds vs → RepL K β Z (ds.take n) (vs.take n)
  | _, _, 0, _ => .nil
  | _, _, _ + 1, .nil => .nil
  | _, _, n + 1, .cons h r => .cons h (RepL.take n r)
theorem RepL.drop : ∀ {ds : List D} {vs : List V} (n : Nat), RepL K β Z ds vs → RepL K β Z (ds.drop n) (vs.drop n)
  | _, _, 0, r => r
  | _, _, _ + 1, .nil => .nil
  | _, _, n + 1, .cons _ r => RepL.drop n r
theorem RepL.set {d : D} {v : V} (q : Rep K β Z d v) : ∀ {ds : List D} {vs : List V} (n : Nat), RepL K β Z ds vs → RepL K β Z (ds.set n d) (vs.set n v)
  | _, _, _, .nil => .nil
  | _, _, 0, .cons _ r => .cons q r
  | _, _, n + 1, .cons h r => .cons h (RepL.set q n r)
theorem RepL.erase : ∀ {ds : List D} {vs : List V} (n : Nat), RepL K β Z ds vs → RepL K β Z (ds.eraseIdx n) (vs.eraseIdx n)
  | _, _, _, .nil => .nil
  | _, _, 0, .cons _ r => r
  | _, _, n + 1, .cons h r => .cons h (RepL.erase n r)
theorem RepL.rev : ∀ {ds : List D} {vs : List V}, RepL K β Z ds vs → RepL K β Z ds.reverse vs.reverse
  | _, _, .nil => .nil
  | _, _, .cons h r => by rw [List.reverse_cons, List.reverse_cons]; exact (RepL.rev r).append (.cons h .nil)
end

/-- the outermost list or dict may be one that changes later -/
def Rep1 (K : PySem.W.Frag) (β : Addr) (Z H : Hp) (d : D) (v : V) : Prop :=
  match d with
  | .lst ds => ∃ a vs, v = .ref a ∧ H a = some (.lst vs) ∧ RepL K β Z ds vs
  | .dct ds => ∃ a, v = .ref a ∧ ((∃ kvs, H a = some (.dK kvs) ∧ RepK K β Z ds kvs) ∨ ∃ kvs, H a = some (.dT kvs) ∧ RepT K β Z ds kvs)
  | d => Rep K β Z d v
def isMut : D → Bool
  | .lst _ => true
  | .dct _ => true
  | _ => false
section
variable {K : PySem.W.Frag} {β : Addr} {Z Z' H H' : Hp}
theorem Rep.one {d : D} {v : V} (s : Sub Z H) (r : Rep K β Z d v) : Rep1 K β Z H d v := by
  cases d with
  | lst ds => cases r with | lst h r => exact ⟨_, _, rfl, s _ _ h, r⟩
  | dct ds => cases r with
    | dK h r => exact ⟨_, rfl, .inl ⟨_, s _ _ h, r⟩⟩
    | dT h r => exact ⟨_, rfl, .inr ⟨_, s _ _ h, r⟩⟩
  | _ => exact r
theorem Rep1.mono {d : D} {v : V} (s : Sub Z Z') (t : ∀ a, v = .ref a → ∀ o, H a = some o → H' a = some o) (r : Rep1 K β Z H d v) : Rep1 K β Z' H' d v := by
  cases d with
  | lst ds => obtain ⟨a, vs, rfl, h, r⟩ := r; exact ⟨a, vs, rfl, t a rfl _ h, r.mono s⟩
  | dct ds =>
    obtain ⟨a, rfl, ⟨kvs, h, r⟩ | ⟨kvs, h, r⟩⟩ := r
    · exact ⟨a, rfl, .inl ⟨kvs, t a rfl _ h, r.mono s⟩⟩
    · exact ⟨a, rfl, .inr ⟨kvs, t a rfl _ h, r.mono s⟩⟩
  | _ => exact Rep.mono s r
theorem Rep1.rep {d : D} {v : V} (r : Rep1 K β Z H d v) (s : ∀ a, v = .ref a → isMut d = true → Z a = H a) : Rep K β Z d v := by
  cases d with
  | lst ds => obtain ⟨a, vs, rfl, h, r⟩ := r; exact .lst ((s a rfl rfl).trans h) r
  | dct ds =>
    obtain ⟨a, rfl, ⟨kvs, h, r⟩ | ⟨kvs, h, r⟩⟩ := r
    · exact .dK ((s a rfl rfl).trans h) r
    · exact .dT ((s a rfl rfl).trans h) r
  | _ => exact r
end

/-! ### what is known of the slots -/
inductive En where
  | frz (d : D) | own (d : D)
abbrev SCx := List (Option En)
/-- slot i holds an own list or dict at a -/
def ownA (Γ : SCx) (σ : L2.St) (a : Addr) : Prop := ∃ (i : Nat) (d : D), Γ[i]? = some (some (En.own d)) ∧ σ[i]? = some (some (V.ref a))

/-- no list and no tuple is longer than the line -/
def Sz (H : Hp) : Prop := ∀ (a : Addr) (vs : List V), H a = some (.lst vs) ∨ H a = some (.tup vs) → vs.length ≤ sizeLine
def SzO : HO → Prop
  | .lst vs => vs.length ≤ sizeLine
  | .tup vs => vs.length ≤ sizeLine
  | _ => True
theorem Sz.upd {H : Hp} {p : Addr} {o : HO} (h : Sz H) (q : SzO o) : Sz (L2.upd H p o) := fun a vs hr => by
  by_cases e : a = p
  · subst e
    rcases hr with hr | hr <;> (rw [upd_same] at hr; cases hr; exact q)
  · rw [upd_ne e] at hr
    exact h a vs hr
theorem Sz.tup {K : PySem.W.Frag} {H : Hp} {a : Addr} {vs : List V} (h : Sz H) (q : TupAt K H a vs) : vs.length ≤ sizeLine := by
  rcases q with q | ⟨o, its, n, _, _, _, hz, r⟩
  · exact h a vs (.inr q)
  · have e := r.length
    simp only [Array.length_toList] at e
    omega
theorem Sz.lst {H : Hp} {a : Addr} {vs : List V} (h : Sz H) (q : H a = some (.lst vs)) : vs.length ≤ sizeLine := h a vs (.inl q)
structure SR {S : Type} [BoxS S] (K : PySem.W.Frag) (W : Wd) (Γ : SCx) (σ : L2.St) (Z H : Hp) (st : S) : Prop where
  ln : σ.length = Γ.length
  sz : Sz H
  box : BoxS.R st W.β W.γ H
  zh : ∀ a o, Z a = some o → H a = some o ∧ ¬ W.bx a
  frz : ∀ (i : Nat) (d : D), Γ[i]? = some (some (En.frz d)) → ∃ v, σ[i]? = some (some v) ∧ Rep K W.β Z d v
  own : ∀ (i : Nat) (d : D), Γ[i]? = some (some (En.own d)) → ∃ a, σ[i]? = some (some (V.ref a)) ∧ Z a = none ∧ ¬ W.bx a ∧ isMut d = true ∧ Rep1 K W.β Z H d (.ref a)
  dis : ∀ (i j : Nat) (d e : D) (a : Addr), Γ[i]? = some (some (En.own d)) → Γ[j]? = some (some (En.own e)) → σ[i]? = some (some (V.ref a)) → σ[j]? = some (some (V.ref a)) → i = j

/-- what an expression may do: new objects, the box -/
structure Stp (W : Wd) (Z H Z' H' : Hp) : Prop where
  zz : Sub Z Z'
  zh : ∀ a o, Z' a = some o → H' a = some o ∧ ¬ W.bx a
  hh : ∀ a o, H a = some o → ¬ W.bx a → H' a = some o
  nw : ∀ a o, Z' a = some o → Z a = some o ∨ H a = none
  sz : Sz H → Sz H'
section
variable {S : Type} [BoxS S] {K : PySem.W.Frag} {W : Wd} {Γ Γ' : SCx} {σ σ' : L2.St} {Z H Z' H' Z1 H1 Z2 H2 : Hp} {st st' : S}
theorem Stp.refl (zh : ∀ a o, Z a = some o → H a = some o ∧ ¬ W.bx a) : Stp W Z H Z H := ⟨Sub.refl _, zh, fun _ _ h _ => h, fun _ _ h => .inl h, id⟩
theorem Stp.trans (s : Stp W Z H Z1 H1) (t : Stp W Z1 H1 Z2 H2) : Stp W Z H Z2 H2 where
  zz := s.zz.trans t.zz
  zh := t.zh
  hh := fun a o h n => t.hh a o (s.hh a o h n) n
  nw := fun a o h => by
    rcases t.nw a o h with q | q
    · exact s.nw a o q
    · cases e : H a with
      | none => exact .inr rfl
      | some u =>
        have nb : ¬ W.bx a := (t.zh a o h).2
        rw [s.hh a u e nb] at q; cases q
  sz := fun h => t.sz (s.sz h)
theorem SR.refl (r : SR K W Γ σ Z H st) : Stp W Z H Z H := Stp.refl r.zh
theorem SR.sub (r : SR K W Γ σ Z H st) : Sub Z H := fun a o h => (r.zh a o h).1
theorem Stp.sub (r : Stp W Z H Z' H') : Sub Z' H' := fun a o h => (r.zh a o h).1
theorem BoxS.bxThere (r : BoxS.R st W.β W.γ H) {a : Addr} (h : H a = none) : ¬ W.bx a := fun q => by
  obtain ⟨⟨o, e1⟩, ⟨u, e2⟩⟩ := BoxS.there r
  rcases q with q | q
  · rw [q, e1] at h; cases h
  · rw [q, e2] at h; cases h
/-- behind an expression all slots stand as they stood -/
theorem SR.step (r : SR K W Γ σ Z H st) (s : Stp W Z H Z' H') (b : BoxS.R st' W.β W.γ H') : SR K W Γ σ Z' H' st' where
  ln := r.ln
  sz := s.sz r.sz
  box := b
  zh := s.zh
  frz := fun i d h => by
    obtain ⟨v, e, q⟩ := r.frz i d h
    exact ⟨v, e, q.mono s.zz⟩
  own := fun i d h => by
    obtain ⟨a, e, z, n, mu, q⟩ := r.own i d h
    have hx : ∃ o, H a = some o := by
      cases d with
      | lst ds => obtain ⟨b, vs, eb, h, _⟩ := q; cases eb; exact ⟨_, h⟩
      | dct ds =>
        obtain ⟨b, eb, ⟨kvs, h, _⟩ | ⟨kvs, h, _⟩⟩ := q
        · cases eb; exact ⟨_, h⟩
        · cases eb; exact ⟨_, h⟩
      | _ => cases mu
    refine ⟨a, e, ?_, n, mu, q.mono s.zz fun b eb o h => ?_⟩
    · cases q' : Z' a with
      | none => rfl
      | some o =>
        rcases s.nw a o q' with w | w
        · rw [z] at w; cases w
        · obtain ⟨o, ho⟩ := hx; rw [ho] at w; cases w
    · cases eb; exact s.hh _ o h n
  dis := r.dis
theorem SR.ownThere (r : SR K W Γ σ Z H st) {a : Addr} (h : ownA Γ σ a) : ∃ o, H a = some o := by
  obtain ⟨i, d, h1, h2⟩ := h
  obtain ⟨b, e, z, n, mu, q⟩ := r.own i d h1
  rw [h2] at e; cases e
  cases d with
  | lst ds => obtain ⟨b, vs, eb, h, _⟩ := q; cases eb; exact ⟨_, h⟩
  | dct ds =>
    obtain ⟨b, eb, ⟨kvs, h, _⟩ | ⟨kvs, h, _⟩⟩ := q
    · cases eb; exact ⟨_, h⟩
    · cases eb; exact ⟨_, h⟩
  | _ => cases mu
end
/-- a new object laid, frozen -/
theorem upd_get {H : Hp} {p a : Addr} {o u : HO} (h : upd H p o a = some u) : (a = p ∧ u = o) ∨ (a ≠ p ∧ H a = some u) := by
  by_cases e : a = p
  · subst e; rw [upd_same] at h; cases h; exact .inl ⟨rfl, rfl⟩
  · rw [upd_ne e] at h; exact .inr ⟨e, h⟩
theorem upd_none {H : Hp} {p a : Addr} {o u : HO} (n : H p = none) (h : H a = some u) : upd H p o a = some u := by
  rw [upd_ne (ne_of_none h n)]; exact h
section
variable {S : Type} [BoxS S] {W : Wd} {Z H : Hp} {st : S} {p : Addr} {o : HO}
theorem z_none (zh : ∀ a o, Z a = some o → H a = some o ∧ ¬ W.bx a) (n : H p = none) : Z p = none := by
  cases e : Z p with
  | none => rfl
  | some u => rw [(zh p u e).1] at n; cases n
/-- .. frozen at once -/
theorem Stp.layZ (zh : ∀ a o, Z a = some o → H a = some o ∧ ¬ W.bx a) (b : BoxS.R st W.β W.γ H) (n : H p = none) (so : SzO o) : Stp W Z H (upd Z p o) (upd H p o) where
  zz := fun a u h => upd_none (z_none zh n) h
  zh := fun a u h => by
    rcases upd_get h with ⟨rfl, rfl⟩ | ⟨e, h⟩
    · exact ⟨upd_same, BoxS.bxThere b n⟩
    · exact ⟨by rw [upd_ne e]; exact (zh a u h).1, (zh a u h).2⟩
  hh := fun a u h _ => upd_none n h
  nw := fun a u h => by
    rcases upd_get h with ⟨rfl, rfl⟩ | ⟨e, h⟩
    · exact .inr n
    · exact .inl h
  sz := fun h => h.upd so
/-- .. not frozen -/
theorem Stp.layH (zh : ∀ a o, Z a = some o → H a = some o ∧ ¬ W.bx a) (n : H p = none) (so : SzO o) : Stp W Z H Z (upd H p o) where
  zz := Sub.refl _
  zh := fun a u h => ⟨upd_none n (zh a u h).1, (zh a u h).2⟩
  hh := fun a u h _ => upd_none n h
  nw := fun a u h => .inl h
  sz := fun h => h.upd so
theorem box_lay (b : BoxS.R st W.β W.γ H) (n : H p = none) : BoxS.R st W.β W.γ (upd H p o) := by
  have q := BoxS.bxThere b n
  exact BoxS.congr b (upd_ne fun e => q (.inl e.symm)) (upd_ne fun e => q (.inr e.symm))
end
end Sn

namespace Sn
open PySem PySem.Spec PyProof.Rows L2

/-! ### contexts -/
structure Glob where
  P : Program
  w : World
  K : PySem.W.Frag
  mg : Str → Option Value
  base : Heap
/-- where the text stands: the def's slots, the scope, the level of calls -/
structure Stat where
  G : Glob
  N : List Str
  sc : Scope
  k : Nat
  fn : Str → Bool
structure CtxP (C : Stat) (X : Cx) : Prop where
  prog : X.prog = C.G.P
  w : X.w = C.G.w
  K : X.K = C.G.K
  mg : X.mg = C.G.mg
  base : X.base = C.G.base
  N : X.N = C.N
  sc : X.env.scope = C.sc
  nd : C.N.Nodup
  calm : X.calm = true
  room : Room C.k X.A
  xe : X.xe = fun _ _ => False
  fn : ∀ x, C.fn x = true → X.fn x = true
theorem CtxP.glob {C : Stat} {X : Cx} (h : CtxP C X) {x : Str} (g : C.sc.names.lookup x = some .globalImplicit) : Gl X x := by
  show X.env.scope.names.lookup x = _
  rw [h.sc]; exact g
theorem CtxP.none {C : Stat} {X : Cx} (h : CtxP C X) {x : Str} (g : C.G.mg x = none) : X.mg x = none := by rw [h.mg]; exact g
theorem CtxP.units {C : Stat} {X : Cx} (h : CtxP C X) : X.A.units + 65 < cLine := by have := h.room.un; omega

/-! ### the reading that any expression has -/
def tU (X : Cx) (e : Expr) : TE := fun σ H Q => ∀ (pins : List (Addr × Obj)) (s : Shared), Inv X pins σ H s → wpAny (model X.prog X.w) X.A (eval e X.env) (EP X pins σ Q) X.xe s
theorem peU {X : Cx} {e : Expr} : PE X e (tU X e) := ⟨fun pins s _ _ _ I h => h pins s I⟩
theorem tU_of {X : Cx} {e : Expr} {t : TE} {σ : L2.St} {H : Hp} {Q : VK} (h : PE X e t) (q : t σ H Q) : tU X e σ H Q := fun pins s I => h.run pins s σ H Q I q
def tUT (X : Cx) (e : Expr) : TT := fun σ H Q => ∀ (pins : List (Addr × Obj)) (s : Shared), Inv X pins σ H s → wpAny (model X.prog X.w) X.A (isTrue e X.env (eval e X.env)) (TP X pins σ Q) X.xe s
theorem ptU {X : Cx} {e : Expr} : PT X e (tUT X e) := ⟨fun pins s _ _ _ I h => h pins s I⟩
theorem tUT_of {X : Cx} {e : Expr} {t : TT} {σ : L2.St} {H : Hp} {Q : Bool → Hp → Prop} (h : PT X e t) (q : t σ H Q) : tUT X e σ H Q := fun pins s I => h.run pins s σ H Q I q
def tUW (X : Cx) (e : Expr) : TT := fun σ H Q => ∀ (whole : Sem Value) (pins : List (Addr × Obj)) (s : Shared), Inv X pins σ H s → wpAny (model X.prog X.w) X.A (isTrue e X.env whole) (TP X pins σ Q) X.xe s
theorem pwU {X : Cx} {e : Expr} : PW X e (tUW X e) := ⟨fun wh pins s _ _ _ I h => h wh pins s I⟩
theorem tUW_of {X : Cx} {e : Expr} {t : TT} {σ : L2.St} {H : Hp} {Q : Bool → Hp → Prop} (h : PW X e t) (q : t σ H Q) : tUW X e σ H Q := fun wh pins s I => h.run wh pins s σ H Q I q
def tUA (X : Cx) (es : List Expr) : TA := fun σ H Q => ∀ (pos : Pos) (pins : List (Addr × Obj)) (s : Shared), Inv X pins σ H s → wpAny (model X.prog X.w) X.A (spliced (backTo pos (starEach es X.env))) (AP X pins σ Q) X.xe s
theorem paU {X : Cx} {es : List Expr} : PA X es (tUA X es) := ⟨fun pos pins s _ _ _ I h => h pos pins s I⟩
theorem tUA_of {X : Cx} {es : List Expr} {t : TA} {σ : L2.St} {H : Hp} {Q : List V → Hp → Prop} (h : PA X es t) (q : t σ H Q) : tUA X es σ H Q := fun pos pins s I => h.run pos pins s σ H Q I q
def rU (X : Cx) (f : Value → Value → Sem Value) : R2 := fun x y H Q => ∀ (pins : List (Addr × Obj)) (s : Shared) (σ : L2.St) (v u : Value), Inv X pins σ H s → RelV x v → RelV y u → wpAny (model X.prog X.w) X.A (f v u) (EP X pins σ Q) X.xe s
theorem opU {X : Cx} {f : Value → Value → Sem Value} : OpR X f (rU X f) := fun pins s σ H x y v u Q I rx ry h => h pins s σ v u I rx ry
theorem rU_of {X : Cx} {f : Value → Value → Sem Value} {r : R2} {x y : V} {H : Hp} {Q : VK} (h : OpR X f r) (q : r x y H Q) : rU X f x y H Q := fun pins s σ v u I rx ry => h pins s σ H x y v u Q I rx ry q
def cU (X : Cx) (f : Value) : List V → Hp → VK → Prop := fun xs H Q => ∀ (pins : List (Addr × Obj)) (s : Shared) (σ : L2.St) (us : List Value), Inv X pins σ H s → Vals xs us → wpAny (model X.prog X.w) X.A (call f us) (EP X pins σ Q) X.xe s
theorem crU {X : Cx} {f : Value} : CallR X f (cU X f) := fun pins s σ H xs us Q I r h => h pins s σ us I r
theorem cU_of {X : Cx} {f : Value} {r : List V → Hp → VK → Prop} {xs : List V} {H : Hp} {Q : VK} (h : CallR X f r) (q : r xs H Q) : cU X f xs H Q := fun pins s σ us I rx => h pins s σ H xs us Q I rx q

/-! ### judgements -/
inductive Md where
  | E | V | N
  deriving DecidableEq
def Res (K : PySem.W.Frag) (W : Wd) (md : Md) (H Z' H' : Hp) (d : D) (v : V) : Prop :=
  match md with
  | .E => Rep K W.β Z' d v
  | .V => Rep1 K W.β Z' H' d v ∧ ∀ a, v = .ref a → isMut d = true → ¬ W.bx a
  | .N => Rep1 K W.β Z' H' d v ∧ ∀ a, v = .ref a → isMut d = true → H a = none ∧ Z' a = none ∧ ¬ W.bx a
section
variable {S : Type} [BoxS S] {K : PySem.W.Frag} {W : Wd} {Γ : SCx} {σ : L2.St} {H Z' H' Z2 H2 : Hp} {d : D} {v : V} {st st' : S}
theorem Res.view {md : Md} (r : Res K W md H Z' H' d v) (zh : ∀ a o, Z' a = some o → H' a = some o ∧ ¬ W.bx a) : Res K W .V H Z' H' d v := by
  cases md with
  | E =>
    refine ⟨Rep.one (fun a o h => (zh a o h).1) r, fun a e mu => ?_⟩
    subst e
    cases d with
    | lst ds => cases r with | lst h _ => exact (zh _ _ h).2
    | dct ds => cases r with
      | dK h _ => exact (zh _ _ h).2
      | dT h _ => exact (zh _ _ h).2
    | _ => cases mu
  | V => exact r
  | N => exact ⟨r.1, fun a e mu => (r.2 a e mu).2.2⟩
theorem Res.stp {md : Md} (r : Res K W md H Z' H' d v) (s : Stp W Z' H' Z2 H2) : Res K W md H Z2 H2 d v := by
  cases md with
  | E => exact Rep.mono s.zz r
  | V =>
    refine ⟨?_, r.2⟩
    by_cases mu : isMut d = true
    · exact r.1.mono s.zz fun a e o h => s.hh a o h (r.2 a e mu)
    · cases d with
      | lst ds => exact absurd rfl mu
      | dct ds => exact absurd rfl mu
      | _ => exact Rep.mono s.zz r.1
  | N =>
    refine ⟨?_, fun a e mu => ?_⟩
    · by_cases mu : isMut d = true
      · exact r.1.mono s.zz fun a e o h => s.hh a o h (r.2 a e mu).2.2
      · cases d with
        | lst ds => exact absurd rfl mu
        | dct ds => exact absurd rfl mu
        | _ => exact Rep.mono s.zz r.1
    · obtain ⟨q1, q2, q3⟩ := r.2 a e mu
      refine ⟨q1, ?_, q3⟩
      cases q : Z2 a with
      | none => rfl
      | some o =>
        rcases s.nw a o q with w | w
        · rw [q2] at w; cases w
        · subst e
          obtain ⟨q4, _⟩ := r
          cases d with
          | lst ds => obtain ⟨b, vs, eb, hb, _⟩ := q4; cases eb; rw [hb] at w; cases w
          | dct ds =>
            obtain ⟨b, eb, ⟨kvs, h, _⟩ | ⟨kvs, h, _⟩⟩ := q4
            · cases eb; rw [h] at w; cases w
            · cases eb; rw [h] at w; cases w
          | _ => cases mu
theorem fresh_back {Z H Z1 H1 : Hp} {a : Addr} (b : BoxS.R st W.β W.γ H) (b1 : BoxS.R st' W.β W.γ H1) (s : Stp W Z H Z1 H1) (n : H1 a = none) : H a = none := by
  have nb := BoxS.bxThere b1 n
  cases e : H a with
  | none => rfl
  | some o => rw [s.hh a o e nb] at n; cases n
theorem Res.back {md : Md} {Z H0 : Hp} (r : Res K W md H Z2 H2 d v) (b : BoxS.R st W.β W.γ H0) (b1 : BoxS.R st' W.β W.γ H) (s : Stp W Z H0 Z' H) : Res K W md H0 Z2 H2 d v := by
  cases md with
  | E => exact r
  | V => exact r
  | N => exact ⟨r.1, fun a e mu => ⟨fresh_back b b1 s (r.2 a e mu).1, (r.2 a e mu).2⟩⟩
end

/-- the expression e, where Γ is known of the slots, does what m says -/
def Ok {S : Type} [BoxS S] (md : Md) (C : Stat) (Γ : SCx) (e : Expr) (m : M S D) : Prop :=
  ∀ X, CtxP C X → ∀ (W : Wd) (σ : L2.St) (Z H : Hp) (st : S) (d : D) (st' : S) (Q : VK), SR X.K W Γ σ Z H st → m st = some (d, st') →
    (∀ v Z' H', Stp W Z H Z' H' → BoxS.R st' W.β W.γ H' → Res X.K W md H Z' H' d v → Q v H') → tU X e σ H Q
def OkT {S : Type} [BoxS S] (C : Stat) (Γ : SCx) (e : Expr) (m : M S Bool) : Prop :=
  ∀ X, CtxP C X → ∀ (W : Wd) (σ : L2.St) (Z H : Hp) (st : S) (d : Bool) (st' : S) (Q : Bool → Hp → Prop), SR X.K W Γ σ Z H st → m st = some (d, st') →
    (∀ Z' H', Stp W Z H Z' H' → BoxS.R st' W.β W.γ H' → Q d H') → tUT X e σ H Q
def OkW {S : Type} [BoxS S] (C : Stat) (Γ : SCx) (e : Expr) (m : M S Bool) : Prop :=
  ∀ X, CtxP C X → ∀ (W : Wd) (σ : L2.St) (Z H : Hp) (st : S) (d : Bool) (st' : S) (Q : Bool → Hp → Prop), SR X.K W Γ σ Z H st → m st = some (d, st') →
    (∀ Z' H', Stp W Z H Z' H' → BoxS.R st' W.β W.γ H' → Q d H') → tUW X e σ H Q
def ResL (K : PySem.W.Frag) (W : Wd) (mds : List Md) (H Z' H' : Hp) (ds : List D) (vs : List V) : Prop :=
  match mds, ds, vs with
  | [], [], [] => True
  | md :: mds, d :: ds, v :: vs => Res K W md H Z' H' d v ∧ ResL K W mds H Z' H' ds vs
  | _, _, _ => False
/-- arguments from the left -/
def OkA {S : Type} [BoxS S] (mds : List Md) (C : Stat) (Γ : SCx) (es : List Expr) (m : M S (List D)) : Prop :=
  ∀ X, CtxP C X → ∀ (W : Wd) (σ : L2.St) (Z H : Hp) (st : S) (ds : List D) (st' : S) (Q : List V → Hp → Prop), SR X.K W Γ σ Z H st → m st = some (ds, st') →
    (∀ vs Z' H', Stp W Z H Z' H' → BoxS.R st' W.β W.γ H' → ResL X.K W mds H Z' H' ds vs → Q vs H') → tUA X es σ H Q

section
variable {S : Type} [BoxS S] {C : Stat} {Γ : SCx} {e a b : Expr} {es : List Expr} {m ma mb : M S D} {md : Md} {pos : Pos}
theorem Ok.view (h : Ok md C Γ e m) : Ok .V C Γ e m := fun X hX W σ Z H st d st' Q r hm q =>
  h X hX W σ Z H st d st' Q r hm fun v Z' H' s b r' => q v Z' H' s b (r'.view s.zh)
/-- a new list is frozen -/
theorem Ok.frz (h : Ok .N C Γ e m) : Ok .E C Γ e m := fun X hX W σ Z H st d st' Q r hm q => by
  refine h X hX W σ Z H st d st' Q r hm fun v Z' H' s b r' => ?_
  by_cases mu : isMut d = true
  · have hv : ∃ a, v = .ref a := by
      obtain ⟨q4, _⟩ := r'
      cases d with
      | lst ds => obtain ⟨b, vs, eb, _⟩ := q4; exact ⟨b, eb⟩
      | dct ds => obtain ⟨b, eb, _⟩ := q4; exact ⟨b, eb⟩
      | _ => cases mu
    obtain ⟨p, rfl⟩ := hv
    obtain ⟨q1, q2, q3⟩ := r'.2 p rfl mu
    have hp : ∃ o, H' p = some o := by
      obtain ⟨q4, _⟩ := r'
      cases d with
      | lst ds => obtain ⟨b, vs, eb, hb, _⟩ := q4; cases eb; exact ⟨_, hb⟩
      | dct ds =>
        obtain ⟨b, eb, ⟨kvs, h, _⟩ | ⟨kvs, h, _⟩⟩ := q4
        · cases eb; exact ⟨_, h⟩
        · cases eb; exact ⟨_, h⟩
      | _ => cases mu
    obtain ⟨o, ho⟩ := hp
    have sz : Sub Z' (upd Z' p o) := fun a u h => upd_none q2 h
    refine q (.ref p) (upd Z' p o) H' ⟨s.zz.trans sz, fun a u h => ?_, s.hh, fun a u h => ?_, s.sz⟩ b ?_
    · rcases upd_get h with ⟨rfl, rfl⟩ | ⟨_, h⟩
      · exact ⟨ho, q3⟩
      · exact s.zh a u h
    · rcases upd_get h with ⟨rfl, rfl⟩ | ⟨_, h⟩
      · exact .inr q1
      · exact s.nw a u h
    · refine Rep1.rep (Z := upd Z' p o) (H := H') (r'.1.mono sz fun _ _ _ h => h) fun a ea _ => ?_
      cases ea
      rw [upd_same, ho]
  · refine q v Z' H' s b ?_
    have := r'.1
    cases d with
    | lst ds => exact absurd rfl mu
    | dct ds => exact absurd rfl mu
    | _ => exact this
theorem Ok.nil : OkA (S := S) [] C Γ [] (ret []) := fun X hX W σ Z H st d st' Q r hm q => by
  obtain ⟨rfl, rfl⟩ := ret_some hm
  exact tUA_of pa_nil (q [] Z H r.refl r.box trivial)
/-- not a starred one -/
def plainArg : Expr → Bool
  | .Starred _ _ => false
  | _ => true
theorem starEach_plain (env : Env) (h : plainArg e = true) : starEach (e :: es) env = (false, eval e env) :: starEach es env := by
  cases e <;> first | rfl | cases h
theorem ResL.stp {K : PySem.W.Frag} {W : Wd} {H Z' H' Z2 H2 : Hp} (s : Stp W Z' H' Z2 H2) : ∀ {mds : List Md} {ds : List D} {vs : List V}, ResL K W mds H Z' H' ds vs → ResL K W mds H Z2 H2 ds vs
  | [], [], [], _ => trivial
  | _ :: _, _ :: _, _ :: _, ⟨h, r⟩ => ⟨h.stp s, ResL.stp s r⟩
  | [], [], _ :: _, h => h.elim
  | [], _ :: _, _, h => h.elim
  | _ :: _, [], _, h => h.elim
  | _ :: _, _ :: _, [], h => h.elim
theorem ResL.back {K : PySem.W.Frag} {W : Wd} {st st' : S} {H H0 Z Z' Z2 H2 : Hp} (b : BoxS.R st W.β W.γ H0) (b1 : BoxS.R st' W.β W.γ H) (s : Stp W Z H0 Z' H) : ∀ {mds : List Md} {ds : List D} {vs : List V}, ResL K W mds H Z2 H2 ds vs → ResL K W mds H0 Z2 H2 ds vs
  | [], [], [], _ => trivial
  | _ :: _, _ :: _, _ :: _, ⟨h, r⟩ => ⟨h.back b b1 s, ResL.back b b1 s r⟩
  | [], [], _ :: _, h => h.elim
  | [], _ :: _, _, h => h.elim
  | _ :: _, [], _, h => h.elim
  | _ :: _, _ :: _, [], h => h.elim
theorem Ok.cons {mds : List Md} {mr : M S (List D)} (ha : Ok md C Γ e m) (hr : OkA mds C Γ es mr) (hp : plainArg e = true := by rfl) : OkA (md :: mds) C Γ (e :: es) (bnd m fun x => bnd mr fun xs => ret (x :: xs)) :=
  fun X hX W σ Z H st ds st' Q r hm q => by
  obtain ⟨x, st1, h1, hm_1⟩ := bnd_some hm
  obtain ⟨xs, st2, h2, hm_2⟩ := bnd_some hm_1
  obtain ⟨rfl, rfl⟩ := ret_some hm_2
  refine tUA_of (pa_cons peU paU (starEach_plain _ hp)) ?_
  refine ha X hX W σ Z H st x st1 _ r h1 fun v Z1 H1 s1 b1 r1 => ?_
  refine hr X hX W σ Z1 H1 st1 xs _ _ (r.step s1 b1) h2 fun vs Z2 H2 s2 b2 r2 => ?_
  exact q _ Z2 H2 (s1.trans s2) b2 ⟨r1.stp s2, r2.back r.box b1 s1⟩
/-- two operands -/
theorem Ok.two {mda mdb : Md} (ha : Ok mda C Γ a ma) (hb : Ok mdb C Γ b mb) {X : Cx} (hX : CtxP C X) {W : Wd} {σ : L2.St} {Z H : Hp} {st st1 st2 : S} {x y : D} {R : V → V → Hp → Prop}
    (r : SR X.K W Γ σ Z H st) (h1 : ma st = some (x, st1)) (h2 : mb st1 = some (y, st2))
    (q : ∀ vx vy Z2 H2, Stp W Z H Z2 H2 → BoxS.R st2 W.β W.γ H2 → Res X.K W mda H Z2 H2 x vx → Res X.K W mdb H Z2 H2 y vy → R vx vy H2) : tU X a σ H fun vx H1 => tU X b σ H1 fun vy H2 => R vx vy H2 := by
  refine ha X hX W σ Z H st x st1 _ r h1 fun v Z1 H1 s1 b1 r1 => ?_
  refine hb X hX W σ Z1 H1 st1 y _ _ (r.step s1 b1) h2 fun u Z2 H2 s2 b2 r2 => ?_
  exact q _ _ Z2 H2 (s1.trans s2) b2 (r1.stp s2) (r2.back r.box b1 s1)
end

/-! ### operations by data -/
def lift {S : Type} (o : Option D) : M S D := fun s => o.map fun d => (d, s)
theorem lift_some {S : Type} {o : Option D} {s s' : S} {d : D} (h : lift o s = some (d, s')) : o = some d ∧ s' = s := by
  unfold lift at h
  cases o with
  | none => cases h
  | some x => simp only [Option.map_some, Option.some.injEq, Prod.mk.injEq] at h; exact ⟨by rw [h.1], h.2.symm⟩
/-- an operation of two values: g says what it makes of data -/
def Op2 (C : Stat) (f : Value → Value → Sem Value) (g : D → D → Option D) : Prop :=
  ∀ X, CtxP C X → ∀ {S : Type} [BoxS S] (W : Wd) (Z H : Hp) (st : S) (x y : V) (dx dy d : D) (Q : VK), (∀ a o, Z a = some o → H a = some o ∧ ¬ W.bx a) → Sz H → BoxS.R st W.β W.γ H →
    Rep1 X.K W.β Z H dx x → Rep1 X.K W.β Z H dy y → g dx dy = some d →
    (∀ v Z' H', Stp W Z H Z' H' → BoxS.R st W.β W.γ H' → Res X.K W .N H Z' H' d v → Q v H') → rU X f x y H Q
/-- a call of a built-in by data -/
def OpL (C : Stat) (f : Value) (g : List D → Option D) : Prop :=
  ∀ X, CtxP C X → ∀ {S : Type} [BoxS S] (W : Wd) (Z H : Hp) (st : S) (xs : List V) (dxs : List D) (d : D) (Q : VK), (∀ a o, Z a = some o → H a = some o ∧ ¬ W.bx a) → Sz H → BoxS.R st W.β W.γ H →
    ResL X.K W (dxs.map fun _ => Md.V) H Z H dxs xs → g dxs = some d →
    (∀ v Z' H', Stp W Z H Z' H' → BoxS.R st W.β W.γ H' → Res X.K W .N H Z' H' d v → Q v H') → cU X f xs H Q
section
variable {S : Type} [BoxS S] {C : Stat} {Γ : SCx} {e a b c : Expr} {es : List Expr} {m ma mb mc : M S D} {md : Md} {pos : Pos}
theorem Ok.op {op : Operator} {g : D → D → Option D} (ho : Op2 C (binaryOp op) g) (ha : Ok .V C Γ a ma) (hb : Ok .V C Γ b mb) : Ok .N C Γ (.BinOp a op b pos) (bnd ma fun x => bnd mb fun y => lift (g x y)) :=
  fun X hX W σ Z H st d st' Q r hm q => by
  obtain ⟨x, st1, h1, hm_3⟩ := bnd_some hm
  obtain ⟨y, st2, h2, hm_4⟩ := bnd_some hm_3
  obtain ⟨hg, rfl⟩ := lift_some hm_4
  refine tU_of (pe_op opU peU peU) (Ok.two ha hb hX r h1 h2 fun vx vy Z2 H2 s2 b2 r1 r2 => ?_)
  exact ho X hX W Z2 H2 _ vx vy x y d Q s2.zh (s2.sz r.sz) b2 r1.1 r2.1 hg fun v Z' H' s' b' r' => q v Z' H' (s2.trans s') b' (r'.back r.box b2 s2)
theorem Ok.cmp {op : CmpOp} {g : D → D → Option D} (ho : Op2 C (compareOp op) g) (ha : Ok .V C Γ a ma) (hb : Ok .V C Γ b mb) (hm : behindInMarks op b = false := by rfl) : Ok .N C Γ (.Compare a [op] [b] pos) (bnd ma fun x => bnd mb fun y => lift (g x y)) :=
  fun X hX W σ Z H st d st' Q r hm' q => by
  obtain ⟨x, st1, h1, kk1⟩ := bnd_some hm'
  obtain ⟨y, st2, h2, kk2⟩ := bnd_some kk1
  obtain ⟨hg, rfl⟩ := lift_some kk2
  refine tU_of (pe_cmpR opU peU peU hm) (Ok.two ha hb hX r h1 h2 fun vx vy Z2 H2 s2 b2 r1 r2 => ?_)
  exact ho X hX W Z2 H2 _ vx vy x y d Q s2.zh (s2.sz r.sz) b2 r1.1 r2.1 hg fun v Z' H' s' b' r' => q v Z' H' (s2.trans s') b' (r'.back r.box b2 s2)
/-- what is a bool -/
def asB {S : Type} : D → M S Bool
  | .bl b => ret b
  | _ => stuck
theorem asB_some {d : D} {s s' : S} {b : Bool} (h : asB d s = some (b, s')) : d = .bl b ∧ s' = s := by
  cases d with
  | bl c => obtain ⟨rfl, rfl⟩ := ret_some h; exact ⟨rfl, rfl⟩
  | _ => exact (stuck_some (S := S) (α := Bool) (s := s) h).elim
theorem OkT.cmp {op : CmpOp} {g : D → D → Option D} (ho : Op2 C (compareOp op) g) (ha : Ok .V C Γ a ma) (hb : Ok .V C Γ b mb) (hm : behindInMarks op b = false := by rfl) : OkT C Γ (.Compare a [op] [b] pos) (bnd ma fun x => bnd mb fun y => bnd (lift (g x y)) asB) :=
  fun X hX W σ Z H st d st' Q r hm' q => by
  obtain ⟨x, st1, h1, kk3⟩ := bnd_some hm'
  obtain ⟨y, st2, h2, kk4⟩ := bnd_some kk3
  obtain ⟨z, st3, h3, kk5⟩ := bnd_some kk4
  obtain ⟨hg, rfl⟩ := lift_some h3
  obtain ⟨rfl, rfl⟩ := asB_some kk5
  refine tUT_of (pt_cmpR opU peU peU hm) (Ok.two ha hb hX r h1 h2 fun vx vy Z2 H2 s2 b2 r1 r2 => ?_)
  refine ho X hX W Z2 H2 _ vx vy x y _ _ s2.zh (s2.sz r.sz) b2 r1.1 r2.1 hg fun v Z' H' s' b' r' => ?_
  cases r'.1
  exact ⟨d, rfl, q Z' H' (s2.trans s') b'⟩
/-- a chain of two comparisons -/
theorem Ok.chain {op op' : CmpOp} {g g' : D → D → Option D} (ho : Op2 C (compareOp op) g) (ho' : Op2 C (compareOp op') g') (ha : Ok .V C Γ a ma) (hb : Ok .V C Γ b mb) (hc : Ok .V C Γ c mc) (hm : lastMarks [op, op'] [b, c] = false := by with_unfolding_all rfl) :
    Ok .N C Γ (.Compare a [op, op'] [b, c] pos) (bnd ma fun x => bnd mb fun y => bnd (bnd (lift (g x y)) asB) fun t => if t = true then bnd mc fun z => lift (g' y z) else ret (.bl false)) :=
  fun X hX W σ Z H st d st' Q r hm' q => by
  obtain ⟨x, st1, h1, kk6⟩ := bnd_some hm'
  obtain ⟨y, st2, h2, kk7⟩ := bnd_some kk6
  obtain ⟨t, st3, h3, kk8⟩ := bnd_some kk7
  obtain ⟨z, st4, h4, h3_5⟩ := bnd_some h3
  obtain ⟨hg, rfl⟩ := lift_some h4
  obtain ⟨rfl, rfl⟩ := asB_some h3_5
  refine tU_of (pe_chain opU opU peU peU peU hm) (Ok.two ha hb hX r h1 h2 fun vx vy Z2 H2 s2 b2 r1 r2 => ?_)
  refine ho X hX W Z2 H2 _ vx vy x y _ _ s2.zh (s2.sz r.sz) b2 r1.1 r2.1 hg fun v Z3 H3 s3 b3 r3 => ?_
  cases r3.1
  refine ⟨t, rfl, ?_⟩
  have s23 := s2.trans s3
  cases t with
  | false =>
    rw [if_neg Bool.false_ne_true] at kk8 ⊢
    obtain ⟨rfl, rfl⟩ := ret_some kk8
    exact q _ Z3 H3 s23 b3 ⟨.bl false, fun a e => nomatch e⟩
  | true =>
    rw [if_pos rfl] at kk8 ⊢
    obtain ⟨z, st5, h5, kk9⟩ := bnd_some kk8
    obtain ⟨hg', rfl⟩ := lift_some kk9
    refine hc X hX W σ Z3 H3 _ z _ _ (r.step s23 b3) h5 fun vz Z4 H4 s4 b4 r4 => ?_
    have s24 := s23.trans s4
    exact ho' X hX W Z4 H4 _ vy vz y z d Q s24.zh (s24.sz r.sz) b4 ((r2.stp s3).stp s4).1 r4.1 hg' fun v Z' H' s' b' r' => q v Z' H' (s24.trans s') b' (r'.back r.box b4 s24)
theorem OkT.chain {op op' : CmpOp} {g g' : D → D → Option D} (ho : Op2 C (compareOp op) g) (ho' : Op2 C (compareOp op') g') (ha : Ok .V C Γ a ma) (hb : Ok .V C Γ b mb) (hc : Ok .V C Γ c mc) (hm : lastMarks [op, op'] [b, c] = false := by with_unfolding_all rfl) :
    OkT C Γ (.Compare a [op, op'] [b, c] pos) (bnd ma fun x => bnd mb fun y => bnd (bnd (lift (g x y)) asB) fun t => if t = true then bnd mc fun z => bnd (lift (g' y z)) asB else ret false) :=
  fun X hX W σ Z H st d st' Q r hm' q => by
  obtain ⟨x, st1, h1, kk10⟩ := bnd_some hm'
  obtain ⟨y, st2, h2, kk11⟩ := bnd_some kk10
  obtain ⟨t, st3, h3, kk12⟩ := bnd_some kk11
  obtain ⟨z, st4, h4, h3_6⟩ := bnd_some h3
  obtain ⟨hg, rfl⟩ := lift_some h4
  obtain ⟨rfl, rfl⟩ := asB_some h3_6
  refine tUT_of (pt_chain opU opU peU peU peU hm) (Ok.two ha hb hX r h1 h2 fun vx vy Z2 H2 s2 b2 r1 r2 => ?_)
  refine ho X hX W Z2 H2 _ vx vy x y _ _ s2.zh (s2.sz r.sz) b2 r1.1 r2.1 hg fun v Z3 H3 s3 b3 r3 => ?_
  cases r3.1
  refine ⟨t, rfl, ?_⟩
  have s23 := s2.trans s3
  cases t with
  | false =>
    rw [if_neg Bool.false_ne_true] at kk12 ⊢
    obtain ⟨rfl, rfl⟩ := ret_some kk12
    exact ⟨false, rfl, q Z3 H3 s23 b3⟩
  | true =>
    rw [if_pos rfl] at kk12 ⊢
    obtain ⟨z, st5, h5, kk13⟩ := bnd_some kk12
    obtain ⟨w, st6, h6, kk14⟩ := bnd_some kk13
    obtain ⟨hg', rfl⟩ := lift_some h6
    obtain ⟨rfl, rfl⟩ := asB_some kk14
    refine hc X hX W σ Z3 H3 _ z _ _ (r.step s23 b3) h5 fun vz Z4 H4 s4 b4 r4 => ?_
    have s24 := s23.trans s4
    refine ho' X hX W Z4 H4 _ vy vz y z _ _ s24.zh (s24.sz r.sz) b4 ((r2.stp s3).stp s4).1 r4.1 hg' fun v Z' H' s' b' r' => ?_
    cases r'.1
    exact ⟨d, rfl, q Z' H' (s24.trans s') b'⟩
/-! ### names, constants -/
theorem Ok.var {i : Nat} {x : Str} {d : D} (hN : C.N[i]? = some x) (hv : Vis C.sc x) (hg : Γ[i]? = some (some (.frz d))) (hd : (x == ("__debug__" : Str)) = false := by decide) (hcd : (x == ("__classdict__" : Str)) = false := by decide) : Ok (S := S) .E C Γ (.Name x pos) (ret d) :=
  fun X hX W σ Z H st d' st' Q r hm q => by
  obtain ⟨rfl, rfl⟩ := ret_some hm
  obtain ⟨v, e, rv⟩ := r.frz i _ hg
  exact tU_of (pe_var (by rw [hX.N]; exact hN) (by rw [hX.sc]; exact hv) hd hcd) ⟨v, e, q v Z H r.refl r.box rv⟩
theorem Ok.own {i : Nat} {x : Str} {d : D} (hN : C.N[i]? = some x) (hv : Vis C.sc x) (hg : Γ[i]? = some (some (.own d))) (hd : (x == ("__debug__" : Str)) = false := by decide) (hcd : (x == ("__classdict__" : Str)) = false := by decide) : Ok (S := S) .V C Γ (.Name x pos) (ret d) :=
  fun X hX W σ Z H st d' st' Q r hm q => by
  obtain ⟨rfl, rfl⟩ := ret_some hm
  obtain ⟨a, e, z, n, mu, rv⟩ := r.own i _ hg
  exact tU_of (pe_var (by rw [hX.N]; exact hN) (by rw [hX.sc]; exact hv) hd hcd) ⟨_, e, q _ Z H r.refl r.box ⟨rv, fun b eb _ => by cases eb; exact n⟩⟩
theorem Ok.int {i : Int} {j} : Ok (S := S) .E C Γ (.Constant (.int i) j pos) (ret (.int i)) := fun X hX W σ Z H st d' st' Q r hm q => by
  obtain ⟨rfl, rfl⟩ := ret_some hm
  exact tU_of pe_int (q _ Z H r.refl r.box (.int i))
theorem Ok.bl {i : Bool} {j} : Ok (S := S) .E C Γ (.Constant (.bool i) j pos) (ret (.bl i)) := fun X hX W σ Z H st d' st' Q r hm q => by
  obtain ⟨rfl, rfl⟩ := ret_some hm
  exact tU_of pe_bl (q _ Z H r.refl r.box (.bl i))
theorem Ok.non {j} : Ok (S := S) .E C Γ (.Constant .none j pos) (ret .non) := fun X hX W σ Z H st d' st' Q r hm q => by
  obtain ⟨rfl, rfl⟩ := ret_some hm
  exact tU_of pe_non (q _ Z H r.refl r.box .non)
theorem Ok.str {x : Str} {j} : Ok (S := S) .E C Γ (.Constant (.str x) j pos) (ret (.str x)) := fun X hX W σ Z H st d' st' Q r hm q => by
  obtain ⟨rfl, rfl⟩ := ret_some hm
  exact tU_of pe_str (q _ Z H r.refl r.box (.str x))
/-- a constant of the module: an int or a text -/
theorem Ok.cint {x : Str} {i : Int} {t : Tok} (hg : C.sc.names.lookup x = some .globalImplicit) (hm : C.G.mg x = some (.int i t)) (hd : (x == ("__debug__" : Str)) = false := by decide) : Ok (S := S) .E C Γ (.Name x pos) (ret (.int i)) := fun X hX W σ Z H st d' st' Q r hm' q => by
  obtain ⟨rfl, rfl⟩ := ret_some hm'
  exact tU_of (pe_glob (v := .int i) (hX.glob hg) (by rw [hX.mg]; exact hm) ⟨t, rfl⟩ hd) (q _ Z H r.refl r.box (.int i))
theorem Ok.cstr {x y : Str} {t : Tok} (hg : C.sc.names.lookup x = some .globalImplicit) (hm : C.G.mg x = some (.str y t)) (hd : (x == ("__debug__" : Str)) = false := by decide) : Ok (S := S) .E C Γ (.Name x pos) (ret (.str y)) := fun X hX W σ Z H st d' st' Q r hm' q => by
  obtain ⟨rfl, rfl⟩ := ret_some hm'
  exact tU_of (pe_glob (v := .str y) (hX.glob hg) (by rw [hX.mg]; exact hm) ⟨t, rfl⟩ hd) (q _ Z H r.refl r.box (.str y))
/-! ### tuples and lists written out -/
theorem ResL.E_repL {K : PySem.W.Frag} {W : Wd} {H Z' H' : Hp} : ∀ {ds : List D} {vs : List V} {mds : List Md}, (∀ md ∈ mds, md = Md.E) → ResL K W mds H Z' H' ds vs → RepL K W.β Z' ds vs
  | [], [], [], _, _ => .nil
  | d :: ds, v :: vs, md :: mds, hE, ⟨h, r⟩ => by
    have e := hE md List.mem_cons_self
    subst e
    exact .cons h (ResL.E_repL (fun m hm => hE m (List.mem_cons_of_mem _ hm)) r)
  | [], [], _ :: _, _, h => h.elim
  | [], _ :: _, [], _, h => h.elim
  | [], _ :: _, _ :: _, _, h => h.elim
  | _ :: _, [], [], _, h => h.elim
  | _ :: _, [], _ :: _, _, h => h.elim
  | _ :: _, _ :: _, [], _, h => h.elim
def tupD (ds : List D) : Option D := if ds.length ≤ sizeLine then some (.tup ds) else none
def lstD (ds : List D) : Option D := if ds.length ≤ sizeLine then some (.lst ds) else none
theorem tupD_some {ds : List D} {d : D} (h : tupD ds = some d) : ds.length ≤ sizeLine ∧ d = .tup ds := by
  unfold tupD at h
  split at h
  · cases h; exact ⟨by assumption, rfl⟩
  · cases h
theorem lstD_some {ds : List D} {d : D} (h : lstD ds = some d) : ds.length ≤ sizeLine ∧ d = .lst ds := by
  unfold lstD at h
  split at h
  · cases h; exact ⟨by assumption, rfl⟩
  · cases h
theorem Ok.tup {mds : List Md} {mr : M S (List D)} {x1} (hr : OkA mds C Γ es mr) (hE : ∀ md ∈ mds, md = Md.E := by decide) : Ok .E C Γ (.Tuple es x1 pos) (bnd mr fun xs => lift (tupD xs)) := fun X hX W σ Z H st d st' Q r hm q => by
  obtain ⟨xs, st1, h1, hm_7⟩ := bnd_some hm
  obtain ⟨hg, rfl⟩ := lift_some hm_7
  obtain ⟨hl, rfl⟩ := tupD_some hg
  refine tU_of (pe_tup paU) (hr X hX W σ Z H st xs _ _ r h1 fun vs Z1 H1 s1 b1 r1 => ?_)
  have rl := ResL.E_repL hE r1
  refine ⟨by rw [← rl.length]; exact hl, fun p hp => ?_⟩
  have hl' : vs.length ≤ sizeLine := by rw [← rl.length]; exact hl
  have s2 := Stp.layZ (o := .tup vs) s1.zh b1 hp hl'
  exact q _ _ _ (s1.trans s2) (box_lay b1 hp) (.tup (.inl upd_same) (rl.mono s2.zz))
theorem Ok.lst {mds : List Md} {mr : M S (List D)} (hr : OkA mds C Γ es mr) (hE : ∀ md ∈ mds, md = Md.E := by decide) : Ok .N C Γ (.List es pos) (bnd mr fun xs => lift (lstD xs)) := fun X hX W σ Z H st d st' Q r hm q => by
  obtain ⟨xs, st1, h1, hm_8⟩ := bnd_some hm
  obtain ⟨hg, rfl⟩ := lift_some hm_8
  obtain ⟨hl, rfl⟩ := lstD_some hg
  refine tU_of (pe_lst paU) (hr X hX W σ Z H st xs _ _ r h1 fun vs Z1 H1 s1 b1 r1 => ?_)
  have rl := ResL.E_repL hE r1
  refine ⟨by rw [← rl.length]; exact hl, fun p hp => ?_⟩
  have hl' : vs.length ≤ sizeLine := by rw [← rl.length]; exact hl
  have s2 := Stp.layH (o := .lst vs) s1.zh hp hl'
  refine q _ _ _ (s1.trans s2) (box_lay b1 hp) ⟨⟨p, vs, rfl, upd_same, rl⟩, fun a e _ => ?_⟩
  cases e
  exact ⟨fresh_back r.box b1 s1 hp, z_none s1.zh hp, BoxS.bxThere b1 hp⟩
/-! ### truth, and, or, not, if -/
def truD : D → Option Bool
  | .non => some false
  | .bl b => some b
  | .int i => some (i != 0)
  | .str x => if x.length ≤ sizeLine then some ((x.length : Int) != 0) else none
  | .tup xs => some (!xs.isEmpty)
  | .lst xs => some (!xs.isEmpty)
  | _ => none
def truM {S : Type} (d : D) : M S Bool := fun s => (truD d).map fun b => (b, s)
theorem truM_some {d : D} {s s' : S} {b : Bool} (h : truM d s = some (b, s')) : truD d = some b ∧ s' = s := by
  unfold truM at h
  cases e : truD d with
  | none => rw [e] at h; cases h
  | some x => rw [e] at h; simp only [Option.map_some, Option.some.injEq, Prod.mk.injEq] at h; exact ⟨by rw [h.1], h.2.symm⟩
theorem isEmpty_len {α β : Type} {xs : List α} {ys : List β} (h : xs.length = ys.length) : xs.isEmpty = ys.isEmpty := by
  cases xs <;> cases ys <;> first | rfl | (simp at h)
theorem truV_of {K : PySem.W.Frag} {W : Wd} {Z H : Hp} {d : D} {v : V} {b : Bool} (sz : Sub Z H) (r : Rep1 K W.β Z H d v) (h : truD d = some b) : TruV K v H b := by
  cases d with
  | non => cases r; cases h; rfl
  | bl c => cases r; cases h; rfl
  | int i => cases r; cases h; rfl
  | str x =>
    cases r
    have h' : (if x.length ≤ sizeLine then some ((x.length : Int) != 0) else none) = some b := h
    split at h'
    · cases h'; exact ⟨by assumption, rfl⟩
    · cases h'
  | tup xs => cases r with | tup hq rl => cases h; exact .inr (.inl ⟨_, sz.sqT hq, by rw [isEmpty_len rl.length]⟩)
  | lst xs =>
    obtain ⟨a, vs, rfl, ha, rl⟩ := r
    cases h
    exact .inl ⟨vs, .inl (.inl ha), by rw [isEmpty_len rl.length]⟩
  | dct xs => cases h
  | box => cases h
theorem OkT.val (ha : Ok .V C Γ a ma) (he : ∀ (env : Env) whole, isTrue a env whole = (do let v ← whole; standAt a.pos; holding [v] (truthy v)) := by intros; rfl) : OkT C Γ a (bnd ma truM) := fun X hX W σ Z H st d st' Q r hm q => by
  obtain ⟨x, st1, h1, hm_9⟩ := bnd_some hm
  obtain ⟨hg, rfl⟩ := truM_some hm_9
  refine tUT_of (pt_truth peU (he _)) (ha X hX W σ Z H st x _ _ r h1 fun v Z1 H1 s1 b1 r1 => ?_)
  exact ⟨d, truV_of s1.sub r1.1 hg, q Z1 H1 s1 b1⟩
theorem OkT.not {n : M S Bool} (ha : OkT C Γ a n) : OkT C Γ (.UnaryOp .Not a pos) (bnd n fun b => ret (!b)) := fun X hX W σ Z H st d st' Q r hm q => by
  obtain ⟨x, st1, h1, hm_10⟩ := bnd_some hm
  obtain ⟨rfl, rfl⟩ := ret_some hm_10
  exact tUT_of (pt_not ptU) (ha X hX W σ Z H st x _ _ r h1 fun Z1 H1 s1 b1 => q Z1 H1 s1 b1)
theorem OkW.pt {n : M S Bool} (h : OkW C Γ e n) : OkT C Γ e n := fun X hX W σ Z H st d st' Q r hm q => fun pins s I => h X hX W σ Z H st d st' Q r hm q _ pins s I
theorem OkW.and1 {n : M S Bool} (h : OkT C Γ a n) : OkW C Γ (.BoolOp .And [a] pos) n := fun X hX W σ Z H st d st' Q r hm q => tUW_of (pw_and1 ptU) (h X hX W σ Z H st d st' Q r hm q)
theorem OkW.or1 {n : M S Bool} (h : OkT C Γ a n) : OkW C Γ (.BoolOp .Or [a] pos) n := fun X hX W σ Z H st d st' Q r hm q => tUW_of (pw_or1 ptU) (h X hX W σ Z H st d st' Q r hm q)
theorem OkW.and {n k : M S Bool} (h : OkT C Γ a n) (hr : OkW C Γ (.BoolOp .And (b :: es) pos) k) : OkW C Γ (.BoolOp .And (a :: b :: es) pos) (bnd n fun t => if t = true then k else ret false) := fun X hX W σ Z H st d st' Q r hm q => by
  obtain ⟨t, st1, h1, hm_11⟩ := bnd_some hm
  refine tUW_of (pw_and ptU pwU) (h X hX W σ Z H st t _ _ r h1 fun Z1 H1 s1 b1 => ?_)
  cases t with
  | true => exact hr X hX W σ Z1 H1 st1 d st' Q (r.step s1 b1) hm_11 fun Z2 H2 s2 b2 => q Z2 H2 (s1.trans s2) b2
  | false =>
    rw [if_neg Bool.false_ne_true] at hm_11 ⊢
    obtain ⟨rfl, rfl⟩ := ret_some hm_11
    exact q Z1 H1 s1 b1
theorem OkW.or {n k : M S Bool} (h : OkT C Γ a n) (hr : OkW C Γ (.BoolOp .Or (b :: es) pos) k) : OkW C Γ (.BoolOp .Or (a :: b :: es) pos) (bnd n fun t => if t = true then ret true else k) := fun X hX W σ Z H st d st' Q r hm q => by
  obtain ⟨t, st1, h1, hm_12⟩ := bnd_some hm
  refine tUW_of (pw_or ptU pwU) (h X hX W σ Z H st t _ _ r h1 fun Z1 H1 s1 b1 => ?_)
  cases t with
  | false => exact hr X hX W σ Z1 H1 st1 d st' Q (r.step s1 b1) hm_12 fun Z2 H2 s2 b2 => q Z2 H2 (s1.trans s2) b2
  | true =>
    rw [if_pos rfl] at hm_12 ⊢
    obtain ⟨rfl, rfl⟩ := ret_some hm_12
    exact q Z1 H1 s1 b1
/-- as values -/
theorem Ok.one {op} (h : Ok md C Γ a ma) : Ok md C Γ (.BoolOp op [a] pos) ma := fun X hX W σ Z H st d st' Q r hm q => tU_of (pe_one peU) (h X hX W σ Z H st d st' Q r hm q)
theorem Ok.and (h : Ok .V C Γ a ma) (hr : Ok md C Γ (.BoolOp .And (b :: es) pos) mb) (hmd : md = .E ∨ md = .N := by first | exact Or.inl rfl | exact Or.inr rfl) : Ok md C Γ (.BoolOp .And (a :: b :: es) pos) (bnd (bnd ma asB) fun t => if t = true then mb else ret (.bl false)) := fun X hX W σ Z H st d st' Q r hm q => by
  obtain ⟨t, st1, h1, hm_13⟩ := bnd_some hm
  obtain ⟨x, st2, h2, h1_14⟩ := bnd_some h1
  obtain ⟨rfl, rfl⟩ := asB_some h1_14
  refine tU_of (pe_and peU peU) (h X hX W σ Z H st _ _ _ r h2 fun v Z1 H1 s1 b1 r1 => ?_)
  cases r1.1
  refine ⟨t, rfl, ?_⟩
  cases t with
  | true => exact hr X hX W σ Z1 H1 _ d st' Q (r.step s1 b1) hm_13 fun v Z2 H2 s2 b2 r2 => q v Z2 H2 (s1.trans s2) b2 (r2.back r.box b1 s1)
  | false =>
    rw [if_neg Bool.false_ne_true] at hm_13 ⊢
    obtain ⟨rfl, rfl⟩ := ret_some hm_13
    refine q _ Z1 H1 s1 b1 ?_
    rcases hmd with rfl | rfl
    · exact .bl false
    · exact ⟨.bl false, fun _ e => nomatch e⟩
theorem Ok.or (h : Ok .V C Γ a ma) (hr : Ok md C Γ (.BoolOp .Or (b :: es) pos) mb) (hmd : md = .E ∨ md = .N := by first | exact Or.inl rfl | exact Or.inr rfl) : Ok md C Γ (.BoolOp .Or (a :: b :: es) pos) (bnd (bnd ma asB) fun t => if t = true then ret (.bl true) else mb) := fun X hX W σ Z H st d st' Q r hm q => by
  obtain ⟨t, st1, h1, hm_15⟩ := bnd_some hm
  obtain ⟨x, st2, h2, h1_16⟩ := bnd_some h1
  obtain ⟨rfl, rfl⟩ := asB_some h1_16
  refine tU_of (pe_or peU peU) (h X hX W σ Z H st _ _ _ r h2 fun v Z1 H1 s1 b1 r1 => ?_)
  cases r1.1
  refine ⟨t, rfl, ?_⟩
  cases t with
  | false => exact hr X hX W σ Z1 H1 _ d st' Q (r.step s1 b1) hm_15 fun v Z2 H2 s2 b2 r2 => q v Z2 H2 (s1.trans s2) b2 (r2.back r.box b1 s1)
  | true =>
    rw [if_pos rfl] at hm_15 ⊢
    obtain ⟨rfl, rfl⟩ := ret_some hm_15
    refine q _ Z1 H1 s1 b1 ?_
    rcases hmd with rfl | rfl
    · exact .bl true
    · exact ⟨.bl true, fun _ e => nomatch e⟩
theorem Ok.not (h : Ok .V C Γ a ma) : Ok .E C Γ (.UnaryOp .Not a pos) (bnd (bnd ma truM) fun t => ret (.bl (!t))) := fun X hX W σ Z H st d st' Q r hm q => by
  obtain ⟨t, st1, h1, hm_17⟩ := bnd_some hm
  obtain ⟨x, st2, h2, h1_18⟩ := bnd_some h1
  obtain ⟨ht, rfl⟩ := truM_some h1_18
  obtain ⟨rfl, rfl⟩ := ret_some hm_17
  refine tU_of (pe_notT peU) (h X hX W σ Z H st _ _ _ r h2 fun v Z1 H1 s1 b1 r1 => ?_)
  exact ⟨t, truV_of s1.sub r1.1 ht, q _ Z1 H1 s1 b1 (.bl _)⟩
theorem Ok.neg (h : Ok .V C Γ a ma) : Ok .E C Γ (.UnaryOp .USub a pos) (bnd ma fun x => lift (match x with | .int i => some (.int (-i)) | _ => none)) := fun X hX W σ Z H st d st' Q r hm q => by
  obtain ⟨x, st1, h1, hm_19⟩ := bnd_some hm
  obtain ⟨ht, rfl⟩ := lift_some hm_19
  refine tU_of (pe_un un_neg peU) (h X hX W σ Z H st _ _ _ r h1 fun v Z1 H1 s1 b1 r1 => ?_)
  cases x with
  | int i => cases r1.1; cases ht; exact ⟨i, rfl, q _ Z1 H1 s1 b1 (.int _)⟩
  | _ => cases ht
theorem Ok.ife {n : M S Bool} (hc : OkT C Γ c n) (ha : Ok md C Γ a ma) (hb : Ok md C Γ b mb) : Ok md C Γ (.IfExp c a b pos) (bnd n fun t => if t = true then ma else mb) := fun X hX W σ Z H st d st' Q r hm q => by
  obtain ⟨t, st1, h1, hm_20⟩ := bnd_some hm
  refine tU_of (pe_ifExp ptU peU peU) (hc X hX W σ Z H st _ _ _ r h1 fun Z1 H1 s1 b1 => ?_)
  cases t with
  | true => exact ha X hX W σ Z1 H1 _ d st' Q (r.step s1 b1) hm_20 fun v Z2 H2 s2 b2 r2 => q v Z2 H2 (s1.trans s2) b2 (r2.back r.box b1 s1)
  | false => exact hb X hX W σ Z1 H1 _ d st' Q (r.step s1 b1) hm_20 fun v Z2 H2 s2 b2 r2 => q v Z2 H2 (s1.trans s2) b2 (r2.back r.box b1 s1)
end
end Sn

namespace Sn
open PySem PySem.Spec PyProof.Rows L2

def tUS (X : Cx) (ss : List Stmt) : TS := fun D σ H => ∀ (pins : List (Addr × Obj)) (s : Shared), Inv X pins σ H s → wpAny (model X.prog X.w) X.A (execs ss X.env) (SP X pins D) X.xe s
theorem pssU {X : Cx} {ss : List Stmt} : PSs X ss (tUS X ss) := ⟨fun pins s _ _ _ I h => h pins s I⟩
theorem tUS_of {X : Cx} {ss : List Stmt} {t : TS} {σ : L2.St} {H : Hp} {D : Ends} (h : PSs X ss t) (q : t D σ H) : tUS X ss D σ H := fun pins s I => h.run pins s σ H D I q
def tUG (X : Cx) (tg : Expr) : TG := fun v σ H Q => ∀ (pins : List (Addr × Obj)) (s : Shared) (u : Value), Inv X pins σ H s → RelV v u → wpAny (model X.prog X.w) X.A (assign tg X.env u) (fun _ s' => ∃ σ' H', Inv X pins σ' H' s' ∧ Q σ' H') X.xe s
theorem pgU {X : Cx} {tg : Expr} : PG X tg (tUG X tg) := ⟨fun pins s _ _ _ u _ I r h => h pins s u I r⟩
theorem tUG_of {X : Cx} {tg : Expr} {t : TG} {v : V} {σ : L2.St} {H : Hp} {Q : L2.St → Hp → Prop} (h : PG X tg t) (q : t v σ H Q) : tUG X tg v σ H Q := fun pins s u I r => h.run pins s σ H v u Q I r q
def tUI (X : Cx) (tg iter : Expr) : TI := fun σ H R => ∀ (pins : List (Addr × Obj)) (s : Shared), Inv X pins σ H s →
  wpAny (model X.prog X.w) X.A (eval iter X.env) (fun v s1 => wpAny (model X.prog X.w) X.A (pyIter v) (PIE X pins σ tg R) X.xe s1) X.xe s
theorem piU {X : Cx} {tg iter : Expr} : PI X tg iter (tUI X tg iter) := ⟨fun pins s _ _ _ I h => h pins s I⟩
theorem tUI_of {X : Cx} {tg iter : Expr} {t : TI} {σ : L2.St} {H : Hp} {R : It → Hp → Prop} (h : PI X tg iter t) (q : t σ H R) : tUI X tg iter σ H R := fun pins s I => h.run pins s σ H R I q

/-! ### the slots change -/
section
variable {S : Type} [BoxS S] {K : PySem.W.Frag} {W : Wd} {Γ Γ' : SCx} {σ σ' : L2.St} {Z H Z' H' Z1 H1 : Hp} {st st' : S} {i : Nat} {d : D} {v : V}
theorem set_cases {α : Type} {l : List α} {i j : Nat} {x y : α} (h : (l.set i x)[j]? = some y) : (j = i ∧ y = x ∧ i < l.length) ∨ (j ≠ i ∧ l[j]? = some y) := by
  by_cases e : i = j
  · subst e
    by_cases hl : i < l.length
    · rw [List.getElem?_set_self hl] at h; cases h; exact .inl ⟨rfl, rfl, hl⟩
    · rw [List.getElem?_eq_none (by simpa using hl)] at h; cases h
  · rw [List.getElem?_set_ne e] at h; exact .inr ⟨fun z => e z.symm, h⟩
theorem SR.setF (r : SR K W Γ σ Z H st) (q : Rep K W.β Z d v) : SR K W (Γ.set i (some (.frz d))) (σ.set i (some v)) Z H st where
  ln := by rw [List.length_set, List.length_set]; exact r.ln
  sz := r.sz
  box := r.box
  zh := r.zh
  frz := fun j e h => by
    rcases set_cases h with ⟨rfl, he, hl⟩ | ⟨hn, h⟩
    · cases he
      exact ⟨v, List.getElem?_set_self (by rw [r.ln]; exact hl), q⟩
    · rw [List.getElem?_set_ne (Ne.symm hn)]; exact r.frz j e h
  own := fun j e h => by
    rcases set_cases h with ⟨rfl, he, hl⟩ | ⟨hn, h⟩
    · cases he
    · rw [List.getElem?_set_ne (Ne.symm hn)]; exact r.own j e h
  dis := fun j k e f a h1 h2 h3 h4 => by
    rcases set_cases h1 with ⟨rfl, he, hl⟩ | ⟨hn, h1⟩
    · cases he
    · rcases set_cases h2 with ⟨rfl, he, hl⟩ | ⟨hm, h2⟩
      · cases he
      · rw [List.getElem?_set_ne (Ne.symm hn)] at h3
        rw [List.getElem?_set_ne (Ne.symm hm)] at h4
        exact r.dis j k e f a h1 h2 h3 h4
theorem own_setF {a : Addr} (h : ownA (Γ.set i (some (.frz d))) (σ.set i (some v)) a) : ownA Γ σ a := by
  obtain ⟨j, e, h1, h2⟩ := h
  rcases set_cases h1 with ⟨rfl, he, hl⟩ | ⟨hn, h1⟩
  · cases he
  · rw [List.getElem?_set_ne (Ne.symm hn)] at h2
    exact ⟨j, e, h1, h2⟩
theorem SR.setO {p : Addr} (r : SR K W Γ σ Z H st) (mu : isMut d = true) (q : Rep1 K W.β Z H d (.ref p)) (z : Z p = none) (nb : ¬ W.bx p) (no : ¬ ownA Γ σ p) : SR K W (Γ.set i (some (.own d))) (σ.set i (some (.ref p))) Z H st where
  ln := by rw [List.length_set, List.length_set]; exact r.ln
  sz := r.sz
  box := r.box
  zh := r.zh
  frz := fun j e h => by
    rcases set_cases h with ⟨rfl, he, hl⟩ | ⟨hn, h⟩
    · cases he
    · rw [List.getElem?_set_ne (Ne.symm hn)]; exact r.frz j e h
  own := fun j e h => by
    rcases set_cases h with ⟨rfl, he, hl⟩ | ⟨hn, h⟩
    · cases he
      exact ⟨p, List.getElem?_set_self (by rw [r.ln]; exact hl), z, nb, mu, q⟩
    · rw [List.getElem?_set_ne (Ne.symm hn)]; exact r.own j e h
  dis := fun j k e f a h1 h2 h3 h4 => by
    rcases set_cases h1 with ⟨ej, he, hl⟩ | ⟨hn, g1⟩
    · rcases set_cases h2 with ⟨ek, he', hl'⟩ | ⟨hm, g2⟩
      · rw [ej, ek]
      · rw [ej, List.getElem?_set_self (by rw [r.ln]; exact hl)] at h3
        cases h3
        rw [List.getElem?_set_ne (Ne.symm hm)] at h4
        exact (no ⟨k, f, g2, h4⟩).elim
    · rcases set_cases h2 with ⟨ek, he', hl'⟩ | ⟨hm, g2⟩
      · rw [ek, List.getElem?_set_self (by rw [r.ln]; exact hl')] at h4
        cases h4
        rw [List.getElem?_set_ne (Ne.symm hn)] at h3
        exact (no ⟨j, e, g1, h3⟩).elim
      · rw [List.getElem?_set_ne (Ne.symm hn)] at h3
        rw [List.getElem?_set_ne (Ne.symm hm)] at h4
        exact r.dis j k e f a g1 g2 h3 h4
theorem own_setO {a p : Addr} (h : ownA (Γ.set i (some (.own d))) (σ.set i (some (.ref p))) a) : ownA Γ σ a ∨ a = p := by
  obtain ⟨j, e, h1, h2⟩ := h
  rcases set_cases h1 with ⟨rfl, he, hl⟩ | ⟨hn, h1⟩
  · by_cases hs : j < σ.length
    · rw [List.getElem?_set_self hs] at h2
      cases h2
      exact .inr rfl
    · rw [List.getElem?_eq_none (by simpa using hs)] at h2; cases h2
  · rw [List.getElem?_set_ne (Ne.symm hn)] at h2
    exact .inl ⟨j, e, h1, h2⟩
/-- the object of an own slot changes -/
theorem SR.mut {p : Addr} {o : HO} {d' : D} (r : SR K W Γ σ Z H st) (h0 : Γ[i]? = some (some (En.own d))) (hp : σ[i]? = some (some (V.ref p))) (mu : isMut d' = true) (q : Rep1 K W.β Z (upd H p o) d' (.ref p)) (so : SzO o) :
    SR K W (Γ.set i (some (.own d'))) σ Z (upd H p o) st := by
  obtain ⟨p', e', z, nb, _, _⟩ := r.own i d h0
  rw [hp] at e'; cases e'
  have np : ∀ a u, Z a = some u → a ≠ p := fun a u h e => by rw [e, z] at h; cases h
  refine ⟨by rw [List.length_set]; exact r.ln, r.sz.upd so, BoxS.congr r.box (upd_ne fun e => nb (.inl e.symm)) (upd_ne fun e => nb (.inr e.symm)), fun a u h => ⟨by rw [upd_ne (np a u h)]; exact (r.zh a u h).1, (r.zh a u h).2⟩, fun j e h => ?_, fun j e h => ?_, fun j k e f a h1 h2 h3 h4 => ?_⟩
  · rcases set_cases h with ⟨rfl, he, hl⟩ | ⟨hn, h⟩
    · cases he
    · exact r.frz j e h
  · rcases set_cases h with ⟨rfl, he, hl⟩ | ⟨hn, h⟩
    · cases he
      exact ⟨p, hp, z, nb, mu, q⟩
    · obtain ⟨a, ea, za, na, ma, qa⟩ := r.own j e h
      refine ⟨a, ea, za, na, ma, qa.mono (Sub.refl _) fun b eb u hb => ?_⟩
      cases eb
      rw [upd_ne (fun z => hn (r.dis j i e d a h h0 ea (by rw [z]; exact hp)))]
      exact hb
  · have g : ∀ (j : Nat) (e : D), (Γ.set i (some (En.own d')))[j]? = some (some (En.own e)) → ∃ e', Γ[j]? = some (some (En.own e')) := fun j e h => by
      rcases set_cases h with ⟨rfl, he, hl⟩ | ⟨hn, h⟩
      · exact ⟨d, h0⟩
      · exact ⟨e, h⟩
    obtain ⟨e', h1'⟩ := g j e h1
    obtain ⟨f', h2'⟩ := g k f h2
    exact r.dis j k e' f' a h1' h2' h3 h4
theorem own_mut {d' : D} {a : Addr} (h0 : Γ[i]? = some (some (En.own d))) (h : ownA (Γ.set i (some (.own d'))) σ a) : ownA Γ σ a := by
  obtain ⟨j, e, h1, h2⟩ := h
  rcases set_cases h1 with ⟨rfl, he, hl⟩ | ⟨hn, h1⟩
  · exact ⟨j, d, h0, h2⟩
  · exact ⟨j, e, h1, h2⟩
/-- less is known -/
def Wk (Γ Γ' : SCx) : Prop := Γ'.length = Γ.length ∧ ∀ (i : Nat) (e : En), Γ'[i]? = some (some e) → Γ[i]? = some (some e)
def maskOut : List Bool → SCx → SCx
  | b :: bs, e :: es => (if b then e else none) :: maskOut bs es
  | [], es => es
  | _ :: _, [] => []
theorem wk_mask : ∀ {bs : List Bool} {Γ : SCx}, Wk Γ (maskOut bs Γ)
  | [], Γ => ⟨by cases Γ <;> rfl, fun i e h => by cases Γ <;> exact h⟩
  | b :: bs, [] => ⟨rfl, fun i e h => by simp [maskOut] at h⟩
  | b :: bs, x :: es => by
    obtain ⟨h1, h2⟩ := wk_mask (bs := bs) (Γ := es)
    refine ⟨by simp only [maskOut, List.length_cons]; rw [h1], fun i e h => ?_⟩
    cases i with
    | zero =>
      have h' : (if b then x else none) = some e := by simpa [maskOut] using h
      cases b with
      | true => rw [if_pos rfl] at h'; subst h'; simp
      | false => cases h'
    | succ i =>
      have h' : (maskOut bs es)[i]? = some (some e) := by simpa [maskOut] using h
      simpa using h2 i e h'
theorem SR.wk (r : SR K W Γ σ Z H st) (k : Wk Γ Γ') : SR K W Γ' σ Z H st :=
  ⟨by rw [k.1]; exact r.ln, r.sz, r.box, r.zh, fun i d h => r.frz i d (k.2 i _ h), fun i d h => r.own i d (k.2 i _ h), fun i j d e a h1 h2 => r.dis i j d e a (k.2 i _ h1) (k.2 j _ h2)⟩
theorem own_wk (k : Wk Γ Γ') {a : Addr} (h : ownA Γ' σ a) : ownA Γ σ a := by
  obtain ⟨i, d, h1, h2⟩ := h
  exact ⟨i, d, k.2 i _ h1, h2⟩
/-- an own list is never changed any more -/
theorem SR.freeze (r : SR K W Γ σ Z H st) (h0 : Γ[i]? = some (some (En.own d))) : ∃ p o, σ[i]? = some (some (V.ref p)) ∧ ownA Γ σ p ∧ Z p = none ∧ H p = some o ∧ SR K W (Γ.set i (some (.frz d))) σ (upd Z p o) H st ∧ Rep K W.β (upd Z p o) d (.ref p) := by
  obtain ⟨p, hp, z, nb, mu, q⟩ := r.own i d h0
  have hx : ∃ o, H p = some o := r.ownThere ⟨i, d, h0, hp⟩
  obtain ⟨o, ho⟩ := hx
  have sz : Sub Z (upd Z p o) := fun a u h => upd_none z h
  have rq : Rep K W.β (upd Z p o) d (.ref p) := Rep1.rep (H := H) (q.mono sz fun _ _ _ h => h) fun a e _ => by cases e; rw [upd_same, ho]
  refine ⟨p, o, hp, ⟨i, d, h0, hp⟩, z, ho, ⟨by rw [List.length_set]; exact r.ln, r.sz, r.box, fun a u h => ?_, fun j e h => ?_, fun j e h => ?_, fun j k e f a h1 h2 h3 h4 => ?_⟩, rq⟩
  · rcases upd_get h with ⟨rfl, rfl⟩ | ⟨_, h⟩
    · exact ⟨ho, nb⟩
    · exact r.zh a u h
  · rcases set_cases h with ⟨rfl, he, hl⟩ | ⟨hn, h⟩
    · cases he; exact ⟨_, hp, rq⟩
    · obtain ⟨v, ev, rv⟩ := r.frz j e h
      exact ⟨v, ev, rv.mono sz⟩
  · rcases set_cases h with ⟨rfl, he, hl⟩ | ⟨hn, h⟩
    · cases he
    · obtain ⟨a, ea, za, na, ma, qa⟩ := r.own j e h
      refine ⟨a, ea, ?_, na, ma, qa.mono sz fun _ _ _ h => h⟩
      rw [upd_ne (fun z' => hn (r.dis j i e d a h h0 ea (by rw [z']; exact hp)))]
      exact za
  · rcases set_cases h1 with ⟨rfl, he, hl⟩ | ⟨hn, h1⟩
    · cases he
    · rcases set_cases h2 with ⟨rfl, he, hl⟩ | ⟨hm, h2⟩
      · cases he
      · exact r.dis j k e f a h1 h2 h3 h4
theorem own_freeze {a : Addr} (h : ownA (Γ.set i (some (.frz d))) σ a) : ownA Γ σ a := by
  obtain ⟨j, e, h1, h2⟩ := h
  rcases set_cases h1 with ⟨rfl, he, hl⟩ | ⟨hn, h1⟩
  · cases he
  · exact ⟨j, e, h1, h2⟩
end

/-! ### blocks -/
structure Tg (τ l : Type) where
  nx : τ → SCx
  lp : l → SCx
inductive Fl (τ l : Type) where
  | nx (s : τ) | rt (d : D) | bk (s : l) | ct (s : l)
/-- what a block may do -/
structure BSt (W : Wd) (Γ : SCx) (σ : L2.St) (Z H Z' H' : Hp) : Prop where
  zz : Sub Z Z'
  hh : ∀ a o, H a = some o → ¬ W.bx a → ¬ ownA Γ σ a → H' a = some o
  nw : ∀ a o, Z' a = some o → Z a = some o ∨ H a = none ∨ ownA Γ σ a
  sz : Sz H → Sz H'
def OwLe (Γ : SCx) (σ : L2.St) (H : Hp) (Γ' : SCx) (σ' : L2.St) : Prop := ∀ a, ownA Γ' σ' a → ownA Γ σ a ∨ H a = none
def FlOk {S : Type} [BoxS S] {τ l : Type} (K : PySem.W.Frag) (W : Wd) (Γ : SCx) (σ : L2.St) (Z H : Hp) (T : Tg τ l) (f : Fl τ l) (st' : S) (D : Ends) : Prop :=
  match f with
  | .nx s => ∀ σ' Z' H', SR K W (T.nx s) σ' Z' H' st' → BSt W Γ σ Z H Z' H' → OwLe Γ σ H (T.nx s) σ' → D.nx σ' H'
  | .ct s => ∀ σ' Z' H', SR K W (T.lp s) σ' Z' H' st' → BSt W Γ σ Z H Z' H' → OwLe Γ σ H (T.lp s) σ' → D.ct σ' H'
  | .bk s => ∀ σ' Z' H', SR K W (T.lp s) σ' Z' H' st' → BSt W Γ σ Z H Z' H' → OwLe Γ σ H (T.lp s) σ' → D.bk σ' H'
  | .rt d => ∀ v Z' H', (∀ a o, Z' a = some o → H' a = some o ∧ ¬ W.bx a) → BoxS.R st' W.β W.γ H' → BSt W Γ σ Z H Z' H' → Rep K W.β Z' d v → D.rt v H'
def OkB {S : Type} [BoxS S] {τ l : Type} (C : Stat) (Γ : SCx) (ss : List Stmt) (T : Tg τ l) (m : M S (Fl τ l)) : Prop :=
  ∀ X, CtxP C X → ∀ (W : Wd) (σ : L2.St) (Z H : Hp) (st : S) (f : Fl τ l) (st' : S) (D : Ends), SR X.K W Γ σ Z H st → m st = some (f, st') → FlOk X.K W Γ σ Z H T f st' D → tUS X ss D σ H

section
variable {S : Type} [BoxS S] {K : PySem.W.Frag} {W : Wd} {Γ Γ1 : SCx} {σ σ1 : L2.St} {Z H Z1 H1 Z2 H2 : Hp} {st st' : S} {τ l : Type}
theorem Stp.bst (s : Stp W Z H Z1 H1) : BSt W Γ σ Z H Z1 H1 := ⟨s.zz, fun a o h n _ => s.hh a o h n, fun a o h => (s.nw a o h).elim .inl fun q => .inr (.inl q), s.sz⟩
theorem BSt.refl : BSt W Γ σ Z H Z H := ⟨Sub.refl _, fun _ _ h _ _ => h, fun _ _ h => .inl h, id⟩
theorem OwLe.refl : OwLe Γ σ H Γ σ := fun _ h => .inl h
theorem BSt.trans (nb : ∀ a o, Z2 a = some o → ¬ W.bx a) (s : BSt W Γ σ Z H Z1 H1) (w : OwLe Γ σ H Γ1 σ1) (t : BSt W Γ1 σ1 Z1 H1 Z2 H2) : BSt W Γ σ Z H Z2 H2 where
  zz := s.zz.trans t.zz
  hh := fun a o h n no => t.hh a o (s.hh a o h n no) n fun q => by
    rcases w a q with q | q
    · exact no q
    · rw [h] at q; cases q
  nw := fun a o h => by
    rcases t.nw a o h with q | q | q
    · exact s.nw a o q
    · cases e : H a with
      | none => exact .inr (.inl rfl)
      | some u =>
        by_cases no : ownA Γ σ a
        · exact .inr (.inr no)
        · rw [s.hh a u e (nb a o h) no] at q; cases q
    · rcases w a q with q | q
      · exact .inr (.inr q)
      · exact .inr (.inl q)
  sz := fun h => t.sz (s.sz h)
theorem OwLe.trans {Γ2 : SCx} {σ2 : L2.St} (s : BSt W Γ σ Z H Z1 H1) (w : OwLe Γ σ H Γ1 σ1) (t : OwLe Γ1 σ1 H1 Γ2 σ2) (nb : ∀ a, ownA Γ2 σ2 a → ¬ W.bx a) : OwLe Γ σ H Γ2 σ2 := fun a h => by
  rcases t a h with q | q
  · exact w a q
  · cases e : H a with
    | none => exact .inr rfl
    | some u =>
      by_cases no : ownA Γ σ a
      · exact .inl no
      · rw [s.hh a u e (nb a h) no] at q; cases q
theorem SR.ownNb (r : SR K W Γ σ Z H st) {a : Addr} (h : ownA Γ σ a) : ¬ W.bx a := by
  obtain ⟨i, d, h1, h2⟩ := h
  obtain ⟨b, e, z, n, mu, q⟩ := r.own i d h1
  rw [h2] at e; cases e
  exact n
/-- behind a first part -/
theorem FlOk.after {T : Tg τ l} {f : Fl τ l} {D : Ends} (s : BSt W Γ σ Z H Z1 H1) (w : OwLe Γ σ H Γ1 σ1) (h : FlOk K W Γ σ Z H T f st' D) : FlOk K W Γ1 σ1 Z1 H1 T f st' D := by
  cases f with
  | nx x => exact fun σ' Z' H' r t u => h σ' Z' H' r (s.trans (fun a o e => (r.zh a o e).2) w t) (w.trans s u fun a => r.ownNb)
  | ct x => exact fun σ' Z' H' r t u => h σ' Z' H' r (s.trans (fun a o e => (r.zh a o e).2) w t) (w.trans s u fun a => r.ownNb)
  | bk x => exact fun σ' Z' H' r t u => h σ' Z' H' r (s.trans (fun a o e => (r.zh a o e).2) w t) (w.trans s u fun a => r.ownNb)
  | rt d => exact fun v Z' H' zh b t r => h v Z' H' zh b (s.trans (fun a o e => (zh a o e).2) w t) r
end

section
variable {S : Type} [BoxS S] {C : Stat} {Γ Γ' : SCx} {e a b c : Expr} {rest body : List Stmt} {m : M S D} {pos : Pos} {τ l τ' l' : Type} {T : Tg τ l} {i : Nat} {x : Str}
theorem OkB.nil {s : τ} (k : Wk Γ (T.nx s)) : OkB (S := S) C Γ [] T (ret (.nx s)) := fun X hX W σ Z H st f st' D r hm q => by
  obtain ⟨rfl, rfl⟩ := ret_some hm
  exact tUS_of pss_nil (q σ Z H (r.wk k) BSt.refl fun a h => .inl (own_wk k h))
theorem OkB.cont {s : l} (k : Wk Γ (T.lp s)) : OkB (S := S) C Γ (.Continue pos :: rest) T (ret (.ct s)) := fun X hX W σ Z H st f st' D r hm q => by
  obtain ⟨rfl, rfl⟩ := ret_some hm
  exact tUS_of (pss_cons ps_continue pssU) (q σ Z H (r.wk k) BSt.refl fun a h => .inl (own_wk k h))
theorem OkB.brk {s : l} (k : Wk Γ (T.lp s)) : OkB (S := S) C Γ (.Break pos :: rest) T (ret (.bk s)) := fun X hX W σ Z H st f st' D r hm q => by
  obtain ⟨rfl, rfl⟩ := ret_some hm
  exact tUS_of (pss_cons ps_break pssU) (q σ Z H (r.wk k) BSt.refl fun a h => .inl (own_wk k h))
theorem OkB.ret (he : Ok .E C Γ e m) : OkB C Γ (.Return (some e) pos :: rest) T (bnd m fun d => ret (.rt d)) := fun X hX W σ Z H st f st' D r hm q => by
  obtain ⟨d, st1, h1, hm1⟩ := bnd_some hm
  obtain ⟨rfl, rfl⟩ := ret_some hm1
  refine tUS_of (pss_cons (ps_ret peU) pssU) (he X hX W σ Z H st d _ _ r h1 fun v Z' H' s b r' => ?_)
  exact q v Z' H' s.zh b s.bst r'
theorem OkB.retN : OkB (S := S) C Γ (.Return none pos :: rest) T (Sn.ret (.rt .non)) := fun X hX W σ Z H st f st' D r hm q => by
  obtain ⟨rfl, rfl⟩ := ret_some hm
  exact tUS_of (pss_cons ps_retN pssU) (q _ Z H r.zh r.box BSt.refl .non)
/-- an own list is never changed any more -/
theorem OkB.freeze {d : D} {ss : List Stmt} {mb : M S (Fl τ l)} (i : Nat) (h0 : Γ[i]? = some (some (.own d))) (hb : OkB C (Γ.set i (some (.frz d))) ss T mb) : OkB C Γ ss T mb := fun X hX W σ Z H st f st' D r hm q => by
  obtain ⟨p, o, hp, ow, z, ho, r', rq⟩ := r.freeze h0
  have s : BSt W Γ σ Z H (upd Z p o) H := ⟨fun a u h => upd_none z h, fun _ _ h _ _ => h, fun a u h => by
    rcases upd_get h with ⟨rfl, rfl⟩ | ⟨_, h⟩
    · exact .inr (.inr ow)
    · exact .inl h, id⟩
  exact hb X hX W σ (upd Z p o) H st f st' D r' hm (q.after s fun a h => .inl (own_freeze h))
theorem store_hyp {X : Cx} (hX : CtxP C X) (h : C.fn x = true ∨ C.sc.names.lookup x = some .local) : X.fn x = true ∨ X.env.scope.names.lookup x = some .local := by
  rcases h with h | h
  · exact .inl (hX.fn x h)
  · exact .inr (by rw [hX.sc]; exact h)
theorem sw_cell {elt : Expr} {gs : List Comprehension} {scope sc : Scope} {p py : Pos} {y : Str} {ln : Nat} {env : Env} (he : env.scope = sc) (hy : sc.names.lookup y = some .cell) : swapsWith (.ListComp elt gs scope p) (some (.Name y py)) ln env = pure false := by
  have ky : env.kindOf y = some .cell := by show env.scope.names.lookup y = _; rw [he]; exact hy
  unfold swapsWith
  simp only [ky]
  cases env.blockKind == .function <;> rfl
/-- name = e -/
theorem OkB.set {k : D → M S (Fl τ l)} {pos' : Pos} (hN : C.N[i]? = some x) (hx : Loc C.sc x) (hf : C.fn x = true ∨ C.sc.names.lookup x = some .local) (he : Ok .E C Γ e m) (hb : ∀ d, OkB C (Γ.set i (some (.frz d))) rest T (k d))
    (hs : ∀ env : Env, env.scope = C.sc → swapsWith e (some (.Name x pos')) pos.line env = pure false := by intro _ _; rfl) : OkB C Γ (.Assign [.Name x pos'] e pos :: rest) T (bnd m k) := fun X hX W σ Z H st f st' D r hm q => by
  obtain ⟨d, st1, h1, hm1⟩ := bnd_some hm
  refine tUS_of (pss_cons (ps_set (i := i) (by rw [hX.N]; exact hX.nd) (by rw [hX.N]; exact hN) (by rw [hX.sc]; exact hx) peU (hs _ hX.sc) (store_hyp hX hf)) pssU) ?_
  refine he X hX W σ Z H st d st1 _ r h1 fun v Z1 H1 s1 b1 r1 => ?_
  exact hb d X hX W (σ.set i (some v)) Z1 H1 st1 f st' D ((r.step s1 b1).setF r1) hm1 (q.after s1.bst fun a h => .inl (own_setF h))
/-- .. a new list, to be changed -/
theorem OkB.setO {k : D → M S (Fl τ l)} {pos' : Pos} (hN : C.N[i]? = some x) (hx : Loc C.sc x) (hf : C.fn x = true ∨ C.sc.names.lookup x = some .local) (he : Ok .N C Γ e m) (hb : ∀ d, OkB C (Γ.set i (some (.own d))) rest T (k d))
    (hs : ∀ env : Env, env.scope = C.sc → swapsWith e (some (.Name x pos')) pos.line env = pure false := by intro _ _; rfl) : OkB C Γ (.Assign [.Name x pos'] e pos :: rest) T (bnd m fun d => if isMut d = true then k d else stuck) := fun X hX W σ Z H st f st' D r hm q => by
  obtain ⟨d, st1, h1, hm1⟩ := bnd_some hm
  by_cases mu : isMut d = true
  · rw [if_pos mu] at hm1
    refine tUS_of (pss_cons (ps_set (i := i) (by rw [hX.N]; exact hX.nd) (by rw [hX.N]; exact hN) (by rw [hX.sc]; exact hx) peU (hs _ hX.sc) (store_hyp hX hf)) pssU) ?_
    refine he X hX W σ Z H st d st1 _ r h1 fun v Z1 H1 s1 b1 r1 => ?_
    have hv : ∃ p, v = .ref p := by
      obtain ⟨q4, _⟩ := r1
      cases d with
      | lst ds => obtain ⟨b, vs, eb, _⟩ := q4; exact ⟨b, eb⟩
      | dct ds => obtain ⟨b, eb, _⟩ := q4; exact ⟨b, eb⟩
      | _ => cases mu
    obtain ⟨p, rfl⟩ := hv
    obtain ⟨f1, f2, f3⟩ := r1.2 p rfl mu
    have no : ¬ ownA Γ σ p := fun h => by
      obtain ⟨o, ho⟩ := r.ownThere h
      rw [f1] at ho; cases ho
    refine hb d X hX W (σ.set i (some (.ref p))) Z1 H1 st1 f st' D ((r.step s1 b1).setO mu r1.1 f2 f3 no) hm1 (q.after s1.bst fun a h => ?_)
    rcases own_setO h with h | rfl
    · exact .inl h
    · exact .inr f1
  · rw [if_neg mu] at hm1; exact (stuck_some hm1).elim
/-- what follows an inner block -/
def seqF {S : Type} {τ l τ' : Type} (f : Fl τ' l) (k : τ' → M S (Fl τ l)) : M S (Fl τ l) :=
  match f with
  | .nx s => k s
  | .rt d => Sn.ret (.rt d)
  | .bk s => Sn.ret (.bk s)
  | .ct s => Sn.ret (.ct s)
theorem OkB.ite {n : M S Bool} {A B : List Stmt} {Γj : τ' → SCx} {mA mB : M S (Fl τ' l)} {k : τ' → M S (Fl τ l)} (hc : OkT C Γ c n) (hA : OkB C Γ A ⟨Γj, T.lp⟩ mA) (hB : OkB C Γ B ⟨Γj, T.lp⟩ mB) (hk : ∀ s, OkB C (Γj s) rest T (k s)) :
    OkB C Γ (.If c A B pos :: rest) T (bnd n fun t => bnd (if t = true then mA else mB) fun f => seqF f k) := fun X hX W σ Z H st f st' D r hm q => by
  obtain ⟨t, st1, h1, hm1⟩ := bnd_some hm
  obtain ⟨g, st2, h2, hm2⟩ := bnd_some hm1
  refine tUS_of (pss_cons (ps_if ptU pssU pssU) pssU) ?_
  refine hc X hX W σ Z H st t st1 _ r h1 fun Z1 H1 s1 b1 => ?_
  have r1 := r.step s1 b1
  have q1 : FlOk X.K W Γ σ Z1 H1 T f st' D := q.after s1.bst OwLe.refl
  have inner : FlOk X.K W Γ σ Z1 H1 ⟨Γj, T.lp⟩ g st2 { D with nx := tUS X rest D } := by
    cases g with
    | nx s => exact fun σ' Z' H' r' s' w' => hk s X hX W σ' Z' H' st2 f st' D r' hm2 (q1.after s' w')
    | rt d => obtain ⟨rfl, rfl⟩ := ret_some hm2; exact q1
    | bk s => obtain ⟨rfl, rfl⟩ := ret_some hm2; exact q1
    | ct s => obtain ⟨rfl, rfl⟩ := ret_some hm2; exact q1
  cases t with
  | true => exact hA X hX W σ Z1 H1 st1 g st2 _ r1 h2 inner
  | false => exact hB X hX W σ Z1 H1 st1 g st2 _ r1 h2 inner

/-! ### targets -/
def TgOk (C : Stat) (Γ : SCx) (tg : Expr) (d : D) (Γ' : SCx) (vs : List Nat) : Prop :=
  ∀ X, CtxP C X → ∀ {S : Type} [BoxS S] (W : Wd) (σ : L2.St) (Z H : Hp) (st : S) (v : V) (Q : L2.St → Hp → Prop), SR X.K W Γ σ Z H st → Rep X.K W.β Z d v →
    (∀ σ', SR X.K W Γ' σ' Z H st → (∀ ws : List Nat, (∀ i ∈ vs, i ∈ ws) → wipe σ' ws = wipe σ ws) → (∀ a, ownA Γ' σ' a → ownA Γ σ a) → Q σ' H) → tUG X tg v σ H Q
def TgsOk (C : Stat) (Γ : SCx) (tgs : List Expr) (ds : List D) (Γ' : SCx) (vs : List Nat) : Prop :=
  match tgs, ds with
  | [], [] => Γ' = Γ ∧ vs = []
  | t :: ts, d :: ds => ∃ Γ1 v1 v2, TgOk C Γ t d Γ1 v1 ∧ TgsOk C Γ1 ts ds Γ' v2 ∧ vs = v1 ++ v2
  | _, _ => False
theorem wipe_set {σ : L2.St} {i : Nat} {o : Option V} : ∀ {ws : List Nat}, i ∈ ws → wipe (σ.set i o) ws = wipe σ ws
  | [], h => by cases h
  | w :: ws, h => by
    show (wipe (σ.set i o) ws).set w none = (wipe σ ws).set w none
    by_cases hi : i ∈ ws
    · rw [wipe_set hi]
    · have e : w = i := by
        rcases List.mem_cons.mp h with h | h
        · exact h.symm
        · exact absurd h hi
      subst e
      clear h
      have g : ∀ (us : List Nat), w ∉ us → wipe (σ.set w o) us = (wipe σ us).set w o := by
        intro us
        induction us with
        | nil => intro _; rfl
        | cons u us ih =>
          intro hu
          show (wipe (σ.set w o) us).set u none = ((wipe σ us).set u none).set w o
          rw [ih fun z => hu (List.mem_cons_of_mem _ z)]
          exact List.set_comm _ _ (fun z => hu (z ▸ List.mem_cons_self))
      rw [g ws hi, List.set_set]
theorem TgOk.name {d : D} (hN : C.N[i]? = some x) (hx : Loc C.sc x) (hf : C.fn x = true ∨ C.sc.names.lookup x = some .local) : TgOk C Γ (.Name x pos) d (Γ.set i (some (.frz d))) [i] := fun X hX S _ W σ Z H st v Q r rv q =>
  tUG_of (pg_name (i := i) (by rw [hX.N]; exact hX.nd) (by rw [hX.N]; exact hN) (by rw [hX.sc]; exact hx) (store_hyp hX hf)) (q _ (r.setF rv) (fun ws h => wipe_set (h i (by simp))) fun a h => own_setF h)
def tUGs (X : Cx) (tgs : List Expr) : TGs := fun vs σ H Q => ∀ (pins : List (Addr × Obj)) (s : Shared) (us : List Value), Inv X pins σ H s → Vals vs us → wpAny (model X.prog X.w) X.A (assignInOrder ((assignEach tgs X.env).map (·.2)) us) (fun _ s' => ∃ σ' H', Inv X pins σ' H' s' ∧ Q σ' H') X.xe s
theorem pgsU {X : Cx} {tgs : List Expr} : PGs X tgs (tUGs X tgs) := ⟨fun pins s _ _ _ us _ I r h => h pins s us I r⟩
theorem tUGs_of {X : Cx} {tgs : List Expr} {t : TGs} {vs : List V} {σ : L2.St} {H : Hp} {Q : L2.St → Hp → Prop} (h : PGs X tgs t) (q : t vs σ H Q) : tUGs X tgs vs σ H Q := fun pins s us I r => h.run pins s σ H vs us Q I r q
/-- a target that is a name or a tuple of such -/
def plainTg : Expr → Bool
  | .Name _ _ => true
  | .Tuple es _ _ => !es.isEmpty
  | _ => false
theorem each_plain (env : Env) {t : Expr} {ts : List Expr} (h : plainTg t = true) : (assignEach (t :: ts) env) = (false, assign t env) :: assignEach ts env := by
  cases t <;> first | rfl | cases h
theorem TgsOk.run {X : Cx} (hX : CtxP C X) {W : Wd} : ∀ {tgs : List Expr} {ds : List D} {Γ Γ' : SCx} {vs : List Nat} {us : List V} {σ : L2.St} {Z H : Hp} {st : S} {Q : L2.St → Hp → Prop}, (tgs.all plainTg = true) → TgsOk C Γ tgs ds Γ' vs → SR X.K W Γ σ Z H st → RepL X.K W.β Z ds us →
    (∀ σ', SR X.K W Γ' σ' Z H st → (∀ ws : List Nat, (∀ i ∈ vs, i ∈ ws) → wipe σ' ws = wipe σ ws) → (∀ a, ownA Γ' σ' a → ownA Γ σ a) → Q σ' H) → tUGs X tgs us σ H Q
  | [], [], _, _, _, _, _, _, _, _, _, _, h, r, rl, q => by
    obtain ⟨rfl, rfl⟩ := h
    cases rl
    exact tUGs_of pgs_nil ⟨rfl, q _ r (fun _ _ => rfl) fun _ h => h⟩
  | t :: ts, d :: ds, _, _, _, _, σ, _, _, _, _, hp, h, r, rl, q => by
    obtain ⟨Γ1, v1, v2, h1, h2, rfl⟩ := h
    cases rl with
    | cons rd rs =>
      rw [List.all_cons, Bool.and_eq_true] at hp
      refine tUGs_of (pgs_cons pgU pgsU (by rw [each_plain _ hp.1]; rfl)) ⟨_, _, rfl, ?_⟩
      refine h1 X hX W σ _ _ _ _ _ r rd fun σ1 r1 w1 o1 => ?_
      refine TgsOk.run hX hp.2 h2 r1 rs fun σ2 r2 w2 o2 => ?_
      exact q σ2 r2 (fun ws hw => (w2 ws fun i hi => hw i (List.mem_append_right _ hi)).trans (w1 ws fun i hi => hw i (List.mem_append_left _ hi))) fun a h => o1 a (o2 a h)
  | [], _ :: _, _, _, _, _, _, _, _, _, _, _, h, _, _, _ => h.elim
  | _ :: _, [], _, _, _, _, _, _, _, _, _, _, h, _, _, _ => h.elim
theorem each_len (env : Env) : ∀ {ts : List Expr}, ts.all plainTg = true → (assignEach ts env).length = ts.length ∧ (assignEach ts env).findIdx? (·.1) = none
  | [], _ => ⟨rfl, rfl⟩
  | t :: ts, h => by
    rw [List.all_cons, Bool.and_eq_true] at h
    obtain ⟨h1, h2⟩ := each_len env h.2
    rw [each_plain _ h.1]
    refine ⟨by rw [List.length_cons, List.length_cons, h1], ?_⟩
    rw [List.findIdx?_cons, h2]
    rfl
theorem TgsOk.len : ∀ {tgs : List Expr} {ds : List D} {Γ Γ' : SCx} {vs : List Nat}, TgsOk C Γ tgs ds Γ' vs → tgs.length = ds.length
  | [], [], _, _, _, _ => rfl
  | t :: ts, d :: ds, _, _, _, ⟨_, _, _, _, h, _⟩ => by rw [List.length_cons, List.length_cons, TgsOk.len h]
  | [], _ :: _, _, _, _, h => h.elim
  | _ :: _, [], _, _, _, h => h.elim
theorem TgOk.tup {tgs : List Expr} {ds : List D} {vs : List Nat} {k : Nat} (h : TgsOk C Γ tgs ds Γ' vs) (hp : tgs.all plainTg = true) : TgOk C Γ (.Tuple tgs k pos) (.tup ds) Γ' vs := fun X hX S _ W σ Z H st v Q r rv q => by
  cases rv with
  | tup hq rl =>
    refine tUG_of (pg_tup (n := tgs.length) hX.calm pgsU (each_len _ hp).1 (each_len _ hp).2) ⟨_, _, rfl, r.sub.sqT hq, ?_, TgsOk.run hX hp h r rl q⟩
    rw [← rl.length, h.len]
/-- data bound to targets, then what K says of what is known and of the rest -/
def BindOk {α : Type} (C : Stat) (Γ : SCx) (tgs : List Expr) (ds : List D) (Wp : Nat → Prop) (K : SCx → M S α → Prop) (m : M S α) : Prop :=
  (∀ st, m st = none) ∨ ∃ Γ' vs, TgsOk C Γ tgs ds Γ' vs ∧ (∀ i ∈ vs, Wp i) ∧ K Γ' m
def pat2 {S α : Type} (f : D → D → M S α) : D → M S α
  | .tup [a, b] => f a b
  | _ => stuck
def pat3 {S α : Type} (f : D → D → D → M S α) : D → M S α
  | .tup [a, b, c] => f a b c
  | _ => stuck
def pat4 {S α : Type} (f : D → D → D → D → M S α) : D → M S α
  | .tup [a, b, c, d] => f a b c d
  | _ => stuck
section
variable {α : Type} {tgs : List Expr} {ds : List D} {Wp : Nat → Prop} {KK : SCx → M S α → Prop} {mm : M S α}
theorem BindOk.nil (h : KK Γ mm) : BindOk C Γ [] [] Wp KK mm := .inr ⟨Γ, [], ⟨rfl, rfl⟩, (fun _ h => nomatch h), h⟩
theorem BindOk.name {d : D} (hN : C.N[i]? = some x) (hx : Loc C.sc x) (hf : C.fn x = true ∨ C.sc.names.lookup x = some .local) (h : BindOk C (Γ.set i (some (.frz d))) tgs ds Wp KK mm) (hw : Wp i := by first | exact True.intro | decide) : BindOk C Γ (.Name x pos :: tgs) (d :: ds) Wp KK mm := by
  rcases h with h | ⟨Γ', vs, h1, h3, h2⟩
  · exact .inl h
  · exact .inr ⟨Γ', _, ⟨_, _, _, TgOk.name hN hx hf, h1, rfl⟩, (fun j hj => by
      rcases List.mem_append.mp hj with hj | hj
      · rw [List.mem_singleton.mp hj]; exact hw
      · exact h3 j hj), h2⟩
theorem BindOk.tupN {es : List Expr} {ts : List D} {k : Nat} (hp : es.all plainTg = true) (hl : es.length = ts.length) (h : BindOk C Γ (es ++ tgs) (ts ++ ds) Wp KK mm) : BindOk C Γ (.Tuple es k pos :: tgs) (.tup ts :: ds) Wp KK mm := by
  rcases h with h | ⟨Γ', vs, h1, h3, h2⟩
  · exact .inl h
  · have split : ∀ (es : List Expr) (ts : List D) (Γ : SCx) (vs : List Nat), es.length = ts.length → TgsOk C Γ (es ++ tgs) (ts ++ ds) Γ' vs → ∃ Γ1 v1 v2, TgsOk C Γ es ts Γ1 v1 ∧ TgsOk C Γ1 tgs ds Γ' v2 ∧ vs = v1 ++ v2 := by
      intro es
      induction es with
      | nil =>
        intro ts Γ vs hl h
        cases ts with
        | nil => exact ⟨Γ, [], vs, ⟨rfl, rfl⟩, h, rfl⟩
        | cons _ _ => cases hl
      | cons e es ih =>
        intro ts Γ vs hl h
        cases ts with
        | nil => cases hl
        | cons t ts =>
          obtain ⟨Γ1, v1, v2, g1, g2, rfl⟩ := h
          obtain ⟨Γ2, w1, w2, k1, k2, rfl⟩ := ih ts Γ1 v2 (by simpa using hl) g2
          exact ⟨Γ2, v1 ++ w1, w2, ⟨Γ1, v1, w1, g1, k1, rfl⟩, k2, by rw [List.append_assoc]⟩
    obtain ⟨Γ1, v1, v2, k1, k2, rfl⟩ := split es ts Γ vs hl h1
    exact .inr ⟨Γ', _, ⟨Γ1, v1, v2, TgOk.tup k1 hp, k2, rfl⟩, h3, h2⟩
theorem BindOk.tup2 {t1 t2 : Expr} {k : Nat} {d : D} {f : D → D → M S α} (hp : [t1, t2].all plainTg = true) (h : ∀ a b, BindOk C Γ (t1 :: t2 :: tgs) (a :: b :: ds) Wp KK (f a b)) : BindOk C Γ (.Tuple [t1, t2] k pos :: tgs) (d :: ds) Wp KK (pat2 f d) := by
  cases d with
  | tup xs =>
    match xs with
    | [a, b] => exact BindOk.tupN (ts := [a, b]) hp rfl (h a b)
    | [] => exact .inl fun _ => rfl
    | [_] => exact .inl fun _ => rfl
    | _ :: _ :: _ :: _ => exact .inl fun _ => rfl
  | _ => exact .inl fun _ => rfl
theorem BindOk.tup3 {t1 t2 t3 : Expr} {k : Nat} {d : D} {f : D → D → D → M S α} (hp : [t1, t2, t3].all plainTg = true) (h : ∀ a b c, BindOk C Γ (t1 :: t2 :: t3 :: tgs) (a :: b :: c :: ds) Wp KK (f a b c)) : BindOk C Γ (.Tuple [t1, t2, t3] k pos :: tgs) (d :: ds) Wp KK (pat3 f d) := by
  cases d with
  | tup xs =>
    match xs with
    | [a, b, c] => exact BindOk.tupN (ts := [a, b, c]) hp rfl (h a b c)
    | [] => exact .inl fun _ => rfl
    | [_] => exact .inl fun _ => rfl
    | [_, _] => exact .inl fun _ => rfl
    | _ :: _ :: _ :: _ :: _ => exact .inl fun _ => rfl
  | _ => exact .inl fun _ => rfl
theorem BindOk.tup4 {t1 t2 t3 t4 : Expr} {k : Nat} {d : D} {f : D → D → D → D → M S α} (hp : [t1, t2, t3, t4].all plainTg = true) (h : ∀ a b c e, BindOk C Γ (t1 :: t2 :: t3 :: t4 :: tgs) (a :: b :: c :: e :: ds) Wp KK (f a b c e)) : BindOk C Γ (.Tuple [t1, t2, t3, t4] k pos :: tgs) (d :: ds) Wp KK (pat4 f d) := by
  cases d with
  | tup xs =>
    match xs with
    | [a, b, c, e] => exact BindOk.tupN (ts := [a, b, c, e]) hp rfl (h a b c e)
    | [] => exact .inl fun _ => rfl
    | [_] => exact .inl fun _ => rfl
    | [_, _] => exact .inl fun _ => rfl
    | [_, _, _] => exact .inl fun _ => rfl
    | _ :: _ :: _ :: _ :: _ :: _ => exact .inl fun _ => rfl
  | _ => exact .inl fun _ => rfl
end
/-- a, b = e -/
theorem OkB.unpack {tg : Expr} {k : D → M S (Fl τ l)} (he : Ok .E C Γ e m) (hb : ∀ d, BindOk C Γ [tg] [d] (fun _ => True) (fun Γ' n => OkB C Γ' rest T n) (k d))
    (hs : ∀ env : Env, swapsWithSole [tg] e pos.line env = pure false := by intro _; rfl) (hw : ∀ env : Env, swappedStores [tg] e env = pure none := by intro _; rfl) (h1 : ∀ env : Env, (assignEach [tg] env).map (·.2) = [assign tg env] := by intro _; rfl) :
    OkB C Γ (.Assign [tg] e pos :: rest) T (bnd m k) := fun X hX W σ Z H st f st' D r hm q => by
  obtain ⟨d, st1, h2, hm1⟩ := bnd_some hm
  refine tUS_of (pss_cons (ps_asg peU pgU (hs _) (hw _) (h1 _)) pssU) ?_
  refine he X hX W σ Z H st d st1 _ r h2 fun v Z1 H1 s1 b1 r1 => ?_
  rcases hb d with hb | ⟨Γ', vs, ⟨Γ1, v1, v2, t1, ⟨e1, _⟩, _⟩, _, hb⟩
  · rw [hb st1] at hm1; cases hm1
  · subst e1
    refine t1 X hX W σ Z1 H1 st1 v _ (r.step s1 b1) r1 fun σ' r' w' o' => ?_
    exact hb X hX W σ' Z1 H1 st1 f st' D r' hm1 (q.after s1.bst fun a h => .inl (o' a h))
end

/-! ### what is walked -/
def Yld (K : PySem.W.Frag) (W : Wd) (J : It) (xs : List D) (A : Addr → Prop) (Z H : Hp) : Prop :=
  (∀ a, A a → (∃ o, H a = some o) ∧ ¬ W.bx a) ∧
  ∀ {S : Type} [BoxS S] (i : Nat) (Z2 H2 : Hp) (st : S), Sub Z Z2 → (∀ a o, Z2 a = some o → H2 a = some o ∧ ¬ W.bx a) → (∀ a o, A a → H a = some o → H2 a = some o) → Sz H2 → BoxS.R st W.β W.γ H2 →
    (xs.length ≤ i → J.stop i H2) ∧ ∀ d, xs[i]? = some d → J.go i H2 ∧ ∀ x H3, J.yld i H2 x H3 → ∃ Z3, Stp W Z2 H2 Z3 H3 ∧ BoxS.R st W.β W.γ H3 ∧ Rep K W.β Z3 d x
def OkI {S : Type} [BoxS S] (b : Bool) (C : Stat) (Γ : SCx) (tg iter : Expr) (m : M S (List D)) : Prop :=
  ∀ X, CtxP C X → ∀ (W : Wd) (σ : L2.St) (Z H : Hp) (st : S) (xs : List D) (st' : S) (R : It → Hp → Prop), SR X.K W Γ σ Z H st → m st = some (xs, st') →
    (∀ J A Z' H', Stp W Z H Z' H' → BoxS.R st' W.β W.γ H' → Yld X.K W J xs A Z' H' → (b = true → ∀ a, A a → ¬ ownA Γ σ a ∧ (Z' a ≠ none ∨ H a = none)) → R J H') → tUI X tg iter σ H R
section
variable {S : Type} [BoxS S] {τ l : Type}
def forL {S : Type} {τ τ' l' : Type} (f : τ → D → M S (Fl τ τ)) (k : τ → M S (Fl τ' l')) : List D → τ → M S (Fl τ' l')
  | [], s => k s
  | x :: xs, s => bnd (f s x) fun fl => match fl with
    | .nx s' => forL f k xs s'
    | .ct s' => forL f k xs s'
    | .bk s' => k s'
    | .rt d => Sn.ret (.rt d)
variable {C : Stat} {Γ Γ' : SCx} {e a b c tg iter : Expr} {rest body : List Stmt} {pos : Pos} {T : Tg τ l}
theorem OkB.forR {τ' : Type} {Γl : τ' → SCx} {mi : M S (List D)} {f : τ' → D → M S (Fl τ' τ')} {k : τ' → M S (Fl τ l)} {s0 : τ'} (hi : OkI true C Γ tg iter mi) (h0 : Wk Γ (Γl s0))
    (hb : ∀ s d, BindOk C (Γl s) [tg] [d] (fun _ => True) (fun Γ' n => OkB C Γ' body ⟨Γl, Γl⟩ n) (f s d)) (hk : ∀ s, OkB C (Γl s) rest T (k s))
    (hs : ∀ (env : Env) x, foldedSetIterable iter env x = pure x := by intro _ _; rfl) : OkB C Γ (.For tg iter body [] pos :: rest) T (bnd mi fun xs => forL f k xs s0) := fun X hX W σ Z H st fl st' D r hm q => by
  obtain ⟨xs, st1, h1, hm1⟩ := bnd_some hm
  refine tUS_of (pss_cons (ps_for (by rw [hX.xe]; exact PassesOwn.never) hX.calm piU pgU pssU (hs _)) pssU) ?_
  refine hi X hX W σ Z H st xs st1 _ r h1 fun J A Z1 H1 s1 b1 y1 dj => ?_
  have r1 := (r.step s1 b1).wk h0
  refine ⟨fun i n σ' H' => ∃ s Z' st2, n = xs.length - i ∧ i ≤ xs.length ∧ SR X.K W (Γl s) σ' Z' H' st2 ∧ BSt W Γ σ Z H Z' H' ∧ OwLe Γ σ H (Γl s) σ' ∧ Sub Z1 Z' ∧ (∀ a o, A a → H1 a = some o → H' a = some o) ∧ (∀ a, ownA (Γl s) σ' a → ¬ A a) ∧ forL f k (xs.drop i) s st2 = some (fl, st'),
    ⟨xs.length, s0, Z1, st1, by omega, Nat.zero_le _, r1, s1.bst, fun a h => .inl (own_wk h0 h), Sub.refl _, fun _ _ _ h => h, fun a h ha => (dj rfl a ha).1 (own_wk h0 h), hm1⟩, ?_⟩
  rintro i n σ2 H2 ⟨s, Z2, st2, rfl, hi, r2, bs2, ow2, sz2, ka2, na2, run2⟩
  have yy := y1.2 i Z2 H2 st2 sz2 r2.zh ka2 r2.sz r2.box
  by_cases hlt : i < xs.length
  · have hd : xs[i]? = some xs[i] := List.getElem?_eq_getElem hlt
    rw [List.drop_eq_getElem_cons hlt] at run2
    obtain ⟨g, st3, h3, run3⟩ := bnd_some (show bnd (f s xs[i]) _ st2 = some (fl, st') from run2)
    obtain ⟨go, yl⟩ := yy.2 _ hd
    refine .inr ⟨go, fun σ' H' => ∃ s Z' st3, SR X.K W (Γl s) σ' Z' H' st3 ∧ BSt W Γ σ Z H Z' H' ∧ OwLe Γ σ H (Γl s) σ' ∧ Sub Z1 Z' ∧ (∀ a o, A a → H1 a = some o → H' a = some o) ∧ (∀ a, ownA (Γl s) σ' a → ¬ A a) ∧ forL f k (xs.drop (i + 1)) s st3 = some (fl, st'), fun σ' H' hN => ?_, fun x H3 hy => ?_⟩
    · obtain ⟨s', Z', st3, q1, q2, q3, q4, q5, q6, q7⟩ := hN
      exact ⟨xs.length - (i + 1), by omega, s', Z', st3, rfl, hlt, q1, q2, q3, q4, q5, q6, q7⟩
    · obtain ⟨Z3, s3, b3, rx⟩ := yl x H3 hy
      have r3 := r2.step s3 b3
      have bs3 : BSt W Γ σ Z H Z3 H3 := bs2.trans (fun a o h => (s3.zh a o h).2) ow2 (Γ1 := Γl s) (σ1 := σ2) s3.bst
      have ka3 : ∀ a o, A a → H1 a = some o → H3 a = some o := fun a o ha h => s3.hh a o (ka2 a o ha h) (y1.1 a ha).2
      rcases hb s xs[i] with hb | ⟨Γ', vs, ⟨Γ1, v1, v2, t1, ⟨e1, _⟩, _⟩, _, hb⟩
      · rw [hb st2] at h3; cases h3
      · subst e1
        refine t1 X hX W σ2 Z3 H3 st2 x _ r3 rx fun σ3 r4 w4 o4 => ?_
        -- the body
        have fin : ∀ {s' : τ'} {σ' : L2.St} {Z' H' : Hp}, SR X.K W (Γl s') σ' Z' H' st3 → BSt W Γ' σ3 Z3 H3 Z' H' → OwLe Γ' σ3 H3 (Γl s') σ' →
            BSt W Γ σ Z H Z' H' ∧ OwLe Γ σ H (Γl s') σ' ∧ Sub Z1 Z' ∧ (∀ a o, A a → H1 a = some o → H' a = some o) ∧ (∀ a, ownA (Γl s') σ' a → ¬ A a) := by
          intro s' σ' Z' H' r' bs' ow'
          have ow3 : OwLe Γ σ H Γ' σ3 := fun a h => ow2 a (o4 a h)
          refine ⟨bs3.trans (fun a o h => (r'.zh a o h).2) ow3 bs', ow3.trans bs3 ow' fun a => r'.ownNb, (sz2.trans s3.zz).trans bs'.zz, fun a o ha h => ?_, fun a h ha => ?_⟩
          · exact bs'.hh a o (ka3 a o ha h) (y1.1 a ha).2 fun z => na2 a (o4 a z) ha
          · rcases ow' a h with z | z
            · exact na2 a (o4 a z) ha
            · obtain ⟨⟨o, ho⟩, _⟩ := y1.1 a ha
              rw [ka3 a o ha ho] at z; cases z
        refine hb X hX W σ3 Z3 H3 st2 g st3 _ r4 h3 ?_
        cases g with
        | nx s' =>
          intro σ' Z' H' r' bs' ow'
          obtain ⟨f1, f2, f3, f4, f5⟩ := fin r' bs' ow'
          exact ⟨s', Z', st3, r', f1, f2, f3, f4, f5, run3⟩
        | ct s' =>
          intro σ' Z' H' r' bs' ow'
          obtain ⟨f1, f2, f3, f4, f5⟩ := fin r' bs' ow'
          exact ⟨s', Z', st3, r', f1, f2, f3, f4, f5, run3⟩
        | bk s' =>
          intro σ' Z' H' r' bs' ow'
          obtain ⟨f1, f2, f3, f4, f5⟩ := fin r' bs' ow'
          exact hk s' X hX W σ' Z' H' st3 fl st' D r' run3 (q.after f1 f2)
        | rt d =>
          intro v Z' H' zh' b' bs' rv
          obtain ⟨rfl, rfl⟩ := ret_some run3
          have ow3 : OwLe Γ σ H Γ' σ3 := fun a h => ow2 a (o4 a h)
          exact q v Z' H' zh' b' (bs3.trans (fun a o h => (zh' a o h).2) ow3 bs') rv
  · have e : i = xs.length := by omega
    subst e
    rw [List.drop_length] at run2
    exact .inl ⟨yy.1 (Nat.le_refl _), hk s X hX W σ2 Z2 H2 st2 fl st' D r2 run2 (q.after bs2 ow2)⟩
/-! ### while -/
def whileL {S : Type} {τ τ' l' : Type} (c : τ → M S Bool) (f : τ → M S (Fl τ τ)) (k : τ → M S (Fl τ' l')) : Nat → τ → M S (Fl τ' l')
  | 0, _ => stuck
  | n + 1, s => bnd (c s) fun t => if t = true then bnd (f s) fun fl => match fl with
      | .nx s' => whileL c f k n s'
      | .ct s' => whileL c f k n s'
      | .bk s' => k s'
      | .rt d => Sn.ret (.rt d)
    else k s
theorem OkB.whileR {τ' : Type} {Γl : τ' → SCx} {mc : τ' → M S Bool} {f : τ' → M S (Fl τ' τ')} {k : τ' → M S (Fl τ l)} {s0 : τ'} {n0 : Nat} (h0 : Wk Γ (Γl s0)) (hc : ∀ s, OkT C (Γl s) c (mc s))
    (hb : ∀ s, OkB C (Γl s) body ⟨Γl, Γl⟩ (f s)) (hk : ∀ s, OkB C (Γl s) rest T (k s)) : OkB C Γ (.While c body [] pos :: rest) T (whileL mc f k n0 s0) := fun X hX W σ Z H st fl st' D r hm q => by
  refine tUS_of (pss_cons (ps_while (by rw [hX.xe]; exact PassesOwn.never) ptU pssU) pssU) ?_
  refine ⟨fun n σ' H' => ∃ s Z' st2, SR X.K W (Γl s) σ' Z' H' st2 ∧ BSt W Γ σ Z H Z' H' ∧ OwLe Γ σ H (Γl s) σ' ∧ whileL mc f k n s st2 = some (fl, st'), ⟨n0, s0, Z, st, r.wk h0, BSt.refl, fun a h => .inl (own_wk h0 h), hm⟩, ?_⟩
  rintro n σ2 H2 ⟨s, Z2, st2, r2, bs2, ow2, run2⟩
  cases n with
  | zero => exact (stuck_some run2).elim
  | succ n =>
    obtain ⟨t, st3, h3, run3⟩ := bnd_some (show bnd (mc s) _ st2 = some (fl, st') from run2)
    refine hc s X hX W σ2 Z2 H2 st2 t st3 _ r2 h3 fun Z3 H3 s3 b3 => ?_
    have r3 := r2.step s3 b3
    have bs3 : BSt W Γ σ Z H Z3 H3 := bs2.trans (fun a o h => (s3.zh a o h).2) ow2 (Γ1 := Γl s) (σ1 := σ2) s3.bst
    cases t with
    | true =>
      rw [if_pos rfl] at run3 ⊢
      obtain ⟨g, st4, h4, run4⟩ := bnd_some run3
      refine ⟨fun σ' H' => ∃ s Z' st4, SR X.K W (Γl s) σ' Z' H' st4 ∧ BSt W Γ σ Z H Z' H' ∧ OwLe Γ σ H (Γl s) σ' ∧ whileL mc f k n s st4 = some (fl, st'), fun σ' H' hN => ⟨n, Nat.lt_succ_self n, hN⟩, ?_⟩
      refine hb s X hX W σ2 Z3 H3 st3 g st4 _ r3 h4 ?_
      have fin : ∀ {s' : τ'} {σ' : L2.St} {Z' H' : Hp}, SR X.K W (Γl s') σ' Z' H' st4 → BSt W (Γl s) σ2 Z3 H3 Z' H' → OwLe (Γl s) σ2 H3 (Γl s') σ' → BSt W Γ σ Z H Z' H' ∧ OwLe Γ σ H (Γl s') σ' := by
        intro s' σ' Z' H' r' bs' ow'
        exact ⟨bs3.trans (fun a o h => (r'.zh a o h).2) ow2 bs', ow2.trans bs3 ow' fun a => r'.ownNb⟩
      cases g with
      | nx s' => intro σ' Z' H' r' bs' ow'; obtain ⟨f1, f2⟩ := fin r' bs' ow'; exact ⟨s', Z', st4, r', f1, f2, run4⟩
      | ct s' => intro σ' Z' H' r' bs' ow'; obtain ⟨f1, f2⟩ := fin r' bs' ow'; exact ⟨s', Z', st4, r', f1, f2, run4⟩
      | bk s' => intro σ' Z' H' r' bs' ow'; obtain ⟨f1, f2⟩ := fin r' bs' ow'; exact hk s' X hX W σ' Z' H' st4 fl st' D r' run4 (q.after f1 f2)
      | rt d =>
        intro v Z' H' zh' b' bs' rv
        obtain ⟨rfl, rfl⟩ := ret_some run4
        exact q v Z' H' zh' b' (bs3.trans (fun a o h => (zh' a o h).2) ow2 bs') rv
    | false =>
      rw [if_neg Bool.false_ne_true] at run3 ⊢
      exact hk s X hX W σ2 Z3 H3 st3 fl st' D r3 run3 (q.after bs3 ow2)
end
end Sn

namespace Sn
open PySem PySem.Spec PyProof.Rows L2

/-! ### defs -/
def spF (K : PySem.W.Frag) {S : Type} [BoxS S] (n : Nat) (m : List D → M S D) : Sp := fun vs H Q _ => vs.length = n ∧ ∃ (W : Wd) (Z : Hp) (ds : List D) (st : S) (d : D) (st' : S),
  (∀ a o, Z a = some o → H a = some o ∧ ¬ W.bx a) ∧ Sz H ∧ BoxS.R st W.β W.γ H ∧ RepL K W.β Z ds vs ∧ m ds st = some (d, st') ∧
  ∀ v Z' H', Stp W Z H Z' H' → BoxS.R st' W.β W.γ H' → Rep K W.β Z' d v → Q v H'
structure HasF {S : Type} [BoxS S] (G : Glob) (k : Nat) (x : Str) (n : Nat) (m : List D → M S D) : Prop where
  ex : ∃ (f : Addr) (fd : FuncData) (ps : List Str), G.mg x = some (.ref f) ∧ PySem.W.keepIn G.K (.ref f) = true ∧ Binds G.K fd ps [] ∧ FnOk G.P G.w G.K G.mg G.base CX0 k f fd ps (spF G.K n m)
section
variable {S : Type} [BoxS S] {C : Stat} {Γ Γ' : SCx} {e a b c : Expr} {es : List Expr} {rest body : List Stmt} {m : M S D} {pos p : Pos} {τ l : Type} {T : Tg τ l} {i : Nat} {x : Str}
theorem ResL.E_len {K : PySem.W.Frag} {W : Wd} {H Z' H' : Hp} : ∀ {ds : List D} {vs : List V} {mds : List Md}, ResL K W mds H Z' H' ds vs → vs.length = mds.length
  | [], [], [], _ => rfl
  | _ :: _, _ :: _, _ :: _, ⟨_, r⟩ => by rw [List.length_cons, List.length_cons, ResL.E_len r]
  | [], [], _ :: _, h => h.elim
  | [], _ :: _, [], h => h.elim
  | [], _ :: _, _ :: _, h => h.elim
  | _ :: _, [], [], h => h.elim
  | _ :: _, [], _ :: _, h => h.elim
  | _ :: _, _ :: _, [], h => h.elim
theorem Ok.call {n : Nat} {mf : List D → M S D} {mds : List Md} {ma : M S (List D)} {j : Nat} (h : HasF C.G j x n mf) (hj : j ≤ C.k) (hg : C.sc.names.lookup x = some .globalImplicit) (ha : OkA mds C Γ (e :: es) ma) (hE : ∀ md ∈ mds, md = Md.E := by decide) (hn : mds.length = n := by rfl)
    (hp : plainArg e = true := by rfl) (hd : (x == ("__debug__" : Str)) = false := by decide) (hes : ∀ env : Env, (backTo pos (starEach es env)).any (·.1) = false := by intro _; rfl) :
    Ok .E C Γ (.Call (.Name x p) (e :: es) [] pos) (bnd ma mf) := fun X hX W σ Z H st d st' Q r hm q => by
  obtain ⟨ds, st1, h1, hm1⟩ := bnd_some hm
  obtain ⟨f, fd, ps, g1, g2, g3, g4⟩ := h.ex
  have F : FnOk X.prog X.w X.K X.mg X.base CX0 j f fd ps (spF X.K n mf) := by rw [hX.prog, hX.w, hX.K, hX.mg, hX.base]; exact g4
  refine tU_of (pe_call (E := E0) (dvs := []) (ds := []) F (hX.room.mono hj) (hX.glob hg) (by rw [hX.mg]; exact g1) (by rw [hX.K]; exact g2) (by rw [hX.K]; exact g3) .nil pass0 paU hd (starEach_plain _ hp) (hes _)) ?_
  refine ha X hX W σ Z H st ds st1 _ r h1 fun vs Z1 H1 s1 b1 r1 => ?_
  rw [List.append_nil]
  refine ⟨by rw [r1.E_len, hn], W, Z1, ds, st1, d, st', s1.zh, s1.sz r.sz, b1, ResL.E_repL hE r1, hm1, fun v Z2 H2 s2 b2 r2 => ?_⟩
  exact q v Z2 H2 (s1.trans s2) b2 r2
/-- f() -/
theorem Ok.call0 {mf : List D → M S D} {j : Nat} (h : HasF C.G j x 0 mf) (hj : j ≤ C.k) (hg : C.sc.names.lookup x = some .globalImplicit) (hd : (x == ("__debug__" : Str)) = false := by decide) : Ok .E C Γ (.Call (.Name x p) [] [] pos) (mf []) := fun X hX W σ Z H st d st' Q r hm q => by
  obtain ⟨f, fd, ps, g1, g2, g3, g4⟩ := h.ex
  have F : FnOk X.prog X.w X.K X.mg X.base CX0 j f fd ps (spF X.K 0 mf) := by rw [hX.prog, hX.w, hX.K, hX.mg, hX.base]; exact g4
  refine tU_of (pe_call0 (E := E0) (dvs := []) (ds := []) F (hX.room.mono hj) (hX.glob hg) (by rw [hX.mg]; exact g1) (by rw [hX.K]; exact g2) (by rw [hX.K]; exact g3) .nil pass0 hd) ?_
  exact ⟨rfl, W, Z, [], st, d, st', r.zh, r.sz, r.box, .nil, hm, fun v Z2 H2 s2 b2 r2 => q v Z2 H2 s2 b2 r2⟩
def endF {S : Type} {l : Type} : Fl Unit l → M S D
  | .nx _ => ret .non
  | .rt d => ret d
  | _ => stuck
theorem RepL.start {K : PySem.W.Frag} {β : Addr} {Z : Hp} {N : List Str} : ∀ {ds : List D} {vs : List V}, RepL K β Z ds vs → ∀ (i : Nat) (d : D), (ds.map fun d => some (En.frz d))[i]? = some (some (En.frz d)) → ∃ v, (vs.map some)[i]? = some (some v) ∧ Rep K β Z d v
  | ds, vs, r, i, d, h => by
    rw [List.getElem?_map] at h
    cases e : ds[i]? with
    | none => rw [e] at h; cases h
    | some d' =>
      rw [e] at h
      simp only [Option.map_some, Option.some.injEq, En.frz.injEq] at h
      subst h
      obtain ⟨v, h1, h2⟩ := r.get e
      exact ⟨v, by rw [List.getElem?_map, h1]; rfl, h2⟩
def startΓ (N : List Str) (ds : List D) : SCx := (ds.map fun d => some (En.frz d)) ++ List.replicate (N.length - ds.length) none
/-- a def of the text keeps the promise that its body's mirror makes -/
theorem hasF_mk {G : Glob} {st : Stmt} {f : Addr} {fd : FuncData} {N ps : List Str} {k n : Nat} {mb : List D → M S (Fl Unit Unit)} {qual : Str} (hm : G.mg x = some (.ref f)) (F : Fun G.K x qual st f fd) (Sc : FnScope N ps (defScope st)) (hB : Binds G.K fd ps []) (hn : ps.length = n)
    (hbody : ∀ ds : List D, ds.length = n → OkB ⟨G, N, defScope st, k, fun _ => true⟩ (startΓ N ds) (defBody st) ⟨fun _ : Unit => List.replicate N.length none, fun _ : Unit => List.replicate N.length none⟩ (mb ds)) : HasF G (k + 1) x n fun ds => bnd (mb ds) endF := by
  refine ⟨f, fd, ps, hm, F.kp, hB, F.ok Sc (fun vs H Q E h => by rw [hn]; exact h.1) fun cdv A outer s H vs Q E hr h => ?_⟩
  obtain ⟨hl, W, Z, ds, st0, d, st', zh, sz, bx, rl, hm1, q⟩ := h
  obtain ⟨fl, st1, h1, h2⟩ := bnd_some hm1
  refine ⟨_, pssU, ?_⟩
  have hpl : ps.length ≤ N.length := by have := congrArg List.length Sc.pre; rw [List.length_take] at this; omega
  have dl : ds.length = vs.length := rl.length
  refine hbody ds (by rw [dl, hl]) _ ⟨rfl, rfl, rfl, rfl, rfl, rfl, rfl, Sc.nd, rfl, hr, rfl, fun _ _ => rfl⟩ W (start N vs) Z H st0 fl st1 _ ?_ h1 ?_
  · refine ⟨?_, sz, bx, zh, fun i d' h => ?_, fun i d' h => ?_, fun i j d' e' a h => ?_⟩
    · unfold startΓ L2.start
      simp only [List.length_append, List.length_map, List.length_replicate, dl]
    · unfold startΓ at h
      unfold L2.start
      by_cases hi : i < ds.length
      · rw [List.getElem?_append_left (by simpa using hi)] at h
        rw [List.getElem?_append_left (by simpa [← dl] using hi)]
        exact RepL.start (N := N) rl i d' h
      · rw [List.getElem?_append_right (by simp; omega)] at h
        rw [List.getElem?_replicate] at h
        split at h <;> simp at h
    · unfold startΓ at h
      by_cases hi : i < ds.length
      · rw [List.getElem?_append_left (by simpa using hi), List.getElem?_map] at h
        cases e : ds[i]? with
        | none => rw [e] at h; cases h
        | some d2 => rw [e] at h; simp at h
      · rw [List.getElem?_append_right (by simp; omega), List.getElem?_replicate] at h
        split at h <;> simp at h
    · unfold startΓ at h
      by_cases hi : i < ds.length
      · rw [List.getElem?_append_left (by simpa using hi), List.getElem?_map] at h
        cases e : ds[i]? with
        | none => rw [e] at h; cases h
        | some d2 => rw [e] at h; simp at h
      · rw [List.getElem?_append_right (by simp; omega), List.getElem?_replicate] at h
        split at h <;> simp at h
  · have noOwn : ∀ a, ¬ ownA (startΓ N ds) (start N vs) a := fun a ⟨i, d', h, _⟩ => by
      unfold startΓ at h
      by_cases hi : i < ds.length
      · rw [List.getElem?_append_left (by simpa using hi), List.getElem?_map] at h
        cases e : ds[i]? with
        | none => rw [e] at h; cases h
        | some d2 => rw [e] at h; simp at h
      · rw [List.getElem?_append_right (by simp; omega), List.getElem?_replicate] at h
        split at h <;> simp at h
    have st_of : ∀ {Z' H' : Hp}, (∀ a o, Z' a = some o → H' a = some o ∧ ¬ W.bx a) → BSt W (startΓ N ds) (start N vs) Z H Z' H' → Stp W Z H Z' H' := fun zh' bs =>
      ⟨bs.zz, zh', fun a o h nb => bs.hh a o h nb (noOwn a), fun a o h => (bs.nw a o h).elim .inl fun w => w.elim .inr fun z => (noOwn a z).elim, bs.sz⟩
    cases fl with
    | nx s =>
      intro σ' Z' H' r' bs' _
      obtain ⟨rfl, rfl⟩ := ret_some h2
      exact q _ Z' H' (st_of r'.zh bs') r'.box .non
    | rt d' =>
      intro v Z' H' zh' b' bs' rv
      obtain ⟨rfl, rfl⟩ := ret_some h2
      exact q v Z' H' (st_of zh' bs') b' rv
    | bk s => exact (stuck_some (S := S) (α := D) (s := st1) h2).elim
    | ct s => exact (stuck_some (S := S) (α := D) (s := st1) h2).elim
end

/-! ### comprehensions -/
def Stat.blk (C : Stat) (scope : Scope) : Stat := ⟨C.G, C.N, relS scope C.sc, C.k, fun x => scope.names.lookup x == some .cell⟩
theorem CtxP.blk {C : Stat} {X : Cx} (h : CtxP C X) (scope : Scope) (s : Shared) (H : Hp) (C' : Addr) (cl : List (Str × Addr)) (fp : List Addr) : CtxP (C.blk scope) (X.blk s H scope (compEnvC scope cl C' X.env) fp) :=
  ⟨h.prog, h.w, h.K, h.mg, h.base, h.N, by show relS scope X.env.scope = relS scope C.sc; rw [h.sc], h.nd, h.calm, h.room, rfl, fun _ q => q⟩
def wipeΓ (Γ : SCx) : List Nat → SCx
  | [] => Γ
  | v :: vs => (wipeΓ Γ vs).set v none
section
variable {S : Type} [BoxS S] {K : PySem.W.Frag} {W : Wd} {Γ : SCx} {σ : L2.St} {Z H : Hp} {st : S}
theorem wipeΓ_some {i : Nat} {e : En} : ∀ {vs : List Nat}, (wipeΓ Γ vs)[i]? = some (some e) → Γ[i]? = some (some e) ∧ i ∉ vs
  | [], h => ⟨h, by simp⟩
  | v :: vs, h => by
    unfold wipeΓ at h
    rcases set_cases h with ⟨rfl, he, hl⟩ | ⟨hn, h⟩
    · cases he
    · obtain ⟨h1, h2⟩ := wipeΓ_some h
      exact ⟨h1, by simp only [List.mem_cons, not_or]; exact ⟨hn, h2⟩⟩
theorem wipeΓ_len : ∀ {vs : List Nat}, (wipeΓ Γ vs).length = Γ.length
  | [] => rfl
  | v :: vs => by unfold wipeΓ; rw [List.length_set, wipeΓ_len]
theorem wipe_get {i : Nat} : ∀ {vs : List Nat}, i ∉ vs → (wipe σ vs)[i]? = σ[i]?
  | [], _ => rfl
  | v :: vs, h => by
    simp only [List.mem_cons, not_or] at h
    unfold wipe
    rw [List.getElem?_set_ne (Ne.symm h.1), wipe_get h.2]
theorem SR.wipe {vs : List Nat} (r : SR K W Γ σ Z H st) : SR K W (wipeΓ Γ vs) (L2.wipe σ vs) Z H st where
  ln := by rw [wipeΓ_len, wipe_length]; exact r.ln
  sz := r.sz
  box := r.box
  zh := r.zh
  frz := fun i d h => by
    obtain ⟨h1, h2⟩ := wipeΓ_some h
    rw [wipe_get h2]; exact r.frz i d h1
  own := fun i d h => by
    obtain ⟨h1, h2⟩ := wipeΓ_some h
    rw [wipe_get h2]; exact r.own i d h1
  dis := fun i j d e a h1 h2 h3 h4 => by
    obtain ⟨g1, n1⟩ := wipeΓ_some h1
    obtain ⟨g2, n2⟩ := wipeΓ_some h2
    rw [wipe_get n1] at h3
    rw [wipe_get n2] at h4
    exact r.dis i j d e a g1 g2 h3 h4
end
def tUTs (X : Cx) (ifs : List Expr) : TT := fun σ H Q => ∀ (pins : List (Addr × Obj)) (s : Shared), Inv X pins σ H s →
    wpAny (model X.prog X.w) X.A (forIn ifs true fun c r => if r = true then do let ok ← isTrue c X.env (eval c X.env); pure (ForInStep.yield ok) else pure (ForInStep.yield r)) (TP X pins σ Q) X.xe s
theorem ptsU {X : Cx} {ifs : List Expr} : PTs X ifs (tUTs X ifs) := ⟨fun pins s _ _ _ I h => h pins s I⟩
theorem tUTs_of {X : Cx} {ifs : List Expr} {t : TT} {σ : L2.St} {H : Hp} {Q : Bool → Hp → Prop} (h : PTs X ifs t) (q : t σ H Q) : tUTs X ifs σ H Q := fun pins s I => h.run pins s σ H Q I q
def OkTs {S : Type} [BoxS S] (C : Stat) (Γ : SCx) (ifs : List Expr) (m : M S Bool) : Prop :=
  ∀ X, CtxP C X → ∀ (W : Wd) (σ : L2.St) (Z H : Hp) (st : S) (d : Bool) (st' : S) (Q : Bool → Hp → Prop), SR X.K W Γ σ Z H st → m st = some (d, st') →
    (∀ Z' H', Stp W Z H Z' H' → BoxS.R st' W.β W.γ H' → Q d H') → tUTs X ifs σ H Q
section
variable {S : Type} [BoxS S] {C : Stat} {Γ Γ' : SCx} {c elt tg iter tg1 iter1 : Expr} {ifs ifs1 : List Expr} {pos : Pos}
theorem OkTs.nil : OkTs (S := S) C Γ [] (ret true) := fun X hX W σ Z H st d st' Q r hm q => by
  obtain ⟨rfl, rfl⟩ := ret_some hm
  exact tUTs_of pts_nil (q Z H r.refl r.box)
theorem OkTs.one {n : M S Bool} (h : OkT C Γ c n) : OkTs C Γ [c] n := fun X hX W σ Z H st d st' Q r hm q => tUTs_of (pts_one ptU) (h X hX W σ Z H st d st' Q r hm q)
def compL {S α β : Type} (f : α → M S (Option β)) : List α → M S (List β)
  | [] => ret []
  | x :: xs => bnd (f x) fun o => bnd (compL f xs) fun ys => ret (match o with | some y => y :: ys | none => ys)
/-- a clause's tests, then the element -/
def eltM {S : Type} (mt : M S Bool) (me : M S D) : M S (Option D) := bnd mt fun t => if t = true then bnd me fun y => ret (some y) else ret none
theorem compL_len {S α β : Type} {f : α → M S (Option β)} : ∀ {xs : List α} {st st' : S} {ys : List β}, compL f xs st = some (ys, st') → ys.length ≤ xs.length
  | [], st, st', ys, h => by obtain ⟨rfl, rfl⟩ := ret_some h; exact Nat.le_refl _
  | x :: xs, st, st', ys, h => by
    obtain ⟨o, st1, h1, h2⟩ := bnd_some (show bnd (f x) _ st = some (ys, st') from h)
    obtain ⟨zs, st2, h3, h4⟩ := bnd_some h2
    obtain ⟨rfl, rfl⟩ := ret_some h4
    have := compL_len h3
    cases o with
    | none => exact Nat.le_succ_of_le this
    | some y => exact Nat.succ_le_succ this
/-- the readings that any parts of a comprehension's block have -/
def bG (X : Cx) (scope : Scope) (tg : Expr) : TG := fun v σ H Q => ∀ (s : Shared) (H0 : Hp) (C' : Addr) (cl : List (Str × Addr)) (fp : List Addr), tUG (X.blk s H0 scope (compEnvC scope cl C' X.env) fp) tg v σ H Q
def bT (X : Cx) (scope : Scope) (ifs : List Expr) : TT := fun σ H Q => ∀ (s : Shared) (H0 : Hp) (C' : Addr) (cl : List (Str × Addr)) (fp : List Addr), tUTs (X.blk s H0 scope (compEnvC scope cl C' X.env) fp) ifs σ H Q
def bE (X : Cx) (scope : Scope) (e : Expr) : TE := fun σ H Q => ∀ (s : Shared) (H0 : Hp) (C' : Addr) (cl : List (Str × Addr)) (fp : List Addr), tU (X.blk s H0 scope (compEnvC scope cl C' X.env) fp) e σ H Q
def bI (X : Cx) (scope : Scope) (tg e : Expr) : TI := fun σ H Q => ∀ (s : Shared) (H0 : Hp) (C' : Addr) (cl : List (Str × Addr)) (fp : List Addr), tUI (X.blk s H0 scope (compEnvC scope cl C' X.env) fp) tg e σ H Q
theorem bG_ok {X : Cx} {scope : Scope} (s : Shared) (H0 : Hp) (C' : Addr) (cl : List (Str × Addr)) (fp : List Addr) : PG (X.blk s H0 scope (compEnvC scope cl C' X.env) fp) tg (bG X scope tg) := ⟨fun pins s' σ' H' v u Q' I rv h => h s H0 C' cl fp pins s' u I rv⟩
theorem bT_ok {X : Cx} {scope : Scope} (s : Shared) (H0 : Hp) (C' : Addr) (cl : List (Str × Addr)) (fp : List Addr) : PTs (X.blk s H0 scope (compEnvC scope cl C' X.env) fp) ifs (bT X scope ifs) := ⟨fun pins s' σ' H' Q' I h => h s H0 C' cl fp pins s' I⟩
theorem bE_ok {X : Cx} {scope : Scope} (s : Shared) (H0 : Hp) (C' : Addr) (cl : List (Str × Addr)) (fp : List Addr) : PE (X.blk s H0 scope (compEnvC scope cl C' X.env) fp) elt (bE X scope elt) := ⟨fun pins s' σ' H' Q' I h => h s H0 C' cl fp pins s' I⟩
theorem bI_ok {X : Cx} {scope : Scope} (s : Shared) (H0 : Hp) (C' : Addr) (cl : List (Str × Addr)) (fp : List Addr) : PI (X.blk s H0 scope (compEnvC scope cl C' X.env) fp) tg iter (bI X scope tg iter) := ⟨fun pins s' σ' H' Q' I h => h s H0 C' cl fp pins s' I⟩
/-- the run from the i-th item on, the list so far -/
theorem lc_rd {scope : Scope} (own : List (Str × Nat)) {mi : M S (List D)} {f : D → M S (Option D)} (hi : OkI false C Γ tg iter mi)
    (hb : ∀ d, BindOk (C.blk scope) (wipeΓ Γ (own.map (·.2))) [tg] [d] (fun i => i ∈ own.map (·.2)) (fun Γ' n => ∃ mt me, OkTs (C.blk scope) Γ' ifs mt ∧ Ok .E (C.blk scope) Γ' elt me ∧ n = eltM mt me) (f d))
    (X : Cx) (hX : CtxP C X) (W : Wd) (σ : L2.St) (Z H : Hp) (st : S) (d : D) (st' : S) (Q : VK) (r : SR X.K W Γ σ Z H st) (hm : (bnd mi fun xs => if xs.length ≤ sizeLine then bnd (compL f xs) fun ys => ret (.lst ys) else stuck) st = some (d, st'))
    (q : ∀ v Z' H', Stp W Z H Z' H' → BoxS.R st' W.β W.γ H' → Res X.K W .N H Z' H' d v → Q v H') : tLc (tUI X tg iter) (bG X scope tg) (bT X scope ifs) (bE X scope elt) (own.map (·.2)) σ H Q := by
  obtain ⟨xs, st1, h1, hm1⟩ := bnd_some hm
  by_cases hxs : xs.length ≤ sizeLine
  · rw [if_pos hxs] at hm1
    obtain ⟨ys, st2, h2, hm2⟩ := bnd_some hm1
    obtain ⟨rfl, rfl⟩ := ret_some hm2
    refine hi X hX W σ Z H st xs st1 _ r h1 fun J A Z1 H1 s1 b1 y1 _ => fun D hD => ?_
    have r1 := r.step s1 b1
    have nbD : ¬ W.bx D := BoxS.bxThere b1 hD
    have zD : Z1 D = none := z_none s1.zh hD
    refine ⟨fun i n H' => ∃ Z' acc dacc st3 rst, n = xs.length - i ∧ i ≤ xs.length ∧ Stp W Z1 (upd H1 D (.lst [])) Z' (upd H' D (.lst [])) ∧ H' D = some (.lst acc) ∧ Z' D = none ∧ (∀ a o, Z' a = some o → H' a = some o ∧ ¬ W.bx a) ∧ Sz H' ∧ acc.length ≤ i ∧ BoxS.R st3 W.β W.γ H' ∧ RepL X.K W.β Z' dacc acc ∧ compL f (xs.drop i) st3 = some (rst, st') ∧ ys = dacc ++ rst,
      ⟨xs.length, Z1, [], [], st1, ys, by omega, Nat.zero_le _, ?_, upd_same, zD, fun a o h => ⟨by rw [upd_ne (ne_of_none (s1.zh a o h).1 hD)]; exact (s1.zh a o h).1, (s1.zh a o h).2⟩, (s1.sz r.sz).upd (Nat.zero_le _), Nat.le_refl _, box_lay b1 hD, .nil, h2, rfl⟩, ?_⟩
    · rw [upd_upd]
      exact Stp.refl fun a o h => ⟨by rw [upd_ne (ne_of_none (s1.zh a o h).1 hD)]; exact (s1.zh a o h).1, (s1.zh a o h).2⟩
    rintro i n H2 ⟨Z2, acc, dacc, st3, rst, rfl, hi2, s2, hD2, zD2, zh2, sz2, hac, b2, rl2, run2, ey⟩
    have ka : ∀ a o, A a → H1 a = some o → H2 a = some o := fun a o ha h => by
      have hne : a ≠ D := ne_of_none h hD
      have := s2.hh a o (by rw [upd_ne hne]; exact h) (y1.1 a ha).2
      rwa [upd_ne hne] at this
    have yy := y1.2 i Z2 H2 st3 s2.zz zh2 ka sz2 b2
    -- the slots behind
    have rr : SR X.K W Γ σ Z2 H2 st3 := by
      have q1 : Stp W Z1 H1 Z2 H2 := ⟨s2.zz, zh2, fun a o h nb => by
          have hne : a ≠ D := ne_of_none h hD
          have := s2.hh a o (by rw [upd_ne hne]; exact h) nb
          rwa [upd_ne hne] at this, fun a o h => by
          rcases s2.nw a o h with w | w
          · exact .inl w
          · by_cases e : a = D
            · subst e; rw [zD2] at h; cases h
            · rw [upd_ne e] at w; exact .inr w, fun _ => sz2⟩
      exact r1.step q1 b2
    by_cases hlt : i < xs.length
    · have hd : xs[i]? = some xs[i] := List.getElem?_eq_getElem hlt
      rw [List.drop_eq_getElem_cons hlt] at run2
      obtain ⟨o, st4, h4, run3⟩ := bnd_some (show bnd (f xs[i]) _ st3 = some (rst, st') from run2)
      obtain ⟨zs, st5, h5, run4⟩ := bnd_some run3
      obtain ⟨er, rfl⟩ := ret_some run4
      obtain ⟨go, yl⟩ := yy.2 _ hd
      refine .inr ⟨go, fun H' => ∃ Z' acc dacc st3 rst, Stp W Z1 (upd H1 D (.lst [])) Z' (upd H' D (.lst [])) ∧ H' D = some (.lst acc) ∧ Z' D = none ∧ (∀ a o, Z' a = some o → H' a = some o ∧ ¬ W.bx a) ∧ Sz H' ∧ acc.length ≤ i + 1 ∧ BoxS.R st3 W.β W.γ H' ∧ RepL X.K W.β Z' dacc acc ∧ compL f (xs.drop (i + 1)) st3 = some (rst, st') ∧ ys = dacc ++ rst, fun H' hN => ?_, fun x H3 hy => ?_⟩
      · obtain ⟨Z', acc, dacc, st3, rst, q1, q2, q3, q4, q5, q6, q7, q8, q9, q10⟩ := hN
        exact ⟨xs.length - (i + 1), by omega, Z', acc, dacc, st3, rst, rfl, hlt, q1, q2, q3, q4, q5, q6, q7, q8, q9, q10⟩
      · obtain ⟨Z3, s3, b3, rx⟩ := yl x H3 hy
        intro s0 H0 C' cl fp
        have hXb := hX.blk scope s0 H0 C' cl fp
        rcases hb xs[i] with hb' | ⟨Γ', vs, ht, hvs, mt, me, ot, oe, en⟩
        · rw [hb' st3] at h4; cases h4
        · obtain ⟨Γ1, v1, v2, t1, ⟨e1, e2⟩, e3⟩ := ht
          subst e1
          subst e2
          rw [List.append_nil] at e3
          subst e3
          rw [en] at h4
          obtain ⟨t, st6, h6, h7⟩ := bnd_some h4
          refine t1 _ hXb W (wipe σ (own.map (·.2))) Z3 H3 st3 x _ ((rr.step s3 b3).wipe) rx fun σ3 r4 w4 o4 => ?_
          refine ⟨by
            have := w4 (own.map (·.2)) hvs
            rw [this]
            have idem : ∀ (us ws : List Nat) (ρ : L2.St), (∀ i ∈ us, i ∈ ws) → wipe (wipe ρ us) ws = wipe ρ ws := by
              intro us ws ρ
              induction us with
              | nil => intro _; rfl
              | cons u us ih =>
                intro h
                show wipe ((wipe ρ us).set u none) ws = wipe ρ ws
                rw [wipe_set (h u List.mem_cons_self), ih fun i hi => h i (List.mem_cons_of_mem _ hi)]
            exact idem _ _ σ fun _ h => h, fun s5 H5 C5 cl5 fp5 => ?_⟩
          have hXc := hX.blk scope s5 H5 C5 cl5 fp5
          refine ot _ hXc W σ3 Z3 H3 st3 t st6 _ r4 h6 fun Z6 H6 s6 b6 => ?_
          have s36 := s3.trans s6
          have D6 : H6 D = some (.lst acc) := s36.hh D _ hD2 nbD
          have zD6 : Z6 D = none := by
            cases q : Z6 D with
            | none => rfl
            | some u =>
              rcases s36.nw D u q with w | w
              · rw [zD2] at w; cases w
              · rw [hD2] at w; cases w
          have push : ∀ {H' Z' Hn : Hp} {ac : List V}, Stp W Z2 H2 Z' H' → Z' D = none → SzO (.lst ac) → Stp W Z1 (upd H1 D (.lst [])) Z' (upd (upd H' D (.lst ac)) D (.lst [])) := by
            intro H' Z' Hn ac sx zx _
            rw [upd_upd]
            refine s2.trans ⟨sx.zz, fun a o h => ?_, fun a o h nb => ?_, fun a o h => ?_, fun hs => ?_⟩
            · have hne : a ≠ D := fun z => by rw [z, zx] at h; cases h
              exact ⟨by rw [upd_ne hne]; exact (sx.zh a o h).1, (sx.zh a o h).2⟩
            · rcases upd_get h with ⟨rfl, rfl⟩ | ⟨hne, h⟩
              · exact upd_same
              · rw [upd_ne hne]; exact sx.hh a o h nb
            · rcases sx.nw a o h with w | w
              · exact .inl w
              · by_cases e : a = D
                · subst e; rw [zx] at h; cases h
                · exact .inr (by rw [upd_ne e]; exact w)
            · exact (sx.sz sz2).upd (Nat.zero_le _)
          have zhp : ∀ {H' Z' : Hp} {ac : List V}, (∀ a o, Z' a = some o → H' a = some o ∧ ¬ W.bx a) → Z' D = none → ∀ a o, Z' a = some o → (upd H' D (.lst ac)) a = some o ∧ ¬ W.bx a := by
            intro H' Z' ac zx zn a o h
            have hne : a ≠ D := fun z => by rw [z, zn] at h; cases h
            exact ⟨by rw [upd_ne hne]; exact (zx a o h).1, (zx a o h).2⟩
          have bxp : ∀ {H' : Hp} {ac : List V} {s' : S}, BoxS.R s' W.β W.γ H' → BoxS.R s' W.β W.γ (upd H' D (.lst ac)) := fun b => BoxS.congr b (upd_ne fun e => nbD (.inl e.symm)) (upd_ne fun e => nbD (.inr e.symm))
          cases t with
          | true =>
            rw [if_pos rfl] at h7 ⊢
            obtain ⟨y, st7, h8, h9⟩ := bnd_some h7
            obtain ⟨rfl, rfl⟩ := ret_some h9
            intro s8 H8 C8 cl8 fp8
            have hXd := hX.blk scope s8 H8 C8 cl8 fp8
            refine oe _ hXd W σ3 Z6 H6 st6 y _ _ (r4.step s6 b6) h8 fun v Z7 H7 s7 b7 r7 => ?_
            have s37 := s36.trans s7
            have D7 : H7 D = some (.lst acc) := s37.hh D _ hD2 nbD
            have zD7 : Z7 D = none := by
              cases q : Z7 D with
              | none => rfl
              | some u =>
                rcases s37.nw D u q with w | w
                · rw [zD2] at w; cases w
                · rw [hD2] at w; cases w
            have hlen : (acc ++ [v]).length ≤ sizeLine := by rw [List.length_append, List.length_singleton]; omega
            refine ⟨acc, D7, by omega, Z7, acc ++ [v], dacc ++ [y], st4, zs, push (Hn := H7) s37 zD7 hlen, upd_same, zD7, zhp s37.zh zD7, (s37.sz sz2).upd hlen, by rw [List.length_append, List.length_singleton]; omega, bxp b7, (rl2.mono s37.zz).append (.cons r7 .nil), h5, ?_⟩
            rw [ey, er, List.append_assoc]; rfl
          | false =>
            rw [if_neg Bool.false_ne_true] at h7 ⊢
            obtain ⟨rfl, rfl⟩ := ret_some h7
            refine ⟨Z6, acc, dacc, st4, zs, ?_, D6, zD6, s36.zh, s36.sz sz2, by omega, b6, rl2.mono s36.zz, h5, by rw [ey, er]⟩
            have := push (Hn := H6) (ac := []) s36 zD6 (Nat.zero_le _)
            rwa [upd_upd] at this
    · have e : i = xs.length := by omega
      subst e
      rw [List.drop_length] at run2
      obtain ⟨rfl, rfl⟩ := ret_some run2
      rw [List.append_nil] at ey
      subst ey
      refine .inl ⟨yy.1 (Nat.le_refl _), ?_⟩
      refine q (.ref D) Z2 H2 ⟨s1.zz.trans s2.zz, zh2, fun a o h nb => ?_, fun a o h => ?_, fun _ => sz2⟩ b2 ⟨⟨D, acc, rfl, hD2, rl2⟩, fun a ea _ => ?_⟩
      · have h' := s1.hh a o h nb
        have hne : a ≠ D := ne_of_none h' hD
        have := s2.hh a o (by rw [upd_ne hne]; exact h') nb
        rwa [upd_ne hne] at this
      · rcases s2.nw a o h with w | w
        · exact s1.nw a o w
        · by_cases e : a = D
          · subst e; rw [zD2] at h; cases h
          · rw [upd_ne e] at w
            cases q' : H a with
            | none => exact .inr rfl
            | some u => rw [s1.hh a u q' (zh2 a o h).2] at w; cases w
      · cases ea
        exact ⟨fresh_back r.box b1 s1 hD, zD2, nbD⟩
  · rw [if_neg hxs] at hm1; exact (stuck_some hm1).elim
/-- a comprehension, as a value and as what a name is bound to -/
def OkC (C : Stat) (Γ : SCx) (e : Expr) (m : M S D) : Prop :=
  Ok .N C Γ e m ∧ ∀ X, CtxP C X → ∀ (i : Nat) (y : Str) (py spos : Pos), C.N[i]? = some y → C.sc.names.lookup y = some .local → swapsWith e (some (.Name y py)) spos.line X.env = pure true →
    ∀ (W : Wd) (σ : L2.St) (Z H : Hp) (st : S) (d : D) (st' : S), SR X.K W Γ σ Z H st → m st = some (d, st') →
      ∃ te, PS X (.Assign [.Name y py] e spos) (tAsg te (gName i)) ∧ ∀ Q : VK, (∀ v Z' H', Stp W Z H Z' H' → BoxS.R st' W.β W.γ H' → Res X.K W .N H Z' H' d v → Q v H') → te σ H Q
theorem Ok.lc {scope : Scope} (own : List (Str × Nat)) {mi : M S (List D)} {f : D → M S (Option D)} (hi : OkI false C Γ tg iter mi)
    (hb : ∀ d, BindOk (C.blk scope) (wipeΓ Γ (own.map (·.2))) [tg] [d] (fun i => i ∈ own.map (·.2)) (fun Γ' n => ∃ mt me, OkTs (C.blk scope) Γ' ifs mt ∧ Ok .E (C.blk scope) Γ' elt me ∧ n = eltM mt me) (f d))
    (ok : blkC C.N C.sc scope own = true := by (try dsimp only [Stat.blk]); decide +kernel) (hs : ∀ (env : Env) x, foldedSetIterable iter env x = pure x := by intro _ _; rfl) : OkC C Γ (.ListComp elt [⟨tg, iter, ifs, 0⟩] scope pos) (bnd mi fun xs => if xs.length ≤ sizeLine then bnd (compL f xs) fun ys => ret (.lst ys) else stuck) := by
  refine ⟨fun X hX W σ Z H st d st' Q r hm q => ?_, fun X hX i y py spos hN hyl hsw W σ Z H st d st' r hm => ?_⟩
  · exact tU_of (pe_lc (own := own) hX.calm (by rw [hX.N]; exact hX.nd) piU (blkOk_by (by rw [hX.N, hX.sc]; exact ok)) bG_ok bT_ok bE_ok (hs _)) (lc_rd own hi hb X hX W σ Z H st d st' Q r hm q)
  · exact ⟨_, ps_setLc (own := own) hX.calm (by rw [hX.N]; exact hX.nd) (by rw [hX.N]; exact hN) (by rw [hX.sc]; exact hyl) hsw piU (blkOk_by (by rw [hX.N, hX.sc]; exact ok)) bG_ok bT_ok bE_ok (hs _), fun Q q => lc_rd own hi hb X hX W σ Z H st d st' Q r hm q⟩
theorem OkC.n {e : Expr} {m : M S D} (h : OkC C Γ e m) : Ok .N C Γ e m := h.1
/-- name = [..] on one line -/
theorem OkB.setC {τ l : Type} {T : Tg τ l} {rest : List Stmt} {m : M S D} {k : D → M S (Fl τ l)} {i : Nat} {x : Str} {pos' : Pos} {gs : List Comprehension} {scope : Scope} {cpos : Pos} (hN : C.N[i]? = some x) (hx : C.sc.names.lookup x = some .local) (hfk : C.sc.kind = .function) (he : OkC C Γ (.ListComp elt gs scope cpos) m) (hb : ∀ d, OkB C (Γ.set i (some (.frz d))) rest T (k d))
    (ha : (scope.names.any fun (n, k) => n == x && (k == .local || k == .cell)) = false := by decide +kernel) (hl : (pos'.line == cpos.line) = true := by rfl) : OkB C Γ (.Assign [.Name x pos'] (.ListComp elt gs scope cpos) pos :: rest) T (bnd m k) := fun X hX W σ Z H st f st' D r hm q => by
  obtain ⟨d, st1, h1, hm1⟩ := bnd_some hm
  obtain ⟨te, ps, qe⟩ := he.2 X hX i x pos' pos hN hx (sw_true (by rw [hX.sc]; exact hfk) (by rw [hX.sc]; exact hx) hl ha) W σ Z H st d st1 r h1
  refine tUS_of (pss_cons ps pssU) (qe _ fun v Z1 H1 s1 b1 r1 => ?_)
  have r1' : ∃ Z2, Stp W Z H Z2 H1 ∧ Rep X.K W.β Z2 d v := by
    by_cases mu : isMut d = true
    · obtain ⟨q4, q5⟩ := r1
      have hv : ∃ p o, v = .ref p ∧ H1 p = some o := by
        cases d with
        | lst ds => obtain ⟨b, vs, eb, hb, _⟩ := q4; exact ⟨b, _, eb, hb⟩
        | dct ds =>
          obtain ⟨b, eb, ⟨kvs, h, _⟩ | ⟨kvs, h, _⟩⟩ := q4
          · exact ⟨b, _, eb, h⟩
          · exact ⟨b, _, eb, h⟩
        | _ => cases mu
      obtain ⟨p, o, rfl, ho⟩ := hv
      obtain ⟨f1, f2, f3⟩ := q5 p rfl mu
      have sz : Sub Z1 (upd Z1 p o) := fun a u h => upd_none f2 h
      refine ⟨upd Z1 p o, ⟨s1.zz.trans sz, fun a u h => ?_, s1.hh, fun a u h => ?_, s1.sz⟩, Rep1.rep (H := H1) (q4.mono sz fun _ _ _ h => h) fun a ea _ => by cases ea; rw [upd_same, ho]⟩
      · rcases upd_get h with ⟨rfl, rfl⟩ | ⟨_, h⟩
        · exact ⟨ho, f3⟩
        · exact s1.zh a u h
      · rcases upd_get h with ⟨rfl, rfl⟩ | ⟨_, h⟩
        · exact .inr f1
        · exact s1.nw a u h
    · refine ⟨Z1, s1, ?_⟩
      have := r1.1
      cases d with
      | lst ds => exact absurd rfl mu
      | dct ds => exact absurd rfl mu
      | _ => exact this
  obtain ⟨Z2, s2, r2⟩ := r1'
  exact hb d X hX W (σ.set i (some v)) Z2 H1 st1 f st' D ((r.step s2 b1).setF r2) hm1 (q.after s2.bst fun a h => .inl (own_setF h))
theorem OkB.setCO {τ l : Type} {T : Tg τ l} {rest : List Stmt} {m : M S D} {k : D → M S (Fl τ l)} {i : Nat} {x : Str} {pos' : Pos} {gs : List Comprehension} {scope : Scope} {cpos : Pos} (hN : C.N[i]? = some x) (hx : C.sc.names.lookup x = some .local) (hfk : C.sc.kind = .function) (he : OkC C Γ (.ListComp elt gs scope cpos) m) (hb : ∀ d, OkB C (Γ.set i (some (.own d))) rest T (k d))
    (ha : (scope.names.any fun (n, k) => n == x && (k == .local || k == .cell)) = false := by decide +kernel) (hl : (pos'.line == cpos.line) = true := by rfl) : OkB C Γ (.Assign [.Name x pos'] (.ListComp elt gs scope cpos) pos :: rest) T (bnd m fun d => if isMut d = true then k d else stuck) := fun X hX W σ Z H st f st' D r hm q => by
  obtain ⟨d, st1, h1, hm1⟩ := bnd_some hm
  by_cases mu : isMut d = true
  · rw [if_pos mu] at hm1
    obtain ⟨te, ps, qe⟩ := he.2 X hX i x pos' pos hN hx (sw_true (by rw [hX.sc]; exact hfk) (by rw [hX.sc]; exact hx) hl ha) W σ Z H st d st1 r h1
    refine tUS_of (pss_cons ps pssU) (qe _ fun v Z1 H1 s1 b1 r1 => ?_)
    have hv : ∃ p, v = .ref p := by
      obtain ⟨q4, _⟩ := r1
      cases d with
      | lst ds => obtain ⟨b, vs, eb, _⟩ := q4; exact ⟨b, eb⟩
      | dct ds => obtain ⟨b, eb, _⟩ := q4; exact ⟨b, eb⟩
      | _ => cases mu
    obtain ⟨p, rfl⟩ := hv
    obtain ⟨f1, f2, f3⟩ := r1.2 p rfl mu
    have no : ¬ ownA Γ σ p := fun h => by
      obtain ⟨o, ho⟩ := r.ownThere h
      rw [f1] at ho; cases ho
    refine hb d X hX W (σ.set i (some (.ref p))) Z1 H1 st1 f st' D ((r.step s1 b1).setO mu r1.1 f2 f3 no) hm1 (q.after s1.bst fun a h => ?_)
    rcases own_setO h with h | rfl
    · exact .inl h
    · exact .inr f1
  · rw [if_neg mu] at hm1; exact (stuck_some hm1).elim
end
end Sn

namespace Sn
open PySem PySem.Spec PyProof.Rows L2

/-! ### what operations make of data -/
mutual
def toPy : D → PyData
  | .non => .none
  | .bl b => .bool b
  | .int i => .int i
  | .str x => .str x
  | .tup xs => .tuple (toPys xs)
  | .lst xs => .list (toPys xs)
  | .dct _ => .dict []
  | .box => .dict []
def toPys : List D → List PyData
  | [] => []
  | x :: xs => toPy x :: toPys xs
end
section
variable {K : PySem.W.Frag} {β : Addr} {Z H : Hp}
mutual
theorem Rep.dp : ∀ {d : D} {v : V}, Rep K β Z d v → (toPy d).canLay0 = true → Dp K Z v (toPy d)
  | _, _, .non, _ => .non
  | _, _, .bl b, _ => .bl b
  | _, _, .int i, _ => .int i
  | _, _, .str x, _ => .str x
  | _, _, .box, h => by simp [toPy, PyData.canLay0] at h
  | _, _, .tup h r, c => .tup ((Sub.refl _).sqT h) (RepL.dp r (by simpa [toPy, PyData.canLay0] using c))
  | _, _, .lst h r, c => .lst (.inl (.inl h)) (RepL.dp r (by simpa [toPy, PyData.canLay0] using c))
  | _, _, .dK h r, c => by simp [toPy, PyData.canLay0] at c
  | _, _, .dT h r, c => by simp [toPy, PyData.canLay0] at c
theorem RepL.dp : ∀ {d : List D} {v : List V}, RepL K β Z d v → PyData.canLayAll0 (toPys d) = true → DpAll K Z v (toPys d)
  | _, _, .nil, _ => .nil
  | _, _, .cons h r, c => by
    simp only [toPys, PyData.canLayAll0, Bool.and_eq_true] at c
    exact .cons (Rep.dp h c.1) (RepL.dp r c.2)
end
mutual
theorem dp_mono {H' : Hp} (s : Sub H H') : ∀ {v : V} {d : PyData}, Dp K H v d → Dp K H' v d
  | _, _, .non => .non
  | _, _, .bl b => .bl b
  | _, _, .int i => .int i
  | _, _, .str x => .str x
  | _, _, .lst h r => .lst (s.sqL h) (dpAll_mono s r)
  | _, _, .tup h r => .tup (s.sqTT h) (dpAll_mono s r)
theorem dpAll_mono {H' : Hp} (s : Sub H H') : ∀ {v : List V} {d : List PyData}, DpAll K H v d → DpAll K H' v d
  | _, _, .nil => .nil
  | _, _, .cons h r => .cons (dp_mono s h) (dpAll_mono s r)
end
theorem Rep1.dp {d : D} {v : V} (s : Sub Z H) (r : Rep1 K β Z H d v) (c : (toPy d).canLay0 = true) : Dp K H v (toPy d) := by
  cases d with
  | lst ds =>
    obtain ⟨a, vs, rfl, h, r⟩ := r
    exact .lst (.inl (.inl h)) (dpAll_mono s (RepL.dp r (by simpa [toPy, PyData.canLay0] using c)))
  | dct ds => simp [toPy, PyData.canLay0] at c
  | non => exact dp_mono s (Rep.dp r c)
  | bl b => exact dp_mono s (Rep.dp r c)
  | int i => exact dp_mono s (Rep.dp r c)
  | str x => exact dp_mono s (Rep.dp r c)
  | tup x => exact dp_mono s (Rep.dp r c)
  | box => exact dp_mono s (Rep.dp r c)
end
/-- deep, plain: may be compared at any depth -/
def shD (d : D) : Bool := SeqAt.shaped (toPy d)
def eqB (x y : D) : Bool := PyData.eqv (toPy x) (toPy y)
def eqD (x y : D) : Option D := if shD x = true ∧ shD y = true then some (.bl (eqB x y)) else none
def neD (x y : D) : Option D := if shD x = true ∧ shD y = true then some (.bl (!eqB x y)) else none
def inD (x y : D) : Option D :=
  match y with
  | .lst ys => if shD x = true ∧ shD (.lst ys) = true then some (.bl (ys.any fun z => eqB z x)) else none
  | .tup ys => if shD x = true ∧ shD (.tup ys) = true then some (.bl (ys.any fun z => eqB z x)) else none
  | _ => none
def ninD (x y : D) : Option D :=
  match y with
  | .lst ys => if shD x = true ∧ shD (.lst ys) = true then some (.bl (!ys.any fun z => eqB z x)) else none
  | .tup ys => if shD x = true ∧ shD (.tup ys) = true then some (.bl (!ys.any fun z => eqB z x)) else none
  | _ => none
def addD : D → D → Option D
  | .int i, .int j => some (.int (i + j))
  | .str x, .str y => if x.length + y.length ≤ sizeLine then some (.str (x ++ y)) else none
  | .tup xs, .tup ys => if xs.length + ys.length ≤ sizeLine then some (.tup (xs ++ ys)) else none
  | .lst xs, .lst ys => if xs.length + ys.length ≤ sizeLine then some (.lst (xs ++ ys)) else none
  | _, _ => none
def subD : D → D → Option D
  | .int i, .int j => some (.int (i - j))
  | _, _ => none
def mulOk (i j : Int) : Prop := (-(2 ^ 64) < i ∧ i < 2 ^ 64) ∨ (-(2 ^ 64) < j ∧ j < 2 ^ 64)
instance (i j : Int) : Decidable (mulOk i j) := by unfold mulOk; infer_instance
def mulD : D → D → Option D
  | .int i, .int j => if mulOk i j then some (.int (i * j)) else none
  | .lst xs, .int k => if -(2 ^ 63) ≤ k ∧ k < 2 ^ 63 ∧ xs.length * k.toNat ≤ sizeLine then some (.lst (List.replicate k.toNat xs).flatten) else none
  | .tup xs, .int k => if -(2 ^ 63) ≤ k ∧ k < 2 ^ 63 ∧ (xs = [] ∨ k = 1 ∨ (2 ≤ k ∧ k ≤ 1000 ∧ xs.length ≤ 1000)) then some (.tup (List.replicate k.toNat xs).flatten) else none
  | _, _ => none
def divD : D → D → Option D
  | .int i, .int j => if 0 < j ∧ j < 1073741824 then some (.int (i / j)) else none
  | _, _ => none
def modD : D → D → Option D
  | .int i, .int j => if 0 < j then some (.int (i % j)) else none
  | _, _ => none
def ltD : D → D → Option D
  | .int i, .int j => some (.bl (decide (i < j)))
  | _, _ => none
def leD : D → D → Option D
  | .int i, .int j => some (.bl (decide (i ≤ j)))
  | _, _ => none
def gtD : D → D → Option D
  | .int i, .int j => some (.bl (decide (j < i)))
  | _, _ => none
def geD : D → D → Option D
  | .int i, .int j => some (.bl (decide (j ≤ i)))
  | _, _ => none
def isNonD : D → Bool
  | .non => true
  | _ => false
/-- is None; is of two bools -/
def isD : D → D → Option D
  | x, .non => some (.bl (isNonD x))
  | .bl a, .bl b => some (.bl (decide (a = b)))
  | _, _ => none
def isntD : D → D → Option D
  | x, .non => some (.bl (!isNonD x))
  | .bl a, .bl b => some (.bl (!decide (a = b)))
  | _, _ => none

section
variable {C : Stat}
theorem lift_int {X : Cx} {f : Value → Value → Sem Value} {i j : Int} {r : V} {d : D} {W : Wd} {Z H : Hp} {Q : VK} {S : Type} [BoxS S] {st : S} (zh : ∀ a o, Z a = some o → H a = some o ∧ ¬ W.bx a) (bx : BoxS.R st W.β W.γ H)
    (hr : Rep X.K W.β Z d r) (hm : isMut d = false) (q : ∀ v Z' H', Stp W Z H Z' H' → BoxS.R st W.β W.γ H' → Res X.K W .N H Z' H' d v → Q v H') : Q r H := by
  refine q r Z H (Stp.refl zh) bx ⟨?_, fun a _ h => by rw [hm] at h; cases h⟩
  cases d with
  | lst ds => cases hm
  | dct ds => cases hm
  | _ => exact hr
theorem fin_plain {K : PySem.W.Frag} {r : V} {d : D} {W : Wd} {Z H : Hp} {Q : VK} {S : Type} [BoxS S] {st : S} (zh : ∀ a o, Z a = some o → H a = some o ∧ ¬ W.bx a) (bx : BoxS.R st W.β W.γ H)
    (hr : Rep K W.β Z d r) (hm : isMut d = false) (q : ∀ v Z' H', Stp W Z H Z' H' → BoxS.R st W.β W.γ H' → Res K W .N H Z' H' d v → Q v H') : Q r H := by
  refine q r Z H (Stp.refl zh) bx ⟨?_, fun a _ h => by rw [hm] at h; cases h⟩
  cases d with
  | lst ds => cases hm
  | dct ds => cases hm
  | _ => exact hr
/-- a new tuple -/
theorem fin_tup {K : PySem.W.Frag} {ds : List D} {vs : List V} {p : Addr} {W : Wd} {Z H : Hp} {Q : VK} {S : Type} [BoxS S] {st : S} (zh : ∀ a o, Z a = some o → H a = some o ∧ ¬ W.bx a) (bx : BoxS.R st W.β W.γ H)
    (hp : H p = none) (hr : RepL K W.β Z ds vs) (hl : vs.length ≤ sizeLine) (q : ∀ v Z' H', Stp W Z H Z' H' → BoxS.R st W.β W.γ H' → Res K W .N H Z' H' (.tup ds) v → Q v H') : Q (.ref p) (upd H p (.tup vs)) := by
  have s2 := Stp.layZ (o := .tup vs) zh bx hp hl
  exact q _ _ _ s2 (box_lay bx hp) ⟨Rep.tup (.inl upd_same) (hr.mono s2.zz), fun a _ h => by cases h⟩
/-- a new list -/
theorem fin_lst {K : PySem.W.Frag} {ds : List D} {vs : List V} {p : Addr} {W : Wd} {Z H : Hp} {Q : VK} {S : Type} [BoxS S] {st : S} (zh : ∀ a o, Z a = some o → H a = some o ∧ ¬ W.bx a) (bx : BoxS.R st W.β W.γ H)
    (hp : H p = none) (hr : RepL K W.β Z ds vs) (hl : vs.length ≤ sizeLine) (q : ∀ v Z' H', Stp W Z H Z' H' → BoxS.R st W.β W.γ H' → Res K W .N H Z' H' (.lst ds) v → Q v H') : Q (.ref p) (upd H p (.lst vs)) := by
  have s2 := Stp.layH (o := .lst vs) zh hp hl
  refine q _ _ _ s2 (box_lay bx hp) ⟨⟨p, vs, rfl, upd_same, hr⟩, fun a e _ => ?_⟩
  cases e
  exact ⟨hp, z_none zh hp, BoxS.bxThere bx hp⟩
theorem subOf {W : Wd} {Z H : Hp} (zh : ∀ a o, Z a = some o → H a = some o ∧ ¬ W.bx a) : Sub Z H := fun a o h => (zh a o h).1
theorem o_add : Op2 C (binaryOp .Add) addD := fun X hX S _ W Z H st x y dx dy d Q zh sz bx r1 r2 hg q => by
  cases dx with
  | int i => cases dy with
    | int j => cases r1; cases r2; cases hg; exact rU_of op_add ⟨i, j, rfl, rfl, fin_plain zh bx (.int _) rfl q⟩
    | _ => cases hg
  | str i => cases dy with
    | str j =>
      cases r1; cases r2
      have hg' : (if i.length + j.length ≤ sizeLine then some (D.str (i ++ j)) else none) = some d := hg
      split at hg'
      · cases hg'; exact rU_of op_add_str ⟨i, j, rfl, rfl, by assumption, fin_plain zh bx (.str _) rfl q⟩
      · cases hg'
    | _ => cases hg
  | tup xs => cases dy with
    | tup ys =>
      have hg' : (if xs.length + ys.length ≤ sizeLine then some (D.tup (xs ++ ys)) else none) = some d := hg
      split at hg'
      · rename_i hl
        cases hg'
        cases r1 with | @tup a vs _ h1 l1 => cases r2 with | @tup b us _ h2 l2 =>
          have hv := l1.length
          have hu := l2.length
          refine rU_of op_catA ⟨a, b, vs, us, rfl, rfl, (subOf zh).sqT h1, (subOf zh).sqT h2, by omega, fun e => ?_, fun e e2 => ?_, fun _ _ p hp => ?_⟩
          · subst e
            cases l1
            exact fin_plain zh bx (.tup h2 l2) rfl q
          · subst e2
            cases l2
            rw [List.append_nil] at q
            exact fin_plain zh bx (.tup h1 l1) rfl q
          · exact fin_tup zh bx hp (l1.append l2) (by rw [List.length_append]; omega) q
      · cases hg'
    | _ => cases hg
  | lst xs => cases dy with
    | lst ys =>
      have hg' : (if xs.length + ys.length ≤ sizeLine then some (D.lst (xs ++ ys)) else none) = some d := hg
      split at hg'
      · rename_i hl
        cases hg'
        obtain ⟨a, vs, rfl, h1, l1⟩ := r1
        obtain ⟨b, us, rfl, h2, l2⟩ := r2
        have hv := l1.length
        have hu := l2.length
        exact rU_of op_cat ⟨a, b, vs, us, rfl, rfl, h1, h2, by omega, fun p hp => fin_lst zh bx hp (l1.append l2) (by rw [List.length_append]; omega) q⟩
      · cases hg'
    | _ => cases hg
  | _ => cases hg
theorem o_sub : Op2 C (binaryOp .Sub) subD := fun X hX S _ W Z H st x y dx dy d Q zh sz bx r1 r2 hg q => by
  cases dx with
  | int i => cases dy with
    | int j => cases r1; cases r2; cases hg; exact rU_of op_sub ⟨i, j, rfl, rfl, fin_plain zh bx (.int _) rfl q⟩
    | _ => cases hg
  | _ => cases hg
theorem RepL.rep {K : PySem.W.Frag} {β : Addr} {Z : Hp} {ds : List D} {vs : List V} (r : RepL K β Z ds vs) : ∀ k : Nat, RepL K β Z (List.replicate k ds).flatten (List.replicate k vs).flatten
  | 0 => .nil
  | k + 1 => by
    rw [List.replicate_succ, List.replicate_succ, List.flatten_cons, List.flatten_cons]
    exact r.append (RepL.rep r k)
set_option maxHeartbeats 4000000 in
theorem tuple_mul_self (l : Addr) (items : Array Value) (n : Nat) (dd : Option Addr) (sl : Array (Option Value)) (x : Int) (u : Tok) (c0 : (decide (x < -(2 ^ 63)) || decide (x ≥ 2 ^ 63)) = false) (c1 : (items.isEmpty || x == 1) = true) :
    Meets (Builtin.«tuple.__mul__» ⟨[.ref l, .int x u], []⟩) (fun _ R s => s.heap.get? l = some { cls := .type "tuple", dict := dd, data := .seq items n, slots := sl } ∧ R (.ok (.ret (.ref l))) s) :=
  .of_wp fun prog w A R s h => by
    obtain ⟨hp, g, d, tk, os⟩ := s; obtain ⟨hl, h⟩ := h; have f1 := AutoSeq1.idx_int
    wp_walk using wpAny_loadPart' hl
    refine wpAny_ite_false (decide_eq_false (by rw [c0]; exact Bool.false_ne_true)) ?_; wp_walk using wpAny_loadPart' hl
    exact ⟨_, rfl, h⟩
theorem op_repSelf {X : Cx} : OpR X (binaryOp .Mult) (fun x y H Q => ∃ l k xs, x = .ref l ∧ y = .int k ∧ SqT X.K H l xs ∧ (xs = [] ∨ k = 1) ∧ -(2 ^ 63) ≤ k ∧ k < 2 ^ 63 ∧ Q (.ref l) H) := by
  intro pins s σ H x y v u Q I rx ry h
  obtain ⟨l, k, xs, rfl, rfl, hT, hc1, hb1, hb2, q⟩ := h
  cases rx; obtain ⟨t, rfl⟩ := ry
  obtain ⟨its, r, ⟨⟨cls, dd, data, sl⟩, ho, hc, n, hd⟩, hs⟩ := I.tuple hT
  simp only at hc hd; subst hc hd
  have c0 : (decide (k < -(2 ^ 63)) || decide (k ≥ 2 ^ 63)) = false := by
    rw [decide_eq_false (by omega), decide_eq_false (by omega)]; rfl
  have c1 : (its.toArray.isEmpty || k == 1) = true := by
    rcases hc1 with h | h
    · subst h; cases r; rfl
    · subst h; simp
  exact wpAny_binaryOp_repeat_ref (T := "tuple") (U := "int") (by decide) ⟨_, ho, rfl⟩ (fun s' => typeIs_int s' k t) noFill_tuple_mul F.fills_int_mul F.slot_int_rmul repeat_tuple F.slot_int_index.lookup (call_meets F.slot_int_rmul (typeIs_int s k t) F.entry_int_rmul (F.args_int_rmul_2 _ _) (int_rmul_tuple k t l its.toArray n dd sl)
    ⟨ho, rfl, ⟨_, ho, rfl⟩, call_meets F.slot_tuple_mul ⟨_, ho, rfl⟩ F.entry_tuple_mul (F.args_tuple_mul_2 _ _) (tuple_mul_self l its.toArray n dd sl k t c0 c1) ⟨ho, .ref l, H, I, rfl, q⟩⟩)
theorem o_mul : Op2 C (binaryOp .Mult) mulD := fun X hX S _ W Z H st x y dx dy d Q zh sz bx r1 r2 hg q => by
  cases dx with
  | int i => cases dy with
    | int j =>
      cases r1; cases r2
      have hg' : (if mulOk i j then some (D.int (i * j)) else none) = some d := hg
      split at hg'
      · rename_i hc
        cases hg'; exact rU_of op_mul ⟨i, j, rfl, rfl, hc, fin_plain zh bx (.int _) rfl q⟩
      · cases hg'
    | _ => cases hg
  | lst xs => cases dy with
    | int k =>
      cases r2
      have hg' : (if -(2 ^ 63) ≤ k ∧ k < 2 ^ 63 ∧ xs.length * k.toNat ≤ sizeLine then some (D.lst (List.replicate k.toNat xs).flatten) else none) = some d := hg
      split at hg'
      · rename_i hc
        cases hg'
        obtain ⟨a, vs, rfl, h1, l1⟩ := r1
        have hv := l1.length
        rw [hv] at hc
        refine rU_of op_rep ⟨a, k, vs, rfl, rfl, h1, hc.1, hc.2.1, hc.2.2, fun p hp => fin_lst zh bx hp (l1.rep _) ?_ q⟩
        rw [List.length_flatten, List.map_replicate, List.sum_replicate_nat, Nat.mul_comm]
        exact hc.2.2
      · cases hg'
    | _ => cases hg
  | tup xs => cases dy with
    | int k =>
      cases r2
      have hg' : (if -(2 ^ 63) ≤ k ∧ k < 2 ^ 63 ∧ (xs = [] ∨ k = 1 ∨ (2 ≤ k ∧ k ≤ 1000 ∧ xs.length ≤ 1000)) then some (D.tup (List.replicate k.toNat xs).flatten) else none) = some d := hg
      split at hg'
      · rename_i hc
        cases hg'
        cases r1 with | @tup a vs _ h1 l1 =>
          have hv := l1.length
          have same : xs = [] ∨ k = 1 → (List.replicate k.toNat xs).flatten = xs := fun h => by
            rcases h with h | h
            · rw [h, List.flatten_replicate_nil]
            · rw [h]; simp
          by_cases hs : xs = [] ∨ k = 1
          · rw [same hs] at q
            refine rU_of op_repSelf ⟨a, k, vs, rfl, rfl, (subOf zh).sqT h1, ?_, hc.1, hc.2.1, fin_plain zh bx (.tup h1 l1) rfl q⟩
            rcases hs with h | h
            · exact .inl (by subst h; cases l1; rfl)
            · exact .inr h
          · have hc3 : 2 ≤ k ∧ k ≤ 1000 ∧ xs.length ≤ 1000 := by
              rcases hc.2.2 with h | h | h
              · exact absurd (.inl h) hs
              · exact absurd (.inr h) hs
              · exact h
            refine rU_of op_repT ⟨a, k, vs, rfl, rfl, (subOf zh).sqT h1, fun e => hs (.inl ?_), hc3.1, hc3.2.1, by omega, fun p hp => fin_tup zh bx hp (l1.rep _) ?_ q⟩
            · subst e; cases l1; rfl
            · rw [List.length_flatten, List.map_replicate, List.sum_replicate_nat, sizeLine_eq]
              have : k.toNat * vs.length ≤ 1000 * 1000 := Nat.mul_le_mul (by omega) (by omega)
              omega
      · cases hg'
    | _ => cases hg
  | _ => cases hg
theorem o_div : Op2 C (binaryOp .FloorDiv) divD := fun X hX S _ W Z H st x y dx dy d Q zh sz bx r1 r2 hg q => by
  cases dx with
  | int i => cases dy with
    | int j =>
      cases r1; cases r2
      have hg' : (if 0 < j ∧ j < 1073741824 then some (D.int (i / j)) else none) = some d := hg
      split at hg'
      · rename_i hc
        cases hg'; exact rU_of op_fdiv ⟨i, j, rfl, rfl, hc, fin_plain zh bx (.int _) rfl q⟩
      · cases hg'
    | _ => cases hg
  | _ => cases hg
theorem o_mod : Op2 C (binaryOp .Mod) modD := fun X hX S _ W Z H st x y dx dy d Q zh sz bx r1 r2 hg q => by
  cases dx with
  | int i => cases dy with
    | int j =>
      cases r1; cases r2
      have hg' : (if 0 < j then some (D.int (i % j)) else none) = some d := hg
      split at hg'
      · rename_i hc
        cases hg'; exact rU_of op_mod ⟨i, j, rfl, rfl, hc, fin_plain zh bx (.int _) rfl q⟩
      · cases hg'
    | _ => cases hg
  | _ => cases hg
theorem o_lt : Op2 C (compareOp .Lt) ltD := fun X hX S _ W Z H st x y dx dy d Q zh sz bx r1 r2 hg q => by
  cases dx with
  | int i => cases dy with
    | int j => cases r1; cases r2; cases hg; exact rU_of op_lt ⟨i, j, rfl, rfl, fin_plain zh bx (.bl _) rfl q⟩
    | _ => cases hg
  | _ => cases hg
theorem o_le : Op2 C (compareOp .LtE) leD := fun X hX S _ W Z H st x y dx dy d Q zh sz bx r1 r2 hg q => by
  cases dx with
  | int i => cases dy with
    | int j => cases r1; cases r2; cases hg; exact rU_of op_le ⟨i, j, rfl, rfl, fin_plain zh bx (.bl _) rfl q⟩
    | _ => cases hg
  | _ => cases hg
theorem o_gt : Op2 C (compareOp .Gt) gtD := fun X hX S _ W Z H st x y dx dy d Q zh sz bx r1 r2 hg q => by
  cases dx with
  | int i => cases dy with
    | int j => cases r1; cases r2; cases hg; exact rU_of op_gt ⟨i, j, rfl, rfl, fin_plain zh bx (.bl _) rfl q⟩
    | _ => cases hg
  | _ => cases hg
theorem o_ge : Op2 C (compareOp .GtE) geD := fun X hX S _ W Z H st x y dx dy d Q zh sz bx r1 r2 hg q => by
  cases dx with
  | int i => cases dy with
    | int j => cases r1; cases r2; cases hg; exact rU_of op_ge ⟨i, j, rfl, rfl, fin_plain zh bx (.bl _) rfl q⟩
    | _ => cases hg
  | _ => cases hg
theorem o_eq : Op2 C (compareOp .Eq) eqD := fun X hX S _ W Z H st x y dx dy d Q zh sz bx r1 r2 hg q => by
  unfold eqD at hg
  split at hg
  · rename_i hc
    cases hg
    exact rU_of (op_eqD (by have := hX.units; omega)) ⟨toPy dx, toPy dy, r1.dp (subOf zh) (SeqAt.canLay_of_shaped hc.1), r2.dp (subOf zh) (SeqAt.canLay_of_shaped hc.2), hc.1, hc.2, fin_plain zh bx (.bl _) rfl q⟩
  · cases hg
theorem o_ne : Op2 C (compareOp .NotEq) neD := fun X hX S _ W Z H st x y dx dy d Q zh sz bx r1 r2 hg q => by
  unfold neD at hg
  split at hg
  · rename_i hc
    cases hg
    exact rU_of (op_neD (by have := hX.units; omega)) ⟨toPy dx, toPy dy, r1.dp (subOf zh) (SeqAt.canLay_of_shaped hc.1), r2.dp (subOf zh) (SeqAt.canLay_of_shaped hc.2), hc.1, hc.2, fin_plain zh bx (.bl _) rfl q⟩
  · cases hg
theorem any_toPys (p : PyData → Bool) : ∀ ys : List D, (toPys ys).any p = ys.any fun z => p (toPy z)
  | [] => rfl
  | y :: ys => by rw [toPys, List.any_cons, List.any_cons, any_toPys p ys]
def rInT (K : PySem.W.Frag) : R2 := fun x y H Q => ∃ d ds, Dp K H x d ∧ Dp K H y (.tuple ds) ∧ SeqAt.shaped d = true ∧ SeqAt.shaped (.tuple ds) = true ∧ Q (.bl (ds.any fun z => PyData.eqv z d)) H
def rNotInT (K : PySem.W.Frag) : R2 := fun x y H Q => ∃ d ds, Dp K H x d ∧ Dp K H y (.tuple ds) ∧ SeqAt.shaped d = true ∧ SeqAt.shaped (.tuple ds) = true ∧ Q (.bl (!ds.any fun z => PyData.eqv z d)) H
theorem room_inT {A : Around} {d : PyData} {n : Nat} (h : SeqAt.shaped d = true) (hu : A.units + 65 < cLine) : A.units + 1 + min n d.depth < cLine := by
  have h1 := SeqAt.depth_of_shaped h
  have h2 : min n d.depth ≤ d.depth := Nat.min_le_right _ _
  omega
theorem op_inT {X : Cx} (hu : X.A.units + 65 < cLine) : OpR X (compareOp .In) (rInT X.K) := by
  intro pins s σ H x y v u Q I rx ry h
  obtain ⟨d, ds, hd, he, sd, se, q⟩ := h
  obtain ⟨as, r1⟩ := Dp.reads I d x v hd rx
  obtain ⟨bs, r2⟩ := Dp.reads I (.tuple ds) y u he ry
  exact SeqAt.in_tuple_reads r2 r1 (by simpa [PyData.canLay0] using SeqAt.canLay_of_shaped se) (SeqAt.canLay_of_shaped sd) (room_inT sd hu) ⟨.bl _, H, I, rfl, q⟩
theorem op_notInT {X : Cx} (hu : X.A.units + 65 < cLine) : OpR X (compareOp .NotIn) (rNotInT X.K) := by
  intro pins s σ H x y v u Q I rx ry h
  obtain ⟨d, ds, hd, he, sd, se, q⟩ := h
  obtain ⟨as, r1⟩ := Dp.reads I d x v hd rx
  obtain ⟨bs, r2⟩ := Dp.reads I (.tuple ds) y u he ry
  exact SeqAt.notIn_tuple_reads r2 r1 (by simpa [PyData.canLay0] using SeqAt.canLay_of_shaped se) (SeqAt.canLay_of_shaped sd) (room_inT sd hu) ⟨.bl _, H, I, rfl, q⟩
theorem o_in : Op2 C (compareOp .In) inD := fun X hX S _ W Z H st x y dx dy d Q zh sz bx r1 r2 hg q => by
  cases dy with
  | lst ys =>
    unfold inD at hg
    simp only at hg
    split at hg
    · rename_i hc
      cases hg
      refine rU_of (op_inD hX.units) ⟨toPy dx, toPys ys, r1.dp (subOf zh) (SeqAt.canLay_of_shaped hc.1), r2.dp (subOf zh) (SeqAt.canLay_of_shaped hc.2), hc.1, hc.2, ?_⟩
      rw [any_toPys]
      exact fin_plain zh bx (.bl _) rfl q
    · cases hg
  | tup ys =>
    unfold inD at hg
    simp only at hg
    split at hg
    · rename_i hc
      cases hg
      refine rU_of (op_inT hX.units) ⟨toPy dx, toPys ys, r1.dp (subOf zh) (SeqAt.canLay_of_shaped hc.1), r2.dp (subOf zh) (SeqAt.canLay_of_shaped hc.2), hc.1, hc.2, ?_⟩
      rw [any_toPys]
      exact fin_plain zh bx (.bl _) rfl q
    · cases hg
  | _ => cases hg
theorem o_nin : Op2 C (compareOp .NotIn) ninD := fun X hX S _ W Z H st x y dx dy d Q zh sz bx r1 r2 hg q => by
  cases dy with
  | lst ys =>
    unfold ninD at hg
    simp only at hg
    split at hg
    · rename_i hc
      cases hg
      refine rU_of (op_notInD hX.units) ⟨toPy dx, toPys ys, r1.dp (subOf zh) (SeqAt.canLay_of_shaped hc.1), r2.dp (subOf zh) (SeqAt.canLay_of_shaped hc.2), hc.1, hc.2, ?_⟩
      rw [any_toPys]
      exact fin_plain zh bx (.bl _) rfl q
    · cases hg
  | tup ys =>
    unfold ninD at hg
    simp only at hg
    split at hg
    · rename_i hc
      cases hg
      refine rU_of (op_notInT hX.units) ⟨toPy dx, toPys ys, r1.dp (subOf zh) (SeqAt.canLay_of_shaped hc.1), r2.dp (subOf zh) (SeqAt.canLay_of_shaped hc.2), hc.1, hc.2, ?_⟩
      rw [any_toPys]
      exact fin_plain zh bx (.bl _) rfl q
    · cases hg
  | _ => cases hg
theorem Rep1.isNon {K : PySem.W.Frag} {β : Addr} {Z H : Hp} {d : D} {v : V} (r : Rep1 K β Z H d v) : decide (v = .non) = isNonD d := by
  cases d with
  | non => cases r; rfl
  | bl b => cases r; rfl
  | int i => cases r; rfl
  | str x => cases r; rfl
  | tup xs => cases r; rfl
  | lst xs => obtain ⟨a, vs, rfl, _⟩ := r; rfl
  | dct xs => obtain ⟨a, rfl, _⟩ := r; rfl
  | box => cases r; rfl
theorem o_is : Op2 C (compareOp .Is) isD := fun X hX S _ W Z H st x y dx dy d Q zh sz bx r1 r2 hg q => by
  cases dy with
  | non =>
    cases r2
    have e : d = .bl (isNonD dx) := by cases dx <;> exact (Option.some.inj hg).symm
    subst e
    exact rU_of op_isN ⟨rfl, by rw [r1.isNon]; exact fin_plain zh bx (.bl _) rfl q⟩
  | bl b =>
    cases dx with
    | bl a => cases r1; cases r2; cases hg; exact rU_of op_is_bl ⟨a, b, rfl, rfl, fin_plain zh bx (.bl _) rfl q⟩
    | _ => cases hg
  | _ => cases dx <;> cases hg
theorem o_isnt : Op2 C (compareOp .IsNot) isntD := fun X hX S _ W Z H st x y dx dy d Q zh sz bx r1 r2 hg q => by
  cases dy with
  | non =>
    cases r2
    have e : d = .bl (!isNonD dx) := by cases dx <;> exact (Option.some.inj hg).symm
    subst e
    exact rU_of op_notN ⟨rfl, by rw [r1.isNon]; exact fin_plain zh bx (.bl _) rfl q⟩
  | bl b =>
    cases dx with
    | bl a => cases r1; cases r2; cases hg; exact rU_of op_isnot_bl ⟨a, b, rfl, rfl, fin_plain zh bx (.bl _) rfl q⟩
    | _ => cases hg
  | _ => cases dx <;> cases hg
end

/-! ### calls of built-ins -/
section
variable {S : Type} [BoxS S] {C : Stat} {Γ : SCx} {e a b : Expr} {es : List Expr} {m ma mb : M S D} {md : Md} {pos p : Pos} {x : Str}
theorem ResL.views {K : PySem.W.Frag} {W : Wd} {H Z' H' : Hp} (zh : ∀ a o, Z' a = some o → H' a = some o ∧ ¬ W.bx a) : ∀ {mds : List Md} {ds : List D} {vs : List V}, ResL K W mds H Z' H' ds vs → ResL K W (ds.map fun _ => Md.V) H' Z' H' ds vs
  | [], [], [], _ => trivial
  | _ :: _, _ :: _, _ :: _, ⟨h, r⟩ => ⟨h.view zh, ResL.views zh r⟩
  | [], [], _ :: _, h => h.elim
  | [], _ :: _, _, h => h.elim
  | _ :: _, [], _, h => h.elim
  | _ :: _, _ :: _, [], h => h.elim
theorem Ok.bfun {id : String} {g : List D → Option D} {mds : List Md} {mr : M S (List D)} (ho : OpL C (.builtin id) g) (hv : bootBuiltins x = some (.builtin id)) (hg : C.sc.names.lookup x = some .globalImplicit) (hm : C.G.mg x = none) (ha : OkA mds C Γ (e :: es) mr)
    (hn : x ≠ "__name__" := by decide) (hdb : (x == ("__debug__" : Str)) = false := by decide) (hp : plainArg e = true := by rfl) (hes : ∀ env : Env, (backTo pos (starEach es env)).any (·.1) = false := by intro _; rfl) : Ok .N C Γ (.Call (.Name x p) (e :: es) [] pos) (bnd mr fun xs => lift (g xs)) := fun X hX W σ Z H st d st' Q r hm' q => by
  obtain ⟨xs, st1, h1, hm1⟩ := bnd_some hm'
  obtain ⟨hg', rfl⟩ := lift_some hm1
  refine tU_of (pe_callB crU (hX.glob hg) (hX.none hm) hv paU hn hdb (starEach_plain _ hp) (hes _)) ?_
  refine ha X hX W σ Z H st xs _ _ r h1 fun vs Z1 H1 s1 b1 r1 => ?_
  exact ho X hX W Z1 H1 _ vs xs d Q s1.zh (s1.sz r.sz) b1 (r1.views s1.zh) hg' fun v Z' H' s' b' r' => q v Z' H' (s1.trans s') b' (r'.back r.box b1 s1)
theorem Ok.tfun {T : String} {g : List D → Option D} {mds : List Md} {mr : M S (List D)} (ho : OpL C (.type T) g) (hv : bootBuiltins x = some (.type T)) (hg : C.sc.names.lookup x = some .globalImplicit) (hm : C.G.mg x = none) (ha : OkA mds C Γ (e :: es) mr)
    (hn : x ≠ "__name__" := by decide) (hdb : (x == ("__debug__" : Str)) = false := by decide) (hp : plainArg e = true := by rfl) (hes : ∀ env : Env, (backTo pos (starEach es env)).any (·.1) = false := by intro _; rfl) : Ok .N C Γ (.Call (.Name x p) (e :: es) [] pos) (bnd mr fun xs => lift (g xs)) := fun X hX W σ Z H st d st' Q r hm' q => by
  obtain ⟨xs, st1, h1, hm1⟩ := bnd_some hm'
  obtain ⟨hg', rfl⟩ := lift_some hm1
  refine tU_of (pe_callTy crU (hX.glob hg) (hX.none hm) hv paU hn hdb (starEach_plain _ hp) (hes _)) ?_
  refine ha X hX W σ Z H st xs _ _ r h1 fun vs Z1 H1 s1 b1 r1 => ?_
  exact ho X hX W Z1 H1 _ vs xs d Q s1.zh (s1.sz r.sz) b1 (r1.views s1.zh) hg' fun v Z' H' s' b' r' => q v Z' H' (s1.trans s') b' (r'.back r.box b1 s1)
end
section
variable {C : Stat}
theorem ResL.one {K : PySem.W.Frag} {W : Wd} {H Z' H' : Hp} {d : D} {vs : List V} (h : ResL K W ([d].map fun _ => Md.V) H Z' H' [d] vs) : ∃ v, vs = [v] ∧ Rep1 K W.β Z' H' d v := by
  match vs, h with
  | [v], h => exact ⟨v, rfl, h.1.1⟩
  | [], h => exact h.elim
  | _ :: _ :: _, h => exact h.2.elim
theorem ResL.two {K : PySem.W.Frag} {W : Wd} {H Z' H' : Hp} {d e : D} {vs : List V} (h : ResL K W ([d, e].map fun _ => Md.V) H Z' H' [d, e] vs) : ∃ v u, vs = [v, u] ∧ Rep1 K W.β Z' H' d v ∧ Rep1 K W.β Z' H' e u := by
  match vs, h with
  | [v, u], h => exact ⟨v, u, rfl, h.1.1, h.2.1.1⟩
  | [], h => exact h.elim
  | [_], h => exact h.2.elim
  | _ :: _ :: _ :: _, h => exact h.2.2.elim
def lenD : List D → Option D
  | [.tup xs] => some (.int xs.length)
  | [.lst xs] => some (.int xs.length)
  | [.str x] => if x.length ≤ sizeLine then some (.int x.length) else none
  | _ => none
theorem o_len : OpL C (.builtin "len") lenD := fun X hX S _ W Z H st xs dxs d Q zh sz bx r0 hg q => by
  match dxs, hg with
  | [.tup xs], hg =>
    cases hg
    obtain ⟨v, rfl, r⟩ := r0.one
    cases r with | tup h l => exact cU_of call_len ⟨_, _, rfl, .inr ⟨_, (subOf zh).sqT h, rfl⟩, by rw [← l.length]; exact fin_plain zh bx (.int _) rfl q⟩
  | [.lst xs], hg =>
    cases hg
    obtain ⟨v, rfl, r⟩ := r0.one
    obtain ⟨a, vs, rfl, h, l⟩ := r
    exact cU_of call_len ⟨_, _, rfl, .inl ⟨_, .inl (.inl h), rfl⟩, by rw [← l.length]; exact fin_plain zh bx (.int _) rfl q⟩
  | [.str x], hg =>
    have hg' : (if x.length ≤ sizeLine then some (D.int x.length) else none) = some d := hg
    split at hg'
    · cases hg'
      obtain ⟨v, rfl, r⟩ := r0.one
      cases r
      exact cU_of call_len ⟨_, _, rfl, ⟨by assumption, rfl⟩, fin_plain zh bx (.int _) rfl q⟩
    · cases hg'
def tupleD : List D → Option D
  | [.tup xs] => some (.tup xs)
  | [.lst xs] => some (.tup xs)
  | _ => none
theorem o_tuple : OpL C (.type "tuple") tupleD := fun X hX S _ W Z H st xs dxs d Q zh sz bx r0 hg q => by
  match dxs, hg with
  | [.tup xs], hg =>
    cases hg
    obtain ⟨v, rfl, r⟩ := r0.one
    cases r with | tup h l => exact cU_of call_tuple_of ⟨_, _, rfl, .inr ⟨(subOf zh).sqT h, fin_plain zh bx (.tup h l) rfl q⟩⟩
  | [.lst xs], hg =>
    cases hg
    obtain ⟨v, rfl, r⟩ := r0.one
    obtain ⟨a, vs, rfl, h, l⟩ := r
    exact cU_of call_tuple_of ⟨_, _, rfl, .inl ⟨.inl (.inl h), fun p hp => fin_tup zh bx hp l (sz.lst h) q⟩⟩
def listD : List D → Option D
  | [.tup xs] => some (.lst xs)
  | [.lst xs] => some (.lst xs)
  | _ => none
theorem o_list : OpL C (.type "list") listD := fun X hX S _ W Z H st xs dxs d Q zh sz bx r0 hg q => by
  match dxs, hg with
  | [.tup xs], hg =>
    cases hg
    obtain ⟨v, rfl, r⟩ := r0.one
    cases r with | tup h l => exact cU_of call_list_of ⟨_, _, rfl, .inr ((subOf zh).sqT h), fun p hp => fin_lst zh bx hp l (sz.tup ((subOf zh).tupAt h)) q⟩
  | [.lst xs], hg =>
    cases hg
    obtain ⟨v, rfl, r⟩ := r0.one
    obtain ⟨a, vs, rfl, h, l⟩ := r
    exact cU_of call_list_of ⟨_, _, rfl, .inl (.inl (.inl h)), fun p hp => fin_lst zh bx hp l (sz.lst h) q⟩
def intD : List D → Option D
  | [.int i] => some (.int i)
  | [.bl b] => some (.int (if b then 1 else 0))
  | _ => none
theorem o_int : OpL C (.type "int") intD := fun X hX S _ W Z H st xs dxs d Q zh sz bx r0 hg q => by
  match dxs, hg with
  | [.int i], hg =>
    cases hg
    obtain ⟨v, rfl, r⟩ := r0.one
    cases r
    exact cU_of call_int1 (.inl ⟨i, rfl, fin_plain zh bx (.int _) rfl q⟩)
  | [.bl b], hg =>
    cases hg
    obtain ⟨v, rfl, r⟩ := r0.one
    cases r
    exact cU_of call_int1 (.inr ⟨b, rfl, fin_plain zh bx (.int _) rfl q⟩)
def absD : List D → Option D
  | [.int i] => some (.int (if i < 0 then -i else i))
  | _ => none
theorem o_abs : OpL C (.builtin "abs") absD := fun X hX S _ W Z H st xs dxs d Q zh sz bx r0 hg q => by
  match dxs, hg with
  | [.int i], hg =>
    cases hg
    obtain ⟨v, rfl, r⟩ := r0.one
    cases r
    exact cU_of call_abs ⟨i, rfl, fin_plain zh bx (.int _) rfl q⟩
/-- the ints, the bools of a list -/
def asInts : List D → Option (List Int)
  | [] => some []
  | .int i :: ds => (asInts ds).map fun is => i :: is
  | _ :: _ => none
def asBls : List D → Option (List Bool)
  | [] => some []
  | .bl i :: ds => (asBls ds).map fun is => i :: is
  | _ :: _ => none
theorem asInts_rep {K : PySem.W.Frag} {β : Addr} {Z : Hp} : ∀ {ds : List D} {vs : List V} {is : List Int}, RepL K β Z ds vs → asInts ds = some is → vs = is.map V.int
  | _, _, is, .nil, h => by cases h; rfl
  | d :: ds, v :: vs, is, .cons r rs, h => by
    cases d with
    | int i =>
      cases r
      cases e : asInts ds with
      | none => simp [asInts, e] at h
      | some js =>
        simp only [asInts, e, Option.map_some, Option.some.injEq] at h
        subst h
        rw [asInts_rep rs e]; rfl
    | _ => cases h
theorem asBls_rep {K : PySem.W.Frag} {β : Addr} {Z : Hp} : ∀ {ds : List D} {vs : List V} {is : List Bool}, RepL K β Z ds vs → asBls ds = some is → vs = is.map V.bl
  | _, _, is, .nil, h => by cases h; rfl
  | d :: ds, v :: vs, is, .cons r rs, h => by
    cases d with
    | bl i =>
      cases r
      cases e : asBls ds with
      | none => simp [asBls, e] at h
      | some js =>
        simp only [asBls, e, Option.map_some, Option.some.injEq] at h
        subst h
        rw [asBls_rep rs e]; rfl
    | _ => cases h
def allD : List D → Option D
  | [.lst xs] => (asBls xs).map fun bs => .bl (bs.all id)
  | _ => none
def anyD : List D → Option D
  | [.lst xs] => (asBls xs).map fun bs => .bl (bs.any id)
  | _ => none
theorem o_all : OpL C (.builtin "all") allD := fun X hX S _ W Z H st xs dxs d Q zh sz bx r0 hg q => by
  match dxs, hg with
  | [.lst xs], hg =>
    obtain ⟨v, rfl, r⟩ := r0.one
    obtain ⟨a, vs, rfl, h, l⟩ := r
    obtain ⟨bs, e, rfl⟩ := Option.map_eq_some_iff.mp hg
    have ev := asBls_rep l e
    subst ev
    exact cU_of (cr_all hX.calm) ⟨a, bs, rfl, .inl (.inl h), fin_plain zh bx (.bl _) rfl q⟩
theorem o_any : OpL C (.builtin "any") anyD := fun X hX S _ W Z H st xs dxs d Q zh sz bx r0 hg q => by
  match dxs, hg with
  | [.lst xs], hg =>
    obtain ⟨v, rfl, r⟩ := r0.one
    obtain ⟨a, vs, rfl, h, l⟩ := r
    obtain ⟨bs, e, rfl⟩ := Option.map_eq_some_iff.mp hg
    have ev := asBls_rep l e
    subst ev
    exact cU_of (cr_any hX.calm) ⟨a, bs, rfl, .inl (.inl h), fin_plain zh bx (.bl _) rfl q⟩
def maxI : List Int → Option Int
  | [] => none
  | i :: is => some (is.foldl (fun a b => if a < b then b else a) i)
def minI : List Int → Option Int
  | [] => none
  | i :: is => some (is.foldl (fun a b => if b < a then b else a) i)
theorem maxI_uniq {ns : List Int} {m n : Int} (h : maxI ns = some n) (hm : m ∈ ns) (hb : ∀ y ∈ ns, y ≤ m) : m = n := by
  cases ns with
  | nil => cases h
  | cons i is =>
    have g : ∀ (is : List Int) (i : Int), (is.foldl (fun a b => if a < b then b else a) i) ∈ i :: is ∧ ∀ y ∈ i :: is, y ≤ is.foldl (fun a b => if a < b then b else a) i := by
      intro is
      induction is with
      | nil => intro i; exact ⟨by simp, fun y hy => by simp at hy; subst hy; exact Int.le_refl _⟩
      | cons j js ih =>
        intro i
        rw [List.foldl_cons]
        obtain ⟨h1, h2⟩ := ih (if i < j then j else i)
        constructor
        · rcases List.mem_cons.mp h1 with e | e
          · rw [e]; split <;> simp
          · exact List.mem_cons_of_mem _ (List.mem_cons_of_mem _ e)
        · intro y hy
          have h3 := h2 (if i < j then j else i) List.mem_cons_self
          have h4 : i ≤ (if i < j then j else i) ∧ j ≤ (if i < j then j else i) := by split <;> omega
          rcases List.mem_cons.mp hy with e | hy
          · rw [e]; exact Int.le_trans h4.1 h3
          · rcases List.mem_cons.mp hy with e | hy
            · rw [e]; exact Int.le_trans h4.2 h3
            · exact h2 y (List.mem_cons_of_mem _ hy)
    obtain ⟨h1, h2⟩ := g is i
    have e : is.foldl (fun a b => if a < b then b else a) i = n := Option.some.inj h
    rw [e] at h1 h2
    have a1 := h2 m hm
    have a2 := hb n h1
    omega
theorem minI_uniq {ns : List Int} {m n : Int} (h : minI ns = some n) (hm : m ∈ ns) (hb : ∀ y ∈ ns, m ≤ y) : m = n := by
  cases ns with
  | nil => cases h
  | cons i is =>
    have g : ∀ (is : List Int) (i : Int), (is.foldl (fun a b => if b < a then b else a) i) ∈ i :: is ∧ ∀ y ∈ i :: is, is.foldl (fun a b => if b < a then b else a) i ≤ y := by
      intro is
      induction is with
      | nil => intro i; exact ⟨by simp, fun y hy => by simp at hy; subst hy; exact Int.le_refl _⟩
      | cons j js ih =>
        intro i
        rw [List.foldl_cons]
        obtain ⟨h1, h2⟩ := ih (if j < i then j else i)
        constructor
        · rcases List.mem_cons.mp h1 with e | e
          · rw [e]; split <;> simp
          · exact List.mem_cons_of_mem _ (List.mem_cons_of_mem _ e)
        · intro y hy
          have h3 := h2 (if j < i then j else i) List.mem_cons_self
          have h4 : (if j < i then j else i) ≤ i ∧ (if j < i then j else i) ≤ j := by split <;> omega
          rcases List.mem_cons.mp hy with e | hy
          · rw [e]; exact Int.le_trans h3 h4.1
          · rcases List.mem_cons.mp hy with e | hy
            · rw [e]; exact Int.le_trans h3 h4.2
            · exact h2 y (List.mem_cons_of_mem _ hy)
    obtain ⟨h1, h2⟩ := g is i
    have e : is.foldl (fun a b => if b < a then b else a) i = n := Option.some.inj h
    rw [e] at h1 h2
    have a1 := h2 m hm
    have a2 := hb n h1
    omega
def maxD : List D → Option D
  | [.lst xs] => ((asInts xs).bind maxI).map .int
  | [.int i, .int j] => some (.int (if j > i then j else i))
  | _ => none
def minD : List D → Option D
  | [.lst xs] => ((asInts xs).bind minI).map .int
  | [.int i, .int j] => some (.int (if j < i then j else i))
  | _ => none
def sumD : List D → Option D
  | [.lst xs] => (asInts xs).map fun is => .int is.sum
  | _ => none
theorem o_max : OpL C (.builtin "max") maxD := fun X hX S _ W Z H st xs dxs d Q zh sz bx r0 hg q => by
  match dxs, hg with
  | [.lst xs], hg =>
    obtain ⟨v, rfl, r⟩ := r0.one
    obtain ⟨a, vs, rfl, h, l⟩ := r
    obtain ⟨n, e, rfl⟩ := Option.map_eq_some_iff.mp hg
    obtain ⟨ns, e1, e2⟩ := Option.bind_eq_some_iff.mp e
    have ev := asInts_rep l e1
    subst ev
    refine cU_of (cr_max hX.calm) ⟨a, ns, rfl, .inl (.inl h), ?_, fun m hm hb => ?_⟩
    · cases ns with
      | nil => cases e2
      | cons _ _ => simp
    · rw [maxI_uniq e2 hm hb]; exact fin_plain zh bx (.int _) rfl q
  | [.int i, .int j], hg =>
    cases hg
    obtain ⟨v, u, rfl, r, r'⟩ := r0.two
    cases r; cases r'
    exact cU_of (call_max2 hX.calm) ⟨i, j, rfl, fin_plain zh bx (.int _) rfl q⟩
theorem o_min : OpL C (.builtin "min") minD := fun X hX S _ W Z H st xs dxs d Q zh sz bx r0 hg q => by
  match dxs, hg with
  | [.lst xs], hg =>
    obtain ⟨v, rfl, r⟩ := r0.one
    obtain ⟨a, vs, rfl, h, l⟩ := r
    obtain ⟨n, e, rfl⟩ := Option.map_eq_some_iff.mp hg
    obtain ⟨ns, e1, e2⟩ := Option.bind_eq_some_iff.mp e
    have ev := asInts_rep l e1
    subst ev
    refine cU_of (cr_min hX.calm) ⟨a, ns, rfl, .inl (.inl h), ?_, fun m hm hb => ?_⟩
    · cases ns with
      | nil => cases e2
      | cons _ _ => simp
    · rw [minI_uniq e2 hm hb]; exact fin_plain zh bx (.int _) rfl q
  | [.int i, .int j], hg =>
    cases hg
    obtain ⟨v, u, rfl, r, r'⟩ := r0.two
    cases r; cases r'
    exact cU_of (call_min2 hX.calm) ⟨i, j, rfl, fin_plain zh bx (.int _) rfl q⟩
theorem o_sum : OpL C (.builtin "sum") sumD := fun X hX S _ W Z H st xs dxs d Q zh sz bx r0 hg q => by
  match dxs, hg with
  | [.lst xs], hg =>
    obtain ⟨v, rfl, r⟩ := r0.one
    obtain ⟨a, vs, rfl, h, l⟩ := r
    obtain ⟨ns, e1, rfl⟩ := Option.map_eq_some_iff.mp hg
    have ev := asInts_rep l e1
    subst ev
    exact cU_of (cr_sum hX.calm) ⟨a, ns, rfl, .inl (.inl h), fin_plain zh bx (.int _) rfl q⟩
/-! ### isinstance -/
def tyName : D → Option String
  | .non => some "NoneType"
  | .bl _ => some "bool"
  | .int _ => some "int"
  | .str _ => some "str"
  | .tup _ => some "tuple"
  | .lst _ => some "list"
  | .dct _ => some "dict"
  | .box => none
theorem tyX_of {K : PySem.W.Frag} {β : Addr} {Z H : Hp} {d : D} {v : V} {n : String} (s : Sub Z H) (r : Rep1 K β Z H d v) (h : tyName d = some n) : TyX K H v (.type n) := by
  cases d with
  | non => cases h; cases r; exact .base .non
  | bl b => cases h; cases r; exact .base (.bl b)
  | int i => cases h; cases r; exact .base (.int i)
  | str x => cases h; cases r; exact .base (.str x)
  | tup xs =>
    cases h
    cases r with
    | tup hq l =>
      rcases hq with hq | ⟨o, its, n, hk, hc, _⟩
      · exact .base (.tup (s _ _ hq))
      · exact .kTuple hk hc
  | lst xs => cases h; obtain ⟨a, vs, rfl, hq, l⟩ := r; exact .base (.lst hq)
  | dct xs =>
    cases h
    obtain ⟨a, rfl, ⟨kvs, hq, l⟩ | ⟨kvs, hq, l⟩⟩ := r
    · exact .base (.dK hq)
    · exact .base (.dT hq)
  | box => cases h
end
section
variable {S : Type} [BoxS S] {C : Stat} {Γ : SCx} {e a b : Expr} {es : List Expr} {m ma mb : M S D} {md : Md} {pos p p2 : Pos} {x : Str}
def isiD (T : String) (d : D) : Option D := (tyName d).bind fun n => (kitB n T).map .bl
theorem Ok.isinst {T : String} {y : Str} (ha : Ok .V C Γ a ma) (hg : C.sc.names.lookup ("isinstance" : Str) = some .globalImplicit) (hm : C.G.mg "isinstance" = none) (hgT : C.sc.names.lookup y = some .globalImplicit) (hmT : C.G.mg y = none)
    (hvT : bootBuiltins y = some (.type T)) (hn : y ≠ "__name__" := by decide) (hdb : (y == ("__debug__" : Str)) = false := by decide) (hp : plainArg a = true := by rfl) (hvI : bootBuiltins "isinstance" = some (.builtin "isinstance") := by decide +kernel) :
    Ok .E C Γ (.Call (.Name "isinstance" p) [a, .Name y p2] [] pos) (bnd ma fun x => lift (isiD T x)) := fun X hX W σ Z H st d st' Q r hm' q => by
  obtain ⟨x, st1, h1, hm1⟩ := bnd_some hm'
  obtain ⟨hg', rfl⟩ := lift_some hm1
  obtain ⟨n, hn', hb'⟩ := Option.bind_eq_some_iff.mp hg'
  obtain ⟨b, hk, rfl⟩ := Option.map_eq_some_iff.mp hb'
  refine tU_of (pe_callB call_isi (hX.glob hg) (hX.none hm) hvI (pa_cons peU (pa_cons (pe_bltn (v := .ty T) (hX.glob hgT) (hX.none hmT) hvT rfl hn hdb) pa_nil) (starEach_plain _ hp)) (by decide) (by decide) (starEach_plain _ hp)) ?_
  refine ha X hX W σ Z H st x _ _ r h1 fun v Z1 H1 s1 b1 r1 => ?_
  exact ⟨v, .ty T, .type n, .type T, b, rfl, .ty T, tyX_of s1.sub r1.1 hn', kit_ty hk, q _ Z1 H1 s1 b1 (.bl b)⟩
end
end Sn

namespace Sn
open PySem PySem.Spec PyProof.Rows L2

/-! ### subscripts, slices -/
theorem atI_rep {K : PySem.W.Frag} {β : Addr} {Z : Hp} {ds : List D} {vs : List V} {i : Int} {d : D} (r : RepL K β Z ds vs) (h : atI ds i = some d) : ∃ v, atI vs i = some v ∧ Rep K β Z d v := by
  unfold atI at h ⊢
  rw [← r.length]
  cases e : ixN ds.length i with
  | none => rw [e] at h; cases h
  | some j =>
    rw [e] at h
    obtain ⟨v, h1, h2⟩ := r.get (show ds[j]? = some d from h)
    exact ⟨v, h1, h2⟩
def ixD (d k : D) : Option D :=
  match d, k with
  | .tup xs, .int i => atI xs i
  | .lst xs, .int i => atI xs i
  | .str z, .int i => if z.length ≤ sizeLine then (atI z.cps.toList i).map fun c => .str ⟨#[c]⟩ else none
  | _, _ => none
def cutL {α : Type} (xs : List α) (lo hi : Option Int) : List α := (xs.drop (HT.sIx xs.length 0 lo)).take (HT.sIx xs.length xs.length hi - HT.sIx xs.length 0 lo)
theorem cutL_rep {K : PySem.W.Frag} {β : Addr} {Z : Hp} {ds : List D} {vs : List V} (r : RepL K β Z ds vs) (lo hi : Option Int) : RepL K β Z (cutL ds lo hi) (cutV vs lo hi) := by
  unfold cutL cutV
  rw [r.length]
  exact (r.drop _).take _
def slD (d : D) (lo hi : Option Int) : Option D :=
  match d with
  | .tup xs => some (.tup (cutL xs lo hi))
  | .lst xs => some (.lst (cutL xs lo hi))
  | _ => none
section
variable {S : Type} [BoxS S] {C : Stat} {Γ : SCx} {e a b : Expr} {es : List Expr} {m ma mb : M S D} {md : Md} {pos p p2 : Pos} {x : Str}
theorem Ok.ix (ha : Ok .V C Γ a ma) (hb : Ok .V C Γ b mb) (hs : PlainIx b := by exact fun _ _ => rfl) : Ok .E C Γ (.Subscript a b pos) (bnd ma fun x => bnd mb fun y => lift (ixD x y)) := fun X hX W σ Z H st d st' Q r hm q => by
  obtain ⟨x, st1, h1, hm1⟩ := bnd_some hm
  obtain ⟨y, st2, h2, hm2⟩ := bnd_some hm1
  obtain ⟨hg, rfl⟩ := lift_some hm2
  have hr := ((ix_list (X := X)).or ix_tup).or ix_str
  refine tU_of (pe_ix hr peU peU hs) (Ok.two ha hb hX r h1 h2 fun vx vy Z2 H2 s2 b2 r1 r2 => ?_)
  cases y with
  | int i =>
    cases r2.1
    cases x with
    | tup xs =>
      cases r1.1 with | tup hq l =>
        obtain ⟨v, e1, e2⟩ := atI_rep l (show atI xs i = some d from hg)
        exact .inl (.inr ⟨_, _, i, v, rfl, rfl, s2.sub.sqT hq, e1, q v Z2 H2 s2 b2 e2⟩)
    | lst xs =>
      obtain ⟨a, vs, rfl, hq, l⟩ := r1.1
      obtain ⟨v, e1, e2⟩ := atI_rep l (show atI xs i = some d from hg)
      exact .inl (.inl ⟨a, vs, i, v, rfl, rfl, .inl (.inl hq), e1, q v Z2 H2 s2 b2 e2⟩)
    | str z =>
      have hg' : (if z.length ≤ sizeLine then (atI z.cps.toList i).map fun c => D.str ⟨#[c]⟩ else none) = some d := hg
      split at hg'
      · obtain ⟨c, e1, rfl⟩ := Option.map_eq_some_iff.mp hg'
        cases r1.1
        exact .inr ⟨z, i, c, rfl, rfl, by assumption, e1, q _ Z2 H2 s2 b2 (.str _)⟩
      · cases hg'
    | _ => cases hg
  | _ => cases x <;> cases hg
def OkO {S : Type} [BoxS S] (C : Stat) (Γ : SCx) (oe : Option Expr) (m : M S (Option Int)) : Prop :=
  ∀ X, CtxP C X → ∀ (W : Wd) (σ : L2.St) (Z H : Hp) (st : S) (d : Option Int) (st' : S) (Q : Option Int → Hp → Prop), SR X.K W Γ σ Z H st → m st = some (d, st') →
    (∀ Z' H', Stp W Z H Z' H' → BoxS.R st' W.β W.γ H' → Q d H') → ∃ t, PO X oe t ∧ t σ H Q
theorem OkO.none : OkO (S := S) C Γ none (ret none) := fun X hX W σ Z H st d st' Q r hm q => by
  obtain ⟨rfl, rfl⟩ := ret_some hm
  exact ⟨_, po_none, q Z H r.refl r.box⟩
def asI {S : Type} : D → M S Int
  | .int i => ret i
  | _ => stuck
theorem asI_some {S : Type} {d : D} {s s' : S} {b : Int} (h : asI d s = some (b, s')) : d = .int b ∧ s' = s := by
  cases d with
  | int c => obtain ⟨rfl, rfl⟩ := ret_some h; exact ⟨rfl, rfl⟩
  | _ => exact (stuck_some (S := S) (α := Int) (s := s) h).elim
theorem OkO.some (ha : Ok .V C Γ a ma) : OkO C Γ (some a) (bnd (bnd ma asI) fun i => ret (some i)) := fun X hX W σ Z H st d st' Q r hm q => by
  obtain ⟨i, st1, h1, hm1⟩ := bnd_some hm
  obtain ⟨x, st2, h2, h3⟩ := bnd_some h1
  obtain ⟨rfl, rfl⟩ := asI_some h3
  obtain ⟨rfl, rfl⟩ := ret_some hm1
  refine ⟨_, po_some peU, ha X hX W σ Z H st _ _ _ r h2 fun v Z1 H1 s1 b1 r1 => ?_⟩
  cases r1.1
  exact ⟨i, rfl, q Z1 H1 s1 b1⟩
theorem Ok.sl {lo hi : Option Expr} {ml mh : M S (Option Int)} (ha : Ok .V C Γ a ma) (hl : OkO C Γ lo ml) (hh : OkO C Γ hi mh) : Ok .N C Γ (.Subscript a (.Slice lo hi none p2) pos) (bnd ma fun x => bnd ml fun i => bnd mh fun j => lift (slD x i j)) := fun X hX W σ Z H st d st' Q r hm q => by
  obtain ⟨x, st1, h1, hm1⟩ := bnd_some hm
  obtain ⟨i, st2, h2, hm2⟩ := bnd_some hm1
  obtain ⟨j, st3, h3, hm3⟩ := bnd_some hm2
  obtain ⟨hg, rfl⟩ := lift_some hm3
  have hr := (sl_tupA (X := X)).or sl_list
  -- the parts' readings, for any end
  let tl : TO := fun σ H Q => ∀ (pins : List (Addr × Obj)) (s : Shared), Inv X pins σ H s → wpAny (model X.prog X.w) X.A (evalPart lo X.env) (fun u s' => ∃ o H', Inv X pins σ H' s' ∧ IsPart u o ∧ Q o H') X.xe s
  let th : TO := fun σ H Q => ∀ (pins : List (Addr × Obj)) (s : Shared), Inv X pins σ H s → wpAny (model X.prog X.w) X.A (evalPart hi X.env) (fun u s' => ∃ o H', Inv X pins σ H' s' ∧ IsPart u o ∧ Q o H') X.xe s
  have pl : PO X lo tl := ⟨fun pins s σ H Q I h => h pins s I⟩
  have ph : PO X hi th := ⟨fun pins s σ H Q I h => h pins s I⟩
  refine tU_of (pe_slice hr peU pl ph) ?_
  refine ha X hX W σ Z H st x st1 _ r h1 fun vx Z1 H1 s1 b1 r1 => ?_
  intro pins1 sh1 I1
  obtain ⟨t1, p1, q1⟩ := hl X hX W σ Z1 H1 st1 i st2 (fun o H2 => th σ H2 fun o2 H3 => (rSlA X.K vx o o2 H3 Q ∨ rSlL X.K vx o o2 H3 Q)) (r.step s1 b1) h2 fun Z2 H2 s2 b2 => by
    intro pins2 sh2 I2
    obtain ⟨t2, p2, q2⟩ := hh X hX W σ Z2 H2 st2 j _ (fun o2 H3 => (rSlA X.K vx i o2 H3 Q ∨ rSlL X.K vx i o2 H3 Q)) ((r.step s1 b1).step s2 b2) h3 fun Z3 H3 s3 b3 => by
      have s13 := (s1.trans s2).trans s3
      have r3 : Res X.K W .V H Z3 H3 x vx := (r1.stp s2).stp s3
      have q' : ∀ v Z' H', Stp W Z3 H3 Z' H' → BoxS.R _ W.β W.γ H' → Res X.K W .N H3 Z' H' d v → Q v H' := fun v Z' H' s' b' r' => q v Z' H' (s13.trans s') b' (r'.back r.box b3 s13)
      cases x with
      | tup xs =>
        cases hg
        cases r3.1 with | tup hq l =>
          refine .inl ⟨_, _, rfl, s13.sub.sqT hq, fun hw => ?_, fun hw p hp => fin_tup s13.zh b3 hp (cutL_rep l i j) (Nat.le_trans (cutV_length _ _ _) ((s13.sz r.sz).tup (s13.sub.tupAt hq))) q'⟩
          refine fin_plain s13.zh b3 (.tup hq ?_) rfl q'
          have e : cutL xs i j = xs := by
            unfold cutL
            rw [← l.length] at hw
            rw [hw.1, hw.2]; simp
          rw [e]; exact l
      | lst xs =>
        cases hg
        obtain ⟨a, vs, rfl, hq, l⟩ := r3.1
        exact .inr ⟨a, vs, rfl, .inl (.inl hq), fun p hp => fin_lst s13.zh b3 hp (cutL_rep l i j) (Nat.le_trans (cutV_length _ _ _) ((s13.sz r.sz).lst hq)) q'⟩
      | _ => cases hg
    exact p2.run pins2 sh2 σ H2 _ I2 q2
  exact p1.run pins1 sh1 σ H1 _ I1 q1
end

/-! ### what is walked -/
def iterD : D → Option (List D)
  | .tup xs => some xs
  | .lst xs => some xs
  | _ => none
def iterM {S : Type} (d : D) : M S (List D) := fun s => (iterD d).map fun xs => (xs, s)
theorem iterM_some {S : Type} {d : D} {s s' : S} {xs : List D} (h : iterM d s = some (xs, s')) : iterD d = some xs ∧ s' = s := by
  unfold iterM at h
  cases e : iterD d with
  | none => rw [e] at h; cases h
  | some x => rw [e] at h; simp only [Option.map_some, Option.some.injEq, Prod.mk.injEq] at h; exact ⟨by rw [h.1], h.2.symm⟩
section
variable {S : Type} [BoxS S] {C : Stat} {Γ : SCx} {e a b tg : Expr} {es : List Expr} {m ma mb : M S D} {md : Md} {pos p p2 : Pos} {x : Str}
theorem yld_lst {X : Cx} {W : Wd} {Z H : Hp} {a : Addr} {vs : List V} {ds : List D} (nb : ¬ W.bx a) (h : H a = some (.lst vs)) (l : RepL X.K W.β Z ds vs) : Yld X.K W (Itl X.K a) ds (fun b => b = a) Z H := by
  refine ⟨fun b e => by subst e; exact ⟨⟨_, h⟩, nb⟩, fun i Z2 H2 st sz zh ka _ bx => ⟨fun hi => ?_, fun d hd => ?_⟩⟩
  · exact ⟨vs, .inl (.inl (ka a _ rfl h)), by rw [← l.length]; exact hi⟩
  · obtain ⟨v, h1, h2⟩ := l.get hd
    refine ⟨⟨vs, v, .inl (.inl (ka a _ rfl h)), h1⟩, fun x H3 y => ?_⟩
    obtain ⟨rfl, y⟩ := y
    have e := y vs (.inl (.inl (ka a _ rfl h)))
    rw [h1] at e; cases e
    exact ⟨Z2, Stp.refl zh, bx, h2.mono sz⟩
theorem yld_tup {X : Cx} {W : Wd} {Z H : Hp} {a : Addr} {vs : List V} {ds : List D} (h : TupAt X.K Z a vs) (l : RepL X.K W.β Z ds vs) : Yld X.K W (Itt X.K a) ds (fun _ => False) Z H := by
  refine ⟨fun b e => e.elim, fun i Z2 H2 st sz zh ka _ bx => ?_⟩
  have h2 : SqT X.K H2 a vs := (subOf zh).sqT (sz.tupAt h)
  refine ⟨fun hi => ⟨vs, h2, by rw [← l.length]; exact hi⟩, fun d hd => ?_⟩
  obtain ⟨v, h1, hr⟩ := l.get hd
  refine ⟨⟨vs, v, h2, h1⟩, fun x H3 y => ?_⟩
  obtain ⟨rfl, y⟩ := y
  have e := y vs h2
  rw [h1] at e; cases e
  exact ⟨Z2, Stp.refl zh, bx, hr.mono sz⟩
theorem OkI.val {bb : Bool} (ha : Ok md C Γ a ma) (hmd : md = .V → bb = false) : OkI bb C Γ tg a (bnd ma iterM) := fun X hX W σ Z H st xs st' R r hm q => by
  obtain ⟨d, st1, h1, hm1⟩ := bnd_some hm
  obtain ⟨hi, rfl⟩ := iterM_some hm1
  cases d with
  | tup ds =>
    cases hi
    refine tUI_of (pi_tup peU) (ha X hX W σ Z H st _ _ _ r h1 fun v Z1 H1 s1 b1 r1 => ?_)
    have r2 := r1.view s1.zh
    cases r2.1 with | tup hq l =>
      exact ⟨_, rfl, ⟨_, s1.sub.sqT hq⟩, q _ _ Z1 H1 s1 b1 (yld_tup hq l) fun _ _ h => h.elim⟩
  | lst ds =>
    cases hi
    refine tUI_of (pi_list peU) (ha X hX W σ Z H st _ _ _ r h1 fun v Z1 H1 s1 b1 r1 => ?_)
    have r2 := r1.view s1.zh
    obtain ⟨p, vs, rfl, hq, l⟩ := r2.1
    refine ⟨p, rfl, ⟨vs, .inl (.inl hq)⟩, q _ _ Z1 H1 s1 b1 (yld_lst (r2.2 p rfl rfl) hq l) fun hb a ea => ?_⟩
    subst ea
    cases md with
    | V => rw [hmd rfl] at hb; cases hb
    | E =>
      cases r1 with | lst hz _ =>
        refine ⟨fun ho => ?_, .inl (by rw [hz]; exact fun e => nomatch e)⟩
        obtain ⟨i, d', g1, g2⟩ := ho
        obtain ⟨b', e', zb, _, _, _⟩ := (r.step s1 b1).own i d' g1
        rw [g2] at e'; cases e'
        rw [zb] at hz; cases hz
    | N =>
      obtain ⟨f1, _, _⟩ := r1.2 a rfl rfl
      refine ⟨fun ho => ?_, .inr f1⟩
      obtain ⟨o, ho'⟩ := r.ownThere ho
      rw [f1] at ho'; cases ho'
  | _ => cases hi
def rng (lo hi : Int) : List D := (List.range (hi - lo).toNat).map fun k : Nat => .int (lo + (k : Int))
theorem yld_rng {K : PySem.W.Frag} {W : Wd} {Z H : Hp} {lo hi : Int} : Yld K W (Itr lo (hi - lo).toNat) (rng lo hi) (fun _ => False) Z H := by
  refine ⟨fun b e => e.elim, fun i Z2 H2 st sz zh ka _ bx => ⟨fun h => ?_, fun d hd => ?_⟩⟩
  · unfold rng at h
    rw [List.length_map, List.length_range] at h
    exact h
  · unfold rng at hd
    rw [List.getElem?_map] at hd
    by_cases hlt : i < (hi - lo).toNat
    · rw [List.getElem?_range hlt] at hd
      cases hd
      refine ⟨hlt, fun x H3 y => ?_⟩
      obtain ⟨rfl, rfl⟩ := y
      exact ⟨Z2, Stp.refl zh, bx, .int _⟩
    · rw [List.getElem?_eq_none (by simpa using hlt)] at hd; cases hd
/-- range(..) -/
def rngM {S : Type} : List D → M S (List D)
  | [.int j] => if -(2 ^ 62) ≤ j ∧ j < 2 ^ 62 then ret (rng 0 j) else stuck
  | [.int i, .int j] => if -(2 ^ 62) ≤ i ∧ i < 2 ^ 62 ∧ -(2 ^ 62) ≤ j ∧ j < 2 ^ 62 then ret (rng i j) else stuck
  | _ => stuck
theorem OkI.range1 {bb : Bool} (ha : Ok .V C Γ a ma) (hg : C.sc.names.lookup ("range" : Str) = some .globalImplicit) (hm : C.G.mg "range" = none) (hp : plainArg a = true := by rfl) : OkI bb C Γ tg (.Call (.Name "range" p) [a] [] pos) (bnd ma fun x => rngM [x]) := fun X hX W σ Z H st xs st' R r hm' q => by
  obtain ⟨d, st1, h1, hm1⟩ := bnd_some hm'
  cases d with
  | int j =>
    have hm2 : (if -(2 ^ 62) ≤ j ∧ j < 2 ^ 62 then ret (rng 0 j) else stuck : M S (List D)) st1 = some (xs, st') := hm1
    split at hm2
    · rename_i hc
      obtain ⟨rfl, rfl⟩ := ret_some hm2
      refine tUI_of (pi_range1 (hX.glob hg) (hX.none hm) (pa_cons peU pa_nil (starEach_plain _ hp)) (starEach_plain _ hp)) (ha X hX W σ Z H st _ _ _ r h1 fun v Z1 H1 s1 b1 r1 => ?_)
      cases r1.1
      refine ⟨j, rfl, hc.1, hc.2, ?_⟩
      have y := yld_rng (K := X.K) (W := W) (Z := Z1) (H := H1) (lo := 0) (hi := j)
      rw [show (j - 0).toNat = j.toNat by rw [Int.sub_zero]] at y
      exact q _ _ Z1 H1 s1 b1 y fun _ _ h => h.elim
    · exact (stuck_some hm2).elim
  | _ => exact (stuck_some (S := S) (α := List D) (s := st1) hm1).elim
theorem OkI.range2 {bb : Bool} (ha : Ok .V C Γ a ma) (hb : Ok .V C Γ b mb) (hg : C.sc.names.lookup ("range" : Str) = some .globalImplicit) (hm : C.G.mg "range" = none) (hp : plainArg a = true := by rfl) (hp2 : plainArg b = true := by rfl) :
    OkI bb C Γ tg (.Call (.Name "range" p) [a, b] [] pos) (bnd ma fun x => bnd mb fun y => rngM [x, y]) := fun X hX W σ Z H st xs st' R r hm' q => by
  obtain ⟨d, st1, h1, hm1⟩ := bnd_some hm'
  obtain ⟨d2, st2, h2, hm2⟩ := bnd_some hm1
  cases d with
  | int i => cases d2 with
    | int j =>
      have hm3 : (if -(2 ^ 62) ≤ i ∧ i < 2 ^ 62 ∧ -(2 ^ 62) ≤ j ∧ j < 2 ^ 62 then ret (rng i j) else stuck : M S (List D)) st2 = some (xs, st') := hm2
      split at hm3
      · rename_i hc
        obtain ⟨rfl, rfl⟩ := ret_some hm3
        refine tUI_of (pi_range2 (hX.glob hg) (hX.none hm) (pa_cons peU (pa_cons peU pa_nil (starEach_plain _ hp2)) (starEach_plain _ hp)) (by rw [starEach_plain _ hp, starEach_plain _ hp2]; rfl) (by rw [starEach_plain _ hp2]; rfl)) ?_
        refine Ok.two ha hb hX r h1 h2 fun vx vy Z2 H2 s2 b2 r1 r2 => ?_
        cases r1.1
        cases r2.1
        exact ⟨i, j, rfl, hc, q _ _ Z2 H2 s2 b2 yld_rng fun _ _ h => h.elim⟩
      · exact (stuck_some hm3).elim
    | _ => exact (stuck_some (S := S) (α := List D) (s := st2) hm2).elim
  | _ => exact (stuck_some (S := S) (α := List D) (s := st2) hm2).elim
end

/-! ### own lists change -/
set_option maxHeartbeats 4000000 in
theorem list_extend_tup (l : Addr) (items : Array Value) (n : Nat) (b : Addr) (items2 : Array Value) (n2 : Nat) (dd : Option Addr) (sl : Array (Option Value)) (hs0 : ¬(!items.isEmpty && Builtin.List.listTooLong (items.size + items2.size)) = true) (hs1 : items.size ≤ sizeLine) (hs2 : items.size + items2.size ≤ sizeLine + 1) :
    Meets (Builtin.«list.extend» ⟨[.ref l, .ref b], []⟩) (fun _ R s => s.heap.get? l = some { cls := .type "list", dict := none, data := .seq items n, slots := #[] } ∧ s.heap.get? b = some { cls := .type "tuple", dict := dd, data := .seq items2 n2, slots := sl } ∧ R (.ok (.ret Value.none)) { s with heap := s.heap.update l (Obj.mapSeq fun x => x ++ items2), toks := s.toks }) :=
  .of_wp fun prog w A R s h => by
    obtain ⟨hp, g, d, tk, os⟩ := s; obtain ⟨hl, hb, h⟩ := h; have f4 := AutoSeq1.sub_tuple_list; have f3 := AutoSeq1.sub_list_list
    have hz' : (items ++ items2).size ≤ sizeLine + 1 := by rw [Array.size_append]; exact hs2
    wp_walk using (wpAny_updateSeq hl rfl (hz := hs1) (_hz' := hz')), AutoSeq1.wpAny_loadPart' hl, AutoSeq1.wpAny_loadPart' hb; exact ⟨_, rfl, h⟩
def rExt3 (K : PySem.W.Frag) : V → List V → Hp → VK → Prop := fun x vs H Q => ∃ l b xs zs, x = .ref l ∧ vs = [.ref b] ∧ H l = some (.lst xs) ∧ (H b = some (.lst zs) ∨ SqT K H b zs) ∧ xs.length + zs.length ≤ sizeLine ∧ Q .non (upd H l (.lst (xs ++ zs)))
theorem mt_extend3 {X : Cx} : MtM X "list.extend" (rExt3 X.K) := by
  intro pins s σ H x vs v us Q I rx rv h
  obtain ⟨l, b, xs, zs, rfl, rfl, hH, hB, hz, q⟩ := h
  rcases hB with hB | hB
  · exact mt_extend pins s σ H _ _ v us Q I rx rv ⟨l, b, xs, zs, rfl, rfl, hH, hB, hz, q⟩
  · cases rx; obtain ⟨u, rfl, ru⟩ := rv.one; cases ru
    obtain ⟨z, its, n, r, hl, e⟩ := I.lstM hH
    obtain ⟨its2, r2, ⟨⟨cls, dd, data, sl⟩, ho, hc, n2, hd⟩, hs⟩ := I.tuple hB
    simp only at hc hd; subst hc hd
    have hl2 := r2.length
    have hsz : its.toArray.size + its2.toArray.size ≤ sizeLine := by rw [List.size_toArray, List.size_toArray]; omega
    have hlong : ¬ (!its.toArray.isEmpty && Builtin.List.listTooLong (its.toArray.size + its2.toArray.size)) = true := by rw [notLongL hsz, Bool.and_false]; exact Bool.false_ne_true
    refine call_meets F.slot_list_extend ⟨_, e, rfl⟩ F.entry_list_extend (F.args_list_extend_2 _ _) (list_extend_tup l its.toArray n b its2.toArray n2 dd sl hlong (by rw [List.size_toArray]; omega) (by omega)) ⟨e, ho, .non, _, I.lset (its' := its ++ its2) hH e (by simp) (r.append r2) (by rw [List.length_append]; omega), rfl, q⟩
section
variable {S : Type} [BoxS S] {C : Stat} {Γ : SCx} {e a b c : Expr} {rest : List Stmt} {m me : M S D} {pos p ap cp : Pos} {τ l : Type} {T : Tg τ l} {i : Nat} {x : Str} {d : D}
/-- behind a change of the own object at slot i -/
theorem bst_mut {X : Cx} {W : Wd} {σ : L2.St} {Z H : Hp} {st : S} {p : Addr} {o : HO} (r : SR X.K W Γ σ Z H st) (h0 : Γ[i]? = some (some (.own d))) (hp : σ[i]? = some (some (.ref p))) (so : SzO o) : BSt W Γ σ Z H Z (upd H p o) :=
  ⟨Sub.refl _, fun a u h _ no => by
    have hne : a ≠ p := fun e => no ⟨i, d, h0, by rw [e]; exact hp⟩
    rw [upd_ne hne]; exact h, fun _ _ h => .inl h, fun h => h.upd so⟩
def appD (d y : D) : Option D :=
  match d with
  | .lst xs => if xs.length < sizeLine then some (.lst (xs ++ [y])) else none
  | _ => none
theorem OkB.app {k : D → M S (Fl τ l)} (hN : C.N[i]? = some x) (hv : Vis C.sc x) (h0 : Γ[i]? = some (some (.own d))) (he : Ok .E C Γ e me) (hb : ∀ d', OkB C (Γ.set i (some (.own d'))) rest T (k d'))
    (hp : plainArg e = true := by rfl) (hd : (x == ("__debug__" : Str)) = false := by decide) (hcd : (x == ("__classdict__" : Str)) = false := by decide) (hline : (ap.endLine == cp.line) = true := by rfl)
    (hs : ∀ env : Env, swapsWith (.Call (.Attribute (.Name x p) "append" ap) [e] [] cp) none pos.line env = pure false := by intro _; rfl) :
    OkB C Γ (.Expr (.Call (.Attribute (.Name x p) "append" ap) [e] [] cp) pos :: rest) T (bnd me fun y => bnd (lift (appD d y)) k) := fun X hX W σ Z H st f st' D r hm q => by
  obtain ⟨y, st1, h1, hm1⟩ := bnd_some hm
  obtain ⟨d', st2, h2, hm2⟩ := bnd_some hm1
  obtain ⟨hg, rfl⟩ := lift_some h2
  cases d with
  | lst xs =>
    have hg' : (if xs.length < sizeLine then some (Sn.D.lst (xs ++ [y])) else none) = some d' := hg
    split at hg'
    · rename_i hl
      cases hg'
      refine tUS_of (pss_cons (ps_expr (pe_bm PySem.F.plainAttrs_list PySem.F.slot_list_append PySem.F.type_list_append mt_append (pe_var (i := i) (by rw [hX.N]; exact hN) (by rw [hX.sc]; exact hv) hd hcd) (pa_cons peU pa_nil (starEach_plain _ hp)) rfl (by rw [starEach_plain _ hp]; rfl) hline (starEach_plain _ hp)) (hs _)) pssU) ?_
      obtain ⟨pa, ep, z, nb, mu, a', vs, ea, hq, lr⟩ := r.own i _ h0
      cases ea
      refine ⟨_, ep, .inl ⟨rfl, _, .inl (.inl hq)⟩, ?_⟩
      refine he X hX W σ Z H st y _ _ r h1 fun v Z1 H1 s1 b1 r1 => ?_
      have rr := r.step s1 b1
      have hq1 := s1.hh _ _ hq nb
      have ll := lr.length
      refine ⟨pa, vs, v, rfl, rfl, hq1, by omega, ?_⟩
      have so : SzO (.lst (vs ++ [v])) := by
        show (vs ++ [v]).length ≤ sizeLine
        rw [List.length_append, List.length_singleton]; omega
      refine hb _ X hX W σ Z1 (upd H1 pa (.lst (vs ++ [v]))) _ f st' D (rr.mut (d' := Sn.D.lst (xs ++ [y])) h0 ep rfl ⟨pa, _, rfl, upd_same, (lr.mono s1.zz).append (.cons r1 .nil)⟩ so) hm2 ?_
      exact (q.after s1.bst OwLe.refl (Γ1 := Γ) (σ1 := σ)).after (bst_mut rr h0 ep so) fun a h => .inl (own_mut h0 h)
    · cases hg'
  | _ => cases hg
def extD (d y : D) : Option D :=
  match d, y with
  | .lst xs, .lst ys => if xs.length + ys.length ≤ sizeLine then some (.lst (xs ++ ys)) else none
  | .lst xs, .tup ys => if xs.length + ys.length ≤ sizeLine then some (.lst (xs ++ ys)) else none
  | _, _ => none
theorem extD_some {d y d' : D} (h : extD d y = some d') : ∃ xs ys, d = .lst xs ∧ (y = .lst ys ∨ y = .tup ys) ∧ xs.length + ys.length ≤ sizeLine ∧ d' = .lst (xs ++ ys) := by
  cases d with
  | lst xs => cases y with
    | lst ys =>
      have h' : (if xs.length + ys.length ≤ sizeLine then some (Sn.D.lst (xs ++ ys)) else none) = some d' := h
      split at h'
      · cases h'; exact ⟨xs, ys, rfl, .inl rfl, by assumption, rfl⟩
      · cases h'
    | tup ys =>
      have h' : (if xs.length + ys.length ≤ sizeLine then some (Sn.D.lst (xs ++ ys)) else none) = some d' := h
      split at h'
      · cases h'; exact ⟨xs, ys, rfl, .inr rfl, by assumption, rfl⟩
      · cases h'
    | _ => cases h
  | _ => cases h
theorem OkB.ext {k : D → M S (Fl τ l)} (hN : C.N[i]? = some x) (hv : Vis C.sc x) (h0 : Γ[i]? = some (some (.own d))) (he : Ok .V C Γ e me) (hb : ∀ d', OkB C (Γ.set i (some (.own d'))) rest T (k d'))
    (hp : plainArg e = true := by rfl) (hd : (x == ("__debug__" : Str)) = false := by decide) (hcd : (x == ("__classdict__" : Str)) = false := by decide) (hline : (ap.endLine == cp.line) = true := by rfl)
    (hs : ∀ env : Env, swapsWith (.Call (.Attribute (.Name x p) "extend" ap) [e] [] cp) none pos.line env = pure false := by intro _; rfl) :
    OkB C Γ (.Expr (.Call (.Attribute (.Name x p) "extend" ap) [e] [] cp) pos :: rest) T (bnd me fun y => bnd (lift (extD d y)) k) := fun X hX W σ Z H st f st' D r hm q => by
  obtain ⟨y, st1, h1, hm1⟩ := bnd_some hm
  obtain ⟨d', st2, h2, hm2⟩ := bnd_some hm1
  obtain ⟨hg, rfl⟩ := lift_some h2
  obtain ⟨xs, ys, rfl, hy, hl, rfl⟩ := extD_some hg
  refine tUS_of (pss_cons (ps_expr (pe_bm PySem.F.plainAttrs_list PySem.F.slot_list_extend PySem.F.type_list_extend mt_extend3 (pe_var (i := i) (by rw [hX.N]; exact hN) (by rw [hX.sc]; exact hv) hd hcd) (pa_cons peU pa_nil (starEach_plain _ hp)) rfl (by rw [starEach_plain _ hp]; rfl) hline (starEach_plain _ hp)) (hs _)) pssU) ?_
  obtain ⟨pa, ep, z, nb, mu, a', vs, ea, hq, lr⟩ := r.own i _ h0
  cases ea
  refine ⟨_, ep, .inl ⟨rfl, _, .inl (.inl hq)⟩, ?_⟩
  refine he X hX W σ Z H st _ _ _ r h1 fun v Z1 H1 s1 b1 r1 => ?_
  have rr := r.step s1 b1
  have hq1 := s1.hh _ _ hq nb
  have ll := lr.length
  have hb2 : ∃ pb us, v = .ref pb ∧ (H1 pb = some (.lst us) ∨ SqT X.K H1 pb us) ∧ RepL X.K W.β Z1 ys us := by
    rcases hy with rfl | rfl
    · obtain ⟨pb, us, rfl, hqb, lb⟩ := r1.1
      exact ⟨pb, us, rfl, .inl hqb, lb⟩
    · cases r1.1 with | tup hqb lb => exact ⟨_, _, rfl, .inr (s1.sub.sqT hqb), lb⟩
  obtain ⟨pb, us, rfl, hqb, lb⟩ := hb2
  have lb' := lb.length
  refine ⟨pa, pb, vs, us, rfl, rfl, hq1, hqb, by omega, ?_⟩
  have so : SzO (.lst (vs ++ us)) := by
    show (vs ++ us).length ≤ sizeLine
    rw [List.length_append]; omega
  refine hb _ X hX W σ Z1 (upd H1 pa (.lst (vs ++ us))) _ f st' D (rr.mut (d' := Sn.D.lst (xs ++ ys)) h0 ep rfl ⟨pa, _, rfl, upd_same, (lr.mono s1.zz).append lb⟩ so) hm2 ?_
  exact (q.after s1.bst OwLe.refl (Γ1 := Γ) (σ1 := σ)).after (bst_mut rr h0 ep so) fun a h => .inl (own_mut h0 h)
/-- x[k] = e -/
def setD (d k y : D) : Option D :=
  match d, k with
  | .lst xs, .int i => (ixN xs.length i).map fun j => .lst (xs.set j y)
  | _, _ => none
theorem OkB.setIx {mk : M S D} {k : D → M S (Fl τ l)} {pp : Pos} (hN : C.N[i]? = some x) (hv : Vis C.sc x) (h0 : Γ[i]? = some (some (.own d))) (he : Ok .E C Γ e me) (hk : Ok .V C Γ b mk) (hb : ∀ d', OkB C (Γ.set i (some (.own d'))) rest T (k d'))
    (hd : (x == ("__debug__" : Str)) = false := by decide) (hcd : (x == ("__classdict__" : Str)) = false := by decide)
    (hs : ∀ env : Env, swapsWithSole [.Subscript (.Name x p) b pp] e pos.line env = pure false := by intro _; rfl) (hw : ∀ env : Env, swappedStores [.Subscript (.Name x p) b pp] e env = pure none := by intro _; rfl)
    (ha : ∀ (env : Env) v, assign (.Subscript (.Name x p) b pp) env v = (do
      let ov ← holding [v] (eval (.Name x p) env)
      let iv ← holding [v, ov] (eval b env)
      standAt pp
      holding [v, ov, iv] (setItem ov iv v)
      release [v, ov, iv] []) := by intro _ _; rfl) :
    OkB C Γ (.Assign [.Subscript (.Name x p) b pp] e pos :: rest) T (bnd me fun y => bnd mk fun j => bnd (lift (setD d j y)) k) := fun X hX W σ Z H st f st' D r hm q => by
  obtain ⟨y, st1, h1, hm1⟩ := bnd_some hm
  obtain ⟨j, st2, h2, hm2⟩ := bnd_some hm1
  obtain ⟨d', st3, h3, hm3⟩ := bnd_some hm2
  obtain ⟨hg, rfl⟩ := lift_some h3
  cases d with
  | lst xs => cases j with
    | int ii =>
      obtain ⟨jj, ej, rfl⟩ := Option.map_eq_some_iff.mp hg
      refine tUS_of (pss_cons (ps_asg peU (pg_sub (pe_var (i := i) (by rw [hX.N]; exact hN) (by rw [hX.sc]; exact hv) hd hcd) peU set_list (ha _)) (hs _) (hw _)) pssU) ?_
      refine he X hX W σ Z H st y _ _ r h1 fun v Z1 H1 s1 b1 r1 => ?_
      have rr := r.step s1 b1
      obtain ⟨pa, ep, z, nb, mu, a', vs, ea, hq, lr⟩ := rr.own i _ h0
      cases ea
      refine ⟨_, ep, ?_⟩
      refine hk X hX W σ Z1 H1 st1 _ _ _ rr h2 fun vj Z2 H2 s2 b2 r2 => ?_
      cases r2.1
      have rr2 := rr.step s2 b2
      have hq1 := s2.hh _ _ hq nb
      have ll := lr.length
      refine ⟨pa, vs, ii, jj, rfl, rfl, hq1, by rw [← ll]; exact ej, ?_⟩
      have so : SzO (.lst (vs.set jj v)) := by
        show (vs.set jj v).length ≤ sizeLine
        rw [List.length_set]; exact rr2.sz.lst hq1
      refine hb _ X hX W σ Z2 (upd H2 pa (.lst (vs.set jj v))) _ f st' D (rr2.mut (d' := Sn.D.lst (xs.set jj y)) h0 ep rfl ⟨pa, _, rfl, upd_same, (lr.mono s2.zz).set jj (q := r1.mono s2.zz)⟩ so) hm3 ?_
      exact (q.after (s1.trans s2).bst OwLe.refl (Γ1 := Γ) (σ1 := σ)).after (bst_mut rr2 h0 ep so) fun a h => .inl (own_mut h0 h)
    | _ => cases hg
  | _ => cases hg
/-- x, y = e, f: two local names on a line -/
theorem swapped_two {env : Env} {y : Str} {px py pt pt2 : Pos} {kt k2 : Nat} {u v : Expr} (hk : env.scope.kind = .function) (hx : env.scope.names.lookup x = some .local) (hy : env.scope.names.lookup y = some .local) (hl : (px.line == py.line) = true)
    (hu : plainArg u = true) (hv : plainArg v = true) (hne : (y == x) = false) (hf : [u, v].all (foldedForSure 8) = false) (hc : [u, v].all (constantsAlone 8) = false) :
    swappedStores [.Tuple [.Name x px, .Name y py] kt pt] (.Tuple [u, v] k2 pt2) env = pure (some [x, y]) := by
  have kx : env.kindOf x = some .local := hx
  have ky : env.kindOf y = some .local := hy
  have hb : env.blockKind = .function := by unfold Env.blockKind; rw [hk]; rfl
  have hl' : (py.line == px.line) = true := by rw [beq_iff_eq] at hl ⊢; exact hl.symm
  unfold swappedStores
  have s1 : ([u, v].any fun | .Starred .. => true | _ => false) = false := by
    cases u <;> first | (cases hu; done) | (cases v <;> first | (cases hv; done) | rfl)
  simp only [hb, List.length_cons, List.length_nil, s1, List.head?_cons, Option.map_some, Option.getD_some, Expr.pos, List.filterMap_cons, List.filterMap_nil, kx, ky, hl', hf, hc, beq_self_eq_true, Bool.and_self, if_true]
  have hd : ([x, y].eraseDups).length = 2 := by
    simp [List.eraseDups, List.eraseDupsBy, List.eraseDupsBy.loop, hne]
  rw [if_neg (by decide), if_neg (by
    intro h
    simp only [List.any_cons, List.any_nil, Bool.or_false, Bool.or_eq_true] at h
    rcases h with h | h
    · cases u <;> first | (cases h; done) | (cases hu; done)
    · cases v <;> first | (cases h; done) | (cases hv; done)), hd]
  rfl
/-- x, y = e, f, stored from the right; each kept for good, or an own list -/
def mdEn (md : Md) (d : D) : En := match md with
  | .N => .own d
  | _ => .frz d
def okMd (md : Md) (d : D) : Bool := match md with
  | .N => isMut d
  | _ => true
theorem OkB.par2 {u v : Expr} {mu mv : M S D} {mdu mdv : Md} {j : Nat} {y : Str} {px py pt pt2 : Pos} {kt k2 : Nat} {k : D → D → M S (Fl τ l)} (hN : C.N[i]? = some x) (hN2 : C.N[j]? = some y) (hij : i ≠ j) (hfk : C.sc.kind = .function)
    (hx : C.sc.names.lookup x = some .local) (hy : C.sc.names.lookup y = some .local) (hu : Ok mdu C Γ u mu) (hv : Ok mdv C Γ v mv) (eu : mdu = .E ∨ mdu = .N) (ev : mdv = .E ∨ mdv = .N)
    (hb : ∀ d e, OkB C ((Γ.set i (some (mdEn mdu d))).set j (some (mdEn mdv e))) rest T (k d e))
    (hl : (px.line == py.line) = true := by rfl) (pu : plainArg u = true := by rfl) (pv : plainArg v = true := by rfl) (hne : (y == x) = false := by decide) (hf : [u, v].all (foldedForSure 8) = false := by rfl) (hc : [u, v].all (constantsAlone 8) = false := by rfl)
    (hs : ∀ env : Env, swapsWithSole [.Tuple [.Name x px, .Name y py] kt pt] (.Tuple [u, v] k2 pt2) pos.line env = pure false := by intro _; rfl) :
    OkB C Γ (.Assign [.Tuple [.Name x px, .Name y py] kt pt] (.Tuple [u, v] k2 pt2) pos :: rest) T (bnd mu fun d => bnd mv fun e => if okMd mdu d = true ∧ okMd mdv e = true then k d e else stuck) := fun X hX W σ Z H st f st' D r hm q => by
  obtain ⟨du, st1, h1, hm1⟩ := bnd_some hm
  obtain ⟨dv, st2, h2, hm2⟩ := bnd_some hm1
  split at hm2
  · rename_i hok
    refine tUS_of (pss_cons (ps_par hX.calm (i := i) (j := j) (by rw [hX.N]; exact hX.nd) (by rw [hX.N]; exact hN) (by rw [hX.N]; exact hN2) hij (by rw [hX.sc]; exact hx) (by rw [hX.sc]; exact hy) (pa_cons peU (pa_cons peU pa_nil (starEach_plain _ pv)) (starEach_plain _ pu))
      (swapped_two (by rw [hX.sc]; exact hfk) (by rw [hX.sc]; exact hx) (by rw [hX.sc]; exact hy) hl pu pv hne hf hc) (hs _)) pssU) ?_
    refine hu X hX W σ Z H st du st1 _ r h1 fun vx Z1 H1 s1 b1 r1' => ?_
    refine hv X hX W σ Z1 H1 st1 dv st2 _ (r.step s1 b1) h2 fun vy Z2 H2 s12 b2 r2' => ?_
    have s2 := s1.trans s12
    have r1 := r1'.stp s12
    have r2 := r2'.back r.box b1 s1
    refine ⟨vx, vy, rfl, ?_⟩
    have rr := r.step s2 b2
    have dj : ∀ {md : Md} {d : Sn.D} {w : V}, md = .E ∨ md = .N → okMd md d = true → Res X.K W md H Z2 H2 d w → (md = .E ∧ Rep X.K W.β Z2 d w) ∨ (md = .N ∧ ∃ p, w = .ref p ∧ isMut d = true ∧ Rep1 X.K W.β Z2 H2 d (.ref p) ∧ Z2 p = none ∧ ¬ W.bx p ∧ H p = none) := by
      intro md d w e ok rs
      rcases e with rfl | rfl
      · exact .inl ⟨rfl, rs⟩
      · refine .inr ⟨rfl, ?_⟩
        have mu : isMut d = true := ok
        obtain ⟨q4, q5⟩ := rs
        have hv : ∃ p, w = .ref p := by
          cases d with
          | lst ds => obtain ⟨b, vs, eb, _⟩ := q4; exact ⟨b, eb⟩
          | dct ds => obtain ⟨b, eb, _⟩ := q4; exact ⟨b, eb⟩
          | _ => cases mu
        obtain ⟨p, rfl⟩ := hv
        obtain ⟨f1, f2, f3⟩ := q5 p rfl mu
        exact ⟨p, rfl, mu, q4, f2, f3, f1⟩
    have noOld : ∀ p, H p = none → ¬ ownA Γ σ p := fun p f1 h => by
      obtain ⟨o, ho⟩ := r.ownThere h
      rw [f1] at ho; cases ho
    rcases dj eu hok.1 r1 with ⟨rfl, g1⟩ | ⟨rfl, p, rfl, mu1, g1, z1, n1, f1⟩
    · rcases dj ev hok.2 r2 with ⟨rfl, g2⟩ | ⟨rfl, p2, rfl, mu2, g2, z2, n2, f2⟩
      · exact hb du dv X hX W _ Z2 H2 st2 f st' D ((rr.setF g1).setF g2) hm2 (q.after s2.bst fun a h => .inl (own_setF (own_setF h)))
      · refine hb du dv X hX W _ Z2 H2 st2 f st' D ((rr.setF g1).setO mu2 g2 z2 n2 fun h => noOld _ f2 (own_setF h)) hm2 (q.after s2.bst fun a h => ?_)
        rcases own_setO h with h | rfl
        · exact .inl (own_setF h)
        · exact .inr f2
    · rcases dj ev hok.2 r2 with ⟨rfl, g2⟩ | ⟨rfl, p2, rfl, mu2, g2, z2, n2, f2⟩
      · refine hb du dv X hX W _ Z2 H2 st2 f st' D ((rr.setO mu1 g1 z1 n1 (noOld _ f1)).setF g2) hm2 (q.after s2.bst fun a h => ?_)
        rcases own_setO (own_setF h) with h | rfl
        · exact .inl h
        · exact .inr f1
      · -- two new lists: they stand apart
        have hp1 : ∃ o, H1 p = some o := by
          obtain ⟨q4, _⟩ := r1'
          cases du with
          | lst ds => obtain ⟨b, vs, eb, hb', _⟩ := q4; cases eb; exact ⟨_, hb'⟩
          | dct ds =>
            obtain ⟨b, eb, ⟨kvs, h, _⟩ | ⟨kvs, h, _⟩⟩ := q4
            · cases eb; exact ⟨_, h⟩
            · cases eb; exact ⟨_, h⟩
          | _ => cases mu1
        have hne' : p2 ≠ p := fun e => by
          obtain ⟨o, ho⟩ := hp1
          rw [← e, (r2'.2 p2 rfl mu2).1] at ho; cases ho
        refine hb du dv X hX W _ Z2 H2 st2 f st' D ((rr.setO mu1 g1 z1 n1 (noOld _ f1)).setO mu2 g2 z2 n2 fun h => ?_) hm2 (q.after s2.bst fun a h => ?_)
        · rcases own_setO h with h | e
          · exact noOld _ f2 h
          · exact hne' e
        · rcases own_setO h with h | rfl
          · rcases own_setO h with h | rfl
            · exact .inl h
            · exact .inr f1
          · exact .inr f2
  · exact (stuck_some hm2).elim
end
end Sn

namespace Sn
open PySem PySem.Spec PyProof.Rows L2

/-! ### the law's box -/
structure Bx where
  cells : List Int
  dig : Int
  seed : Int
  hd : 0 ≤ dig
  hs : 0 ≤ seed ∧ seed < 2147483648
def bxR (b : Bx) (β γ : Addr) (H : Hp) : Prop := H β = some (.lst [.ref γ, .int b.dig, .int b.seed]) ∧ H γ = some (.lst (b.cells.map V.int))
instance : BoxS Bx where
  R := bxR
  there := fun h => ⟨⟨_, h.1⟩, ⟨_, h.2⟩⟩
  congr := fun h e1 e2 => ⟨e1.trans h.1, e2.trans h.2⟩
/-- what the box is filled with: the number, the cells left, the seed -/
def bxSeed (seed : Int) : Int × Int × Int :=
  let first := (seed * 48271 + 17) % 2147483629
  let second := (first * 69621 + 5) % 2147483587
  let s := (second * 40692 + 3) % 2147483563
  (first, second, s)
def bxLast (cells : List Int) (seed : Int) : Int × List Int × Int :=
  ((bxSeed seed).1 * 4611686014132420609 + (bxSeed seed).2.1 * 2147483647 + (bxSeed seed).2.2, cells, (bxSeed seed).2.2)
def bxSize (c : Int) : Int := if 0 ≤ c then 2 * c else -2 * c - 1
def bxLoad (cells : List Int) (seed : Int) : Int × List Int × Int :=
  match cells with
  | [] => bxLast [] seed
  | c :: cs => if 1000000000000000000 ≤ bxSize c then (bxSize c, cs, seed) else bxLast cs ((seed * 69621 + bxSize c * 48271 + 11) % 2147483647)
theorem bxSize_nn (c : Int) : 0 ≤ bxSize c := by unfold bxSize; split <;> omega
theorem bxSeed_nn (seed : Int) : (0 ≤ (bxSeed seed).1 ∧ (bxSeed seed).1 < 2147483648) ∧ (0 ≤ (bxSeed seed).2.1 ∧ (bxSeed seed).2.1 < 2147483648) ∧ (0 ≤ (bxSeed seed).2.2 ∧ (bxSeed seed).2.2 < 2147483648) := by
  unfold bxSeed
  simp only
  omega
theorem bxLast_nn (cells : List Int) (seed : Int) : 0 ≤ (bxLast cells seed).1 ∧ 0 ≤ (bxLast cells seed).2.2 ∧ (bxLast cells seed).2.2 < 2147483648 := by
  obtain ⟨h1, h2, h3⟩ := bxSeed_nn seed
  unfold bxLast
  simp only
  omega
theorem bxLoad_nn (cells : List Int) (seed : Int) (h : 0 ≤ seed ∧ seed < 2147483648) : 0 ≤ (bxLoad cells seed).1 ∧ 0 ≤ (bxLoad cells seed).2.2 ∧ (bxLoad cells seed).2.2 < 2147483648 := by
  unfold bxLoad
  split
  · exact bxLast_nn _ _
  · rename_i c cs
    have := bxSize_nn c
    split
    · exact ⟨this, h⟩
    · exact bxLast_nn _ _
theorem bxLoad_len (cells : List Int) (seed : Int) : (bxLoad cells seed).2.1.length ≤ cells.length := by
  unfold bxLoad bxLast
  split
  · exact Nat.le_refl _
  · split
    · exact Nat.le_succ _
    · exact Nat.le_succ _
/-- one draw: the digit, the box behind it -/
def drawB (b : Bx) (many : Int) (hm : 0 < many) : Int × Bx :=
  if b.dig < many then
    ((bxLoad b.cells b.seed).1 % many, ⟨(bxLoad b.cells b.seed).2.1, (bxLoad b.cells b.seed).1 / many, (bxLoad b.cells b.seed).2.2, Int.ediv_nonneg (bxLoad_nn b.cells b.seed b.hs).1 (Int.le_of_lt hm), (bxLoad_nn b.cells b.seed b.hs).2⟩)
  else (b.dig % many, ⟨b.cells, b.dig / many, b.seed, Int.ediv_nonneg b.hd (Int.le_of_lt hm), b.hs⟩)
def drawM (many : Int) : M Bx D := fun b => if h : 0 < many ∧ many < 1073741824 then some (.int (drawB b many h.1).1, (drawB b many h.1).2) else none
def m_draw : List D → M Bx D
  | [.box, .int many] => drawM many
  | _ => stuck

section
variable {P : Program} {w : World} {K : PySem.W.Frag} {mg : Str → Option Value} {base : Heap}
/-- other addresses stand -/
def Else2 (H H' : Hp) (β γ : Addr) : Prop := ∀ a, a ≠ β → a ≠ γ → H' a = H a
def spLoad : Sp := fun vs H Q _ => ∃ (β γ : Addr) (cells : List Int) (dig seed : Int), vs = [.ref β] ∧ H β = some (.lst [.ref γ, .int dig, .int seed]) ∧ H γ = some (.lst (cells.map V.int)) ∧ cells.length ≤ sizeLine ∧ 0 ≤ seed ∧ seed < 2147483648 ∧
  ∀ H', Else2 H H' β γ → H' β = some (.lst [.ref γ, .int dig, .int (bxLoad cells seed).2.2]) → H' γ = some (.lst ((bxLoad cells seed).2.1.map V.int)) → Q (.int (bxLoad cells seed).1) H'
theorem Sz.only {H : Hp} (h : Only H) : Sz H := fun b vs hv => by
  rcases h b with e | ⟨o, xs, e⟩ <;> rw [e] at hv <;> rcases hv with hv | hv <;> cases hv
def spBox (K : PySem.W.Frag) : Sp := fun vs H Q _ => ∃ (a : Addr) (ns : List Int), vs = [.ref a] ∧ SqL K H a (ns.map V.int) ∧ ns.length ≤ 63 ∧
  ∀ (H' : Hp) (β γ : Addr), Same H H' → H β = none → H γ = none → H' β = some (.lst [.ref γ, .int 0, .int (4711 + (ns.length : Int))]) → H' γ = some (.lst (ns.map V.int)) → (Sz H → Sz H') → Q (.ref β) H'
def spLaw (K : PySem.W.Frag) : Sp := fun vs H Q _ => ∃ (a : Addr) (ns : List Int), vs = [.ref a] ∧ SqL K H a (ns.map V.int) ∧ ns.length ≤ 63 ∧ Sz H ∧ ∀ H', Q (.bl true) H'
theorem ok_law_of {st : Stmt} {f fB : Addr} {fd fdB : FuncData} {N : List Str} {k jB i : Nat} {rest : List Stmt} {x1 xB x3 : Str} {p1 p2 p3 pc ps : Pos} {m : M Bx (Fl Unit Unit)} {Γ1 : SCx} {qual xl : Str}
    (F : Fun K xl qual st f fd) (Sc : FnScope N ["script"] (defScope st)) (GB : FnOk P w K mg base CX0 jB fB fdB ["script"] (spBox K)) (kpB : PySem.W.keepIn K (.ref fB) = true) (bB : Binds K fdB ["script"] []) (gB : mg xB = some (.ref fB)) (hj : jB ≤ k)
    (hb : defBody st = .Assign [.Name x1 p1] (.Call (.Name xB p2) [.Name x3 p3] [] pc) ps :: rest) (h3 : x3 = "script") (hgl : (defScope st).names.lookup xB = some .globalImplicit) (hv3 : Vis (defScope st) x3) (hi : N[i]? = some x1) (hi0 : N[0]? = some x3) (hx1 : Loc (defScope st) x1)
    (hΓ : Γ1 = (List.replicate N.length none).set i (some (.frz .box)))
    (hrest : OkB (S := Bx) ⟨⟨P, w, K, mg, base⟩, N, defScope st, k, fun _ => true⟩ Γ1 rest ⟨fun _ : Unit => List.replicate N.length none, fun _ : Unit => List.replicate N.length none⟩ m)
    (hm : ∀ b : Bx, ∃ b', bnd m endF b = some (.bl true, b')) (hd : (x3 == ("__debug__" : Str)) = false := by decide) (hcd : (x3 == ("__classdict__" : Str)) = false := by decide) (hdB : (xB == ("__debug__" : Str)) = false := by decide) :
    FnOk P w K mg base CX0 (k + 1) f fd ["script"] (spLaw K) := by
  refine F.ok Sc (fun vs H Q E h => ?_) (fun cdv A outer s H vs Q E hr h => ?_)
  · obtain ⟨a, ns, rfl, _⟩ := h
    rfl
  obtain ⟨a, ns, rfl, hS, hlen, sz, q⟩ := h
  rw [hb]
  refine ⟨_, pss_cons (ps_set (i := i) Sc.nd hi hx1 (pe_call GB (hr.mono hj) hgl gB kpB bB .nil pass0 (pa_cons (pe_var (i := 0) hi0 hv3 hd hcd) pa_nil) hdB)) pssU, ?_⟩
  have hNl : 0 < N.length := by
    cases N with
    | nil => cases hi0
    | cons _ _ => simp
  refine ⟨.ref a, ?_, a, ns, rfl, hS, hlen, fun H1 β γ sm nβ nγ hβ hγ szi => ?_⟩
  · unfold L2.start; rfl
  let b0 : Bx := ⟨ns, 0, 4711 + (ns.length : Int), Int.le_refl 0, by omega⟩
  obtain ⟨b', hb'⟩ := hm b0
  obtain ⟨fl, b1, h1, h2⟩ := bnd_some hb'
  have hil : i < N.length := by
    cases h : N[i]? with
    | none => rw [hi] at h; cases h
    | some y => exact (List.getElem?_eq_some_iff.mp h).1
  refine hrest _ ⟨rfl, rfl, rfl, rfl, rfl, rfl, rfl, Sc.nd, rfl, hr, rfl, fun _ _ => rfl⟩ ⟨β, γ⟩ ((L2.start N [.ref a]).set i (some (.ref β))) (fun _ => none) H1 b0 fl b1 _ ?_ h1 ?_
  · subst hΓ
    refine ⟨?_, szi sz, (⟨hβ, hγ⟩ : bxR b0 β γ H1), (fun _ _ h => nomatch h), (fun j d h => ?_), (fun j d h => ?_), (fun j j' d d' a' h => ?_)⟩
    · unfold L2.start
      simp only [List.length_set, List.length_append, List.length_map, List.length_cons, List.length_nil, List.length_replicate]
      omega
    · rcases set_cases h with ⟨rfl, he, hl⟩ | ⟨hn, h⟩
      · cases he
        refine ⟨.ref β, List.getElem?_set_self ?_, .box⟩
        unfold L2.start
        simp only [List.length_append, List.length_map, List.length_cons, List.length_nil, List.length_replicate]
        omega
      · rw [List.getElem?_replicate] at h
        split at h <;> simp at h
    · rcases set_cases h with ⟨rfl, he, hl⟩ | ⟨hn, h⟩
      · cases he
      · rw [List.getElem?_replicate] at h
        split at h <;> simp at h
    · rcases set_cases h with ⟨rfl, he, hl⟩ | ⟨hn, h⟩
      · cases he
      · rw [List.getElem?_replicate] at h
        split at h <;> simp at h
  · cases fl with
    | nx s' =>
      obtain ⟨e, _⟩ := ret_some h2
      cases e
    | rt d =>
      obtain ⟨e, _⟩ := ret_some h2
      intro v Z' H' _ _ _ rv
      subst e
      cases rv
      exact q H'
    | bk s' => exact (stuck_some (S := Bx) (α := D) (s := b1) h2).elim
    | ct s' => exact (stuck_some (S := Bx) (α := D) (s := b1) h2).elim
end
end Sn

namespace Sn
open PySem PySem.Spec PyProof.Rows L2
/-! ### short words for mirrors -/
section
variable {S : Type} {τ l τ' l' : Type}
def op2M (g : D → D → Option D) (ma mb : M S D) : M S D := bnd ma fun x => bnd mb fun y => lift (g x y)
def cmpT (g : D → D → Option D) (ma mb : M S D) : M S Bool := bnd ma fun x => bnd mb fun y => bnd (lift (g x y)) asB
def chainM (g g' : D → D → Option D) (ma mb mc : M S D) : M S D := bnd ma fun x => bnd mb fun y => bnd (bnd (lift (g x y)) asB) fun t => if t = true then bnd mc fun z => lift (g' y z) else ret (.bl false)
def chainT (g g' : D → D → Option D) (ma mb mc : M S D) : M S Bool := bnd ma fun x => bnd mb fun y => bnd (bnd (lift (g x y)) asB) fun t => if t = true then bnd mc fun z => bnd (lift (g' y z)) asB else ret false
def valT (ma : M S D) : M S Bool := bnd ma truM
def notT (n : M S Bool) : M S Bool := bnd n fun b => ret (!b)
def andT (n k : M S Bool) : M S Bool := bnd n fun t => if t = true then k else ret false
def orT (n k : M S Bool) : M S Bool := bnd n fun t => if t = true then ret true else k
def andM (ma mb : M S D) : M S D := bnd (bnd ma asB) fun t => if t = true then mb else ret (.bl false)
def orM (ma mb : M S D) : M S D := bnd (bnd ma asB) fun t => if t = true then ret (.bl true) else mb
def notM (ma : M S D) : M S D := bnd (bnd ma truM) fun t => ret (.bl (!t))
def negD : D → Option D
  | .int i => some (.int (-i))
  | _ => none
def negM (ma : M S D) : M S D := bnd ma fun x => lift (negD x)
def ifM {α : Type} (n : M S Bool) (ma mb : M S α) : M S α := bnd n fun t => if t = true then ma else mb
def consM (m : M S D) (mr : M S (List D)) : M S (List D) := bnd m fun x => bnd mr fun xs => ret (x :: xs)
def tupM (mr : M S (List D)) : M S D := bnd mr fun xs => lift (tupD xs)
def lstM (mr : M S (List D)) : M S D := bnd mr fun xs => lift (lstD xs)
def ixM (ma mb : M S D) : M S D := bnd ma fun x => bnd mb fun y => lift (ixD x y)
def ptM (ma : M S D) : M S (Option Int) := bnd (bnd ma asI) fun i => ret (some i)
def slM (ma : M S D) (ml mh : M S (Option Int)) : M S D := bnd ma fun x => bnd ml fun i => bnd mh fun j => lift (slD x i j)
def bcM (g : List D → Option D) (mr : M S (List D)) : M S D := bnd mr fun xs => lift (g xs)
def isiM (T : String) (ma : M S D) : M S D := bnd ma fun x => lift (isiD T x)
def itM (ma : M S D) : M S (List D) := bnd ma iterM
def rng1M (ma : M S D) : M S (List D) := bnd ma fun x => rngM [x]
def rng2M (ma mb : M S D) : M S (List D) := bnd ma fun x => bnd mb fun y => rngM [x, y]
def compM (mi : M S (List D)) (f : D → M S (Option D)) : M S D := bnd mi fun xs => if xs.length ≤ sizeLine then bnd (compL f xs) fun ys => ret (.lst ys) else stuck
def retF (m : M S D) : M S (Fl τ l) := bnd m fun d => ret (.rt d)
def iteF (n : M S Bool) (mA mB : M S (Fl τ' l)) (k : τ' → M S (Fl τ l)) : M S (Fl τ l) := bnd n fun t => bnd (if t = true then mA else mB) fun f => seqF f k
def forM' (mi : M S (List D)) (f : τ → D → M S (Fl τ τ)) (s0 : τ) (k : τ → M S (Fl τ' l')) : M S (Fl τ' l') := bnd mi fun xs => forL f k xs s0
def ownM (m : M S D) (k : D → M S (Fl τ l)) : M S (Fl τ l) := bnd m fun d => if isMut d = true then k d else stuck
def parM (mdu mdv : Md) (mu mv : M S D) (k : D → D → M S (Fl τ l)) : M S (Fl τ l) := bnd mu fun d => bnd mv fun e => if okMd mdu d = true ∧ okMd mdv e = true then k d e else stuck
def appM (d : D) (me : M S D) (k : D → M S (Fl τ l)) : M S (Fl τ l) := bnd me fun y => bnd (lift (appD d y)) k
def extM (d : D) (me : M S D) (k : D → M S (Fl τ l)) : M S (Fl τ l) := bnd me fun y => bnd (lift (extD d y)) k
def setM (d : D) (me mk : M S D) (k : D → M S (Fl τ l)) : M S (Fl τ l) := bnd me fun y => bnd mk fun j => bnd (lift (setD d j y)) k
end
/-- more turns than any while of ours makes -/
def fuel : Nat := 1000000000
section
variable {S : Type} [BoxS S] {C : Stat} {Γ : SCx} {e a b : Expr} {es : List Expr} {m ma mb : M S D} {md : Md} {pos p : Pos}
theorem Ok.neg' (h : Ok .V C Γ a ma) : Ok .E C Γ (.UnaryOp .USub a pos) (negM ma) := by
  have := Ok.neg (pos := pos) h
  have e : (fun x : D => (lift (match x with | .int i => some (.int (-i)) | _ => none) : M S D)) = fun x => lift (negD x) := by
    funext x
    cases x <;> rfl
  unfold negM
  rw [← e]
  exact this
theorem OkB.stuck {τ l : Type} {T : Tg τ l} {ss : List Stmt} : OkB (S := S) C Γ ss T Sn.stuck := fun X hX W σ Z H st f st' D r hm q => (stuck_some hm).elim
theorem hasF_stuck {G : Glob} {st : Stmt} {f : Addr} {fd : FuncData} {ps : List Str} {k n : Nat} {x qual : Str} (hm : G.mg x = some (.ref f)) (F : Fun G.K x qual st f fd) (hB : Binds G.K fd ps []) (hn : ps.length = n) : HasF (S := S) G k x n fun _ => Sn.stuck := by
  refine ⟨f, fd, ps, hm, F.kp, hB, ⟨fun vs H Q E h => by rw [hn]; exact h.1, fun A outer s H args us vs Q E hr he hb hv hs => ?_⟩⟩
  obtain ⟨_, W, Z, ds, st, d, st', _, _, _, _, hm, _⟩ := hs
  exact (stuck_some (S := S) (α := D) (s := st) hm).elim
end
end Sn

namespace Sn
open PySem PySem.Spec PyProof.Rows L2
noncomputable instance decEqD : DecidableEq D := fun _ _ => Classical.propDecidable _
/-! ### plain reasoning on mirrors -/
section
variable {S : Type} {α β : Type} {τ l τ' l' : Type}
@[simp] theorem r_bnd (a : α) (k : α → M S β) : bnd (ret a) k = k a := (rfl)
@[simp] theorem r_bndS (k : α → M S β) : bnd (stuck : M S α) k = stuck := (rfl)
@[simp] theorem r_lift (d : D) : (lift (some d) : M S D) = ret d := (rfl)
@[simp] theorem r_liftN : (lift none : M S D) = stuck := (rfl)
@[simp] theorem r_op2 (g : D → D → Option D) (a b : D) : op2M g (ret a : M S D) (ret b) = lift (g a b) := (rfl)
@[simp] theorem r_cmpT (g : D → D → Option D) (a b : D) : cmpT g (ret a : M S D) (ret b) = bnd (lift (g a b)) asB := (rfl)
@[simp] theorem r_asB (b : Bool) : (asB (.bl b) : M S Bool) = ret b := (rfl)
@[simp] theorem r_asI (b : Int) : (asI (.int b) : M S Int) = ret b := (rfl)
@[simp] theorem r_valT (d : D) : valT (ret d : M S D) = truM d := (rfl)
@[simp] theorem r_tru_bl (b : Bool) : (truM (.bl b) : M S Bool) = ret b := (rfl)
@[simp] theorem r_tru_int (i : Int) : (truM (.int i) : M S Bool) = ret (i != 0) := (rfl)
@[simp] theorem r_tru_lst (xs : List D) : (truM (.lst xs) : M S Bool) = ret (!xs.isEmpty) := (rfl)
@[simp] theorem r_tru_tup (xs : List D) : (truM (.tup xs) : M S Bool) = ret (!xs.isEmpty) := (rfl)
@[simp] theorem r_tru_non : (truM .non : M S Bool) = ret false := (rfl)
@[simp] theorem r_notT (b : Bool) : notT (ret b : M S Bool) = ret (!b) := (rfl)
@[simp] theorem r_andTt (k : M S Bool) : andT (ret true) k = k := (rfl)
@[simp] theorem r_andTf (k : M S Bool) : andT (ret false) k = ret false := (rfl)
@[simp] theorem r_andT (b c : Bool) : andT (ret b : M S Bool) (ret c) = ret (b && c) := by cases b <;> rfl
@[simp] theorem r_orTt (k : M S Bool) : orT (ret true) k = ret true := (rfl)
@[simp] theorem r_orTf (k : M S Bool) : orT (ret false) k = k := (rfl)
@[simp] theorem r_orT (b c : Bool) : orT (ret b : M S Bool) (ret c) = ret (b || c) := by cases b <;> rfl
@[simp] theorem r_andMt (k : M S D) : andM (ret (.bl true)) k = k := (rfl)
@[simp] theorem r_andMf (k : M S D) : andM (ret (.bl false)) k = ret (.bl false) := (rfl)
@[simp] theorem r_andM (b c : Bool) : andM (ret (.bl b) : M S D) (ret (.bl c)) = ret (.bl (b && c)) := by cases b <;> rfl
@[simp] theorem r_orMt (k : M S D) : orM (ret (.bl true)) k = ret (.bl true) := (rfl)
@[simp] theorem r_orMf (k : M S D) : orM (ret (.bl false)) k = k := (rfl)
@[simp] theorem r_orM (b c : Bool) : orM (ret (.bl b) : M S D) (ret (.bl c)) = ret (.bl (b || c)) := by cases b <;> rfl
@[simp] theorem r_notM (d : D) : notM (ret d : M S D) = bnd (truM d) fun t => ret (.bl (!t)) := (rfl)
@[simp] theorem r_negM (d : D) : negM (ret d : M S D) = lift (negD d) := (rfl)
@[simp] theorem r_negD (i : Int) : negD (.int i) = some (.int (-i)) := (rfl)
@[simp] theorem r_ifM (b : Bool) (x y : M S α) : ifM (ret b) x y = if b = true then x else y := (rfl)
@[simp] theorem r_consM (x : D) (xs : List D) : consM (ret x : M S D) (ret xs) = ret (x :: xs) := (rfl)
@[simp] theorem r_tupM (xs : List D) : tupM (ret xs : M S (List D)) = lift (tupD xs) := (rfl)
@[simp] theorem r_lstM (xs : List D) : lstM (ret xs : M S (List D)) = lift (lstD xs) := (rfl)
theorem tupD_le {xs : List D} (h : xs.length ≤ 16777216) : tupD xs = some (.tup xs) := by unfold tupD; rw [if_pos (by rw [sizeLine_eq]; exact h)]
theorem lstD_le {xs : List D} (h : xs.length ≤ 16777216) : lstD xs = some (.lst xs) := by unfold lstD; rw [if_pos (by rw [sizeLine_eq]; exact h)]
@[simp] theorem r_tup0 : tupD [] = some (.tup []) := tupD_le (by decide)
@[simp] theorem r_tup1 (a : D) : tupD [a] = some (.tup [a]) := tupD_le (by simp)
@[simp] theorem r_tup2 (a b : D) : tupD [a, b] = some (.tup [a, b]) := tupD_le (by simp)
@[simp] theorem r_tup3 (a b c : D) : tupD [a, b, c] = some (.tup [a, b, c]) := tupD_le (by simp)
@[simp] theorem r_tup4 (a b c d : D) : tupD [a, b, c, d] = some (.tup [a, b, c, d]) := tupD_le (by simp)
@[simp] theorem r_tup5 (a b c d e : D) : tupD [a, b, c, d, e] = some (.tup [a, b, c, d, e]) := tupD_le (by simp)
@[simp] theorem r_lst0 : lstD [] = some (.lst []) := lstD_le (by decide)
@[simp] theorem r_lst1 (a : D) : lstD [a] = some (.lst [a]) := lstD_le (by simp)
@[simp] theorem r_lst2 (a b : D) : lstD [a, b] = some (.lst [a, b]) := lstD_le (by simp)
@[simp] theorem r_lst3 (a b c : D) : lstD [a, b, c] = some (.lst [a, b, c]) := lstD_le (by simp)
@[simp] theorem r_bcM (g : List D → Option D) (xs : List D) : bcM g (ret xs : M S (List D)) = lift (g xs) := (rfl)
@[simp] theorem r_lenT (xs : List D) : lenD [.tup xs] = some (.int xs.length) := (rfl)
@[simp] theorem r_lenL (xs : List D) : lenD [.lst xs] = some (.int xs.length) := (rfl)
@[simp] theorem r_tupT (xs : List D) : tupleD [.tup xs] = some (.tup xs) := (rfl)
@[simp] theorem r_tupL (xs : List D) : tupleD [.lst xs] = some (.tup xs) := (rfl)
@[simp] theorem r_lstT (xs : List D) : listD [.tup xs] = some (.lst xs) := (rfl)
@[simp] theorem r_lstL (xs : List D) : listD [.lst xs] = some (.lst xs) := (rfl)
@[simp] theorem r_int (i : Int) : intD [.int i] = some (.int i) := (rfl)
@[simp] theorem r_ixM (a b : D) : ixM (ret a : M S D) (ret b) = lift (ixD a b) := (rfl)
@[simp] theorem r_ixT (xs : List D) (i : Int) : ixD (.tup xs) (.int i) = atI xs i := (rfl)
@[simp] theorem r_ixL (xs : List D) (i : Int) : ixD (.lst xs) (.int i) = atI xs i := (rfl)
@[simp] theorem r_ptM (i : Int) : ptM (ret (.int i) : M S D) = ret (some i) := (rfl)
@[simp] theorem r_slM (a : D) (i j : Option Int) : slM (ret a : M S D) (ret i) (ret j) = lift (slD a i j) := (rfl)
@[simp] theorem r_slT (xs : List D) (i j : Option Int) : slD (.tup xs) i j = some (.tup (cutL xs i j)) := (rfl)
@[simp] theorem r_slL (xs : List D) (i j : Option Int) : slD (.lst xs) i j = some (.lst (cutL xs i j)) := (rfl)
@[simp] theorem r_itT (xs : List D) : itM (ret (.tup xs) : M S D) = ret xs := (rfl)
@[simp] theorem r_itL (xs : List D) : itM (ret (.lst xs) : M S D) = ret xs := (rfl)
@[simp] theorem r_isi (T : String) (d : D) : isiM T (ret d : M S D) = lift (isiD T d) := (rfl)
@[simp] theorem r_add (i j : Int) : addD (.int i) (.int j) = some (.int (i + j)) := (rfl)
@[simp] theorem r_sub (i j : Int) : subD (.int i) (.int j) = some (.int (i - j)) := (rfl)
@[simp] theorem r_lt (i j : Int) : ltD (.int i) (.int j) = some (.bl (decide (i < j))) := (rfl)
@[simp] theorem r_le (i j : Int) : leD (.int i) (.int j) = some (.bl (decide (i ≤ j))) := (rfl)
@[simp] theorem r_gt (i j : Int) : gtD (.int i) (.int j) = some (.bl (decide (j < i))) := (rfl)
@[simp] theorem r_ge (i j : Int) : geD (.int i) (.int j) = some (.bl (decide (j ≤ i))) := (rfl)
@[simp] theorem r_isN (d : D) : isD d .non = some (.bl (isNonD d)) := by cases d <;> rfl
@[simp] theorem r_isntN (d : D) : isntD d .non = some (.bl (!isNonD d)) := by cases d <;> rfl
@[simp] theorem r_isB (a b : Bool) : isD (.bl a) (.bl b) = some (.bl (decide (a = b))) := (rfl)
@[simp] theorem r_isntB (a b : Bool) : isntD (.bl a) (.bl b) = some (.bl (!decide (a = b))) := (rfl)
@[simp] theorem nonNon : isNonD .non = true := rfl
@[simp] theorem nonI (i : Int) : isNonD (.int i) = false := rfl
@[simp] theorem nonT (i : List D) : isNonD (.tup i) = false := rfl
@[simp] theorem nonL (i : List D) : isNonD (.lst i) = false := rfl
@[simp] theorem nonB (i : Bool) : isNonD (.bl i) = false := rfl
@[simp] theorem nonS (i : Str) : isNonD (.str i) = false := rfl
theorem mul_ok {i j : Int} (h : (-(2 ^ 64) < i ∧ i < 2 ^ 64) ∨ (-(2 ^ 64) < j ∧ j < 2 ^ 64)) : mulD (.int i) (.int j) = some (.int (i * j)) := by
  show (if mulOk i j then some (D.int (i * j)) else none) = _
  rw [if_pos (show mulOk i j from h)]
theorem div_ok {i j : Int} (h : 0 < j) (h2 : j < 1073741824) : divD (.int i) (.int j) = some (.int (i / j)) := by
  show (if 0 < j ∧ j < 1073741824 then some (D.int (i / j)) else none) = _
  rw [if_pos ⟨h, h2⟩]
theorem mod_ok {i j : Int} (h : 0 < j) : modD (.int i) (.int j) = some (.int (i % j)) := by
  show (if 0 < j then some (D.int (i % j)) else none) = _
  rw [if_pos h]
@[simp] theorem r_retF (d : D) : (retF (ret d) : M S (Fl τ l)) = ret (.rt d) := (rfl)
@[simp] theorem r_endR (d : D) : (endF (.rt d : Fl Unit l) : M S D) = ret d := (rfl)
@[simp] theorem r_endN (u : Unit) : (endF (.nx u : Fl Unit l) : M S D) = ret .non := (rfl)
@[simp] theorem r_iteF (b : Bool) (mA mB : M S (Fl τ' l)) (k : τ' → M S (Fl τ l)) : iteF (ret b) mA mB k = if b = true then bnd mA (fun f => seqF f k) else bnd mB (fun f => seqF f k) := by cases b <;> rfl
@[simp] theorem r_seqN (s : τ') (k : τ' → M S (Fl τ l)) : seqF (.nx s) k = k s := (rfl)
@[simp] theorem r_seqR (d : D) (k : τ' → M S (Fl τ l)) : seqF (.rt d) k = ret (.rt d) := (rfl)
@[simp] theorem r_seqB (s : l) (k : τ' → M S (Fl τ l)) : seqF (.bk s) k = ret (.bk s) := (rfl)
@[simp] theorem r_seqC (s : l) (k : τ' → M S (Fl τ l)) : seqF (.ct s) k = ret (.ct s) := (rfl)
@[simp] theorem r_forM (xs : List D) (f : τ → D → M S (Fl τ τ)) (s0 : τ) (k : τ → M S (Fl τ' l')) : forM' (ret xs) f s0 k = forL f k xs s0 := (rfl)
@[simp] theorem r_forN (f : τ → D → M S (Fl τ τ)) (s0 : τ) (k : τ → M S (Fl τ' l')) : forL f k [] s0 = k s0 := (rfl)
theorem forL_cons (f : τ → D → M S (Fl τ τ)) (s0 : τ) (k : τ → M S (Fl τ' l')) (x : D) (xs : List D) : forL f k (x :: xs) s0 = bnd (f s0 x) fun fl => match fl with
    | .nx s' => forL f k xs s'
    | .ct s' => forL f k xs s'
    | .bk s' => k s'
    | .rt d => ret (.rt d) := rfl
@[simp] theorem r_own (xs : List D) (k : D → M S (Fl τ l)) : ownM (ret (.lst xs)) k = k (.lst xs) := (rfl)
@[simp] theorem r_ownd (xs : List (D × D)) (k : D → M S (Fl τ l)) : ownM (ret (.dct xs)) k = k (.dct xs) := (rfl)
@[simp] theorem r_par (a b : D) (k : D → D → M S (Fl τ l)) : parM .E .E (ret a) (ret b) k = k a b := (rfl)
@[simp] theorem r_parN (a : D) (b : List D) (k : D → D → M S (Fl τ l)) : parM .E .N (ret a) (ret (.lst b)) k = k a (.lst b) := (rfl)
@[simp] theorem r_parNN (a b : List D) (k : D → D → M S (Fl τ l)) : parM .N .N (ret (.lst a)) (ret (.lst b)) k = k (.lst a) (.lst b) := (rfl)
theorem app_ok {xs : List D} {y : D} {k : D → M S (Fl τ l)} (h : xs.length < 16777216) : appM (.lst xs) (ret y) k = k (.lst (xs ++ [y])) := by
  show bnd (lift (if xs.length < sizeLine then some (D.lst (xs ++ [y])) else none)) k = _
  rw [if_pos (by rw [sizeLine_eq]; exact h)]; rfl
theorem ext_ok {xs ys : List D} {k : D → M S (Fl τ l)} (h : xs.length + ys.length ≤ 16777216) : extM (.lst xs) (ret (.lst ys)) k = k (.lst (xs ++ ys)) := by
  show bnd (lift (if xs.length + ys.length ≤ sizeLine then some (D.lst (xs ++ ys)) else none)) k = _
  rw [if_pos (by rw [sizeLine_eq]; exact h)]; rfl
theorem addT_ok {xs ys : List D} (h : xs.length + ys.length ≤ 16777216) : addD (.tup xs) (.tup ys) = some (.tup (xs ++ ys)) := by
  show (if xs.length + ys.length ≤ sizeLine then some (D.tup (xs ++ ys)) else none) = _
  rw [if_pos (by rw [sizeLine_eq]; exact h)]
theorem addL_ok {xs ys : List D} (h : xs.length + ys.length ≤ 16777216) : addD (.lst xs) (.lst ys) = some (.lst (xs ++ ys)) := by
  show (if xs.length + ys.length ≤ sizeLine then some (D.lst (xs ++ ys)) else none) = _
  rw [if_pos (by rw [sizeLine_eq]; exact h)]
theorem rng1_ok {j : Int} (h : -(2 ^ 62) ≤ j) (h2 : j < 2 ^ 62) : rng1M (ret (.int j) : M S D) = ret (rng 0 j) := by
  show (if -(2 ^ 62) ≤ j ∧ j < 2 ^ 62 then ret (rng 0 j) else stuck : M S (List D)) = _
  rw [if_pos ⟨h, h2⟩]
theorem rng2_ok {i j : Int} (h : -(2 ^ 62) ≤ i) (h2 : i < 2 ^ 62) (h3 : -(2 ^ 62) ≤ j) (h4 : j < 2 ^ 62) : rng2M (ret (.int i) : M S D) (ret (.int j)) = ret (rng i j) := by
  show (if -(2 ^ 62) ≤ i ∧ i < 2 ^ 62 ∧ -(2 ^ 62) ≤ j ∧ j < 2 ^ 62 then ret (rng i j) else stuck : M S (List D)) = _
  rw [if_pos ⟨h, h2, h3, h4⟩]
theorem comp_ok {xs : List D} {f : D → M S (Option D)} (h : xs.length ≤ 16777216) : compM (ret xs) f = bnd (compL f xs) fun ys => ret (.lst ys) := by
  show (if xs.length ≤ sizeLine then _ else _) = _
  rw [if_pos (by rw [sizeLine_eq]; exact h)]
@[simp] theorem r_elt (b : Bool) (y : D) : eltM (ret b : M S Bool) (ret y) = ret (if b = true then some y else none) := by cases b <;> rfl
@[simp] theorem r_eltT (m : M S D) : eltM (ret true) m = bnd m fun y => ret (some y) := (rfl)
@[simp] theorem r_eltF (m : M S D) : eltM (ret false) m = ret none := (rfl)
@[simp] theorem r_compN {f : α → M S (Option β)} : compL f [] = ret [] := (rfl)
theorem compL_cons {f : α → M S (Option β)} (x : α) (xs : List α) : compL f (x :: xs) = bnd (f x) fun o => bnd (compL f xs) fun ys => ret (match o with | some y => y :: ys | none => ys) := rfl
theorem compL_map {γ : Type} {f : α → M S (Option β)} (g : γ → α) : ∀ xs : List γ, compL f (xs.map g) = compL (fun c => f (g c)) xs
  | [] => rfl
  | x :: xs => by rw [List.map_cons, compL_cons, compL_cons, compL_map g xs]
theorem compL_pure {f : α → M S (Option β)} (g : α → Option β) : ∀ {xs : List α}, (∀ x ∈ xs, f x = ret (g x)) → compL f xs = ret (xs.filterMap g)
  | [], _ => rfl
  | x :: xs, h => by
    rw [compL_cons, h x List.mem_cons_self, compL_pure g fun y hy => h y (List.mem_cons_of_mem _ hy), List.filterMap_cons]
    simp only [r_bnd]
    cases g x <;> rfl
/-- every item goes, each as g says -/
theorem compL_all {f : α → M S (Option β)} (g : α → β) {xs : List α} (h : ∀ x ∈ xs, f x = ret (some (g x))) : compL f xs = ret (xs.map g) := by
  rw [compL_pure (fun x => some (g x)) h]
  congr 1
  induction xs with
  | nil => rfl
  | cons x xs ih => rw [List.filterMap_cons, List.map_cons]; simp only; rw [ih fun y hy => h y (List.mem_cons_of_mem _ hy)]
/-- .. those of which c holds -/
theorem compL_if {f : α → M S (Option β)} (c : α → Bool) (g : α → β) {xs : List α} (h : ∀ x ∈ xs, f x = ret (if c x = true then some (g x) else none)) : compL f xs = ret ((xs.filter c).map g) := by
  rw [compL_pure (fun x => if c x = true then some (g x) else none) h]
  congr 1
  induction xs with
  | nil => rfl
  | cons x xs ih =>
    rw [List.filterMap_cons, List.filter_cons]
    have ih' := ih fun y hy => h y (List.mem_cons_of_mem _ hy)
    cases hc : c x
    · simp [ih']
    · simp [ih']
/-- a loop that always goes on -/
theorem forL_fold {f : τ → D → M S (Fl τ τ)} {k : τ → M S (Fl τ' l')} (g : τ → D → τ) : ∀ {xs : List D} {s0 : τ}, (∀ pre x post, xs = pre ++ x :: post → f (pre.foldl g s0) x = ret (.nx (g (pre.foldl g s0) x))) → forL f k xs s0 = k (xs.foldl g s0)
  | [], _, _ => rfl
  | x :: xs, s0, h => by
    have h0 : f s0 x = ret (.nx (g s0 x)) := h [] x xs rfl
    rw [forL_cons, h0, List.foldl_cons]
    exact forL_fold g fun pre y post e => h (x :: pre) y post (by rw [e]; rfl)
/-- a loop without a state that always goes on -/
theorem forL_unit {f : Unit → D → M S (Fl Unit Unit)} {k : Unit → M S (Fl τ' l')} {xs : List D} (h : ∀ x ∈ xs, f () x = ret (.nx ())) : forL f k xs () = k () := by
  rw [forL_fold (fun _ _ => ()) fun pre x post e => h x (by rw [e]; simp)]
/-- a search -/
theorem forL_find {f : Unit → D → M S (Fl Unit Unit)} {k : Unit → M S (Fl τ' l')} (p : D → Bool) (r : D → D) : ∀ {xs : List D}, (∀ x ∈ xs, f () x = if p x = true then ret (.rt (r x)) else ret (.nx ())) → forL f k xs () = match xs.find? p with | some x => ret (.rt (r x)) | none => k ()
  | [], _ => rfl
  | x :: xs, h => by
    rw [forL_cons, h x List.mem_cons_self, List.find?_cons]
    cases hp : p x
    · simp only [Bool.false_eq_true, if_false, r_bnd]
      exact forL_find p r fun y hy => h y (List.mem_cons_of_mem _ hy)
    · simp
/-! ### whatever the box gives -/
def Wp (m : M S α) (P : α → Prop) : Prop := ∀ s, ∃ a s', m s = some (a, s') ∧ P a
theorem Wp.ret {a : α} {P : α → Prop} (h : P a) : Wp (ret a : M S α) P := fun s => ⟨a, s, rfl, h⟩
theorem Wp.bnd {m : M S α} {k : α → M S β} {P : β → Prop} (h : Wp m fun a => Wp (k a) P) : Wp (bnd m k) P := fun s => by
  obtain ⟨a, s1, e1, h1⟩ := h s
  obtain ⟨b, s2, e2, h2⟩ := h1 s1
  exact ⟨b, s2, by unfold Sn.bnd; rw [e1]; exact e2, h2⟩
theorem Wp.mono {m : M S α} {P Q : α → Prop} (h : Wp m P) (q : ∀ a, P a → Q a) : Wp m Q := fun s => by
  obtain ⟨a, s1, e1, h1⟩ := h s
  exact ⟨a, s1, e1, q a h1⟩
theorem Wp.eq {m n : M S α} {P : α → Prop} (e : m = n) (h : Wp n P) : Wp m P := e ▸ h
/-- all items of a comprehension without a test -/
theorem Wp.comp {f : α → M S (Option β)} {R : α → β → Prop} : ∀ {xs : List α} {P : List β → Prop}, (∀ x ∈ xs, Wp (f x) fun o => ∃ y, o = some y ∧ R x y) → (∀ ys, ys.length = xs.length → (∀ (i : Nat) x y, xs[i]? = some x → ys[i]? = some y → R x y) → P ys) → Wp (compL f xs) P
  | [], P, _, q => Wp.ret (q [] rfl fun i x y h => by simp at h)
  | x :: xs, P, h, q => by
    rw [compL_cons]
    refine Wp.bnd (Wp.mono (h x List.mem_cons_self) fun o ⟨y, e, r⟩ => ?_)
    subst e
    refine Wp.bnd (Wp.comp (fun z hz => h z (List.mem_cons_of_mem _ hz)) fun ys hl hr => Wp.ret (q _ (by simp [hl]) fun i z w h1 h2 => ?_))
    cases i with
    | zero => simp at h1 h2; subst h1 h2; exact r
    | succ i => exact hr i z w (by simpa using h1) (by simpa using h2)
theorem Wp.forU {f : Unit → D → M S (Fl Unit Unit)} {k : Unit → M S (Fl τ' l')} {P : Fl τ' l' → Prop} : ∀ {xs : List D}, (∀ x ∈ xs, Wp (f () x) fun fl => fl = .nx ()) → Wp (k ()) P → Wp (forL f k xs ()) P
  | [], _, hk => hk
  | x :: xs, h, hk => by
    rw [forL_cons]
    refine Wp.bnd (Wp.mono (h x List.mem_cons_self) fun fl e => ?_)
    subst e
    exact Wp.forU (fun y hy => h y (List.mem_cons_of_mem _ hy)) hk
/-- a loop with an invariant by what was taken -/
theorem Wp.forI {f : τ → D → M S (Fl τ τ)} {k : τ → M S (Fl τ' l')} {P : Fl τ' l' → Prop} (I : List D → τ → Prop) {xs : List D} {s0 : τ} (h0 : I [] s0) (h : ∀ pre x post s, xs = pre ++ x :: post → I pre s → Wp (f s x) fun fl => ∃ s', fl = .nx s' ∧ I (pre ++ [x]) s') (hk : ∀ s, I xs s → Wp (k s) P) : Wp (forL f k xs s0) P := by
  suffices g : ∀ (post pre : List D) (s : τ), xs = pre ++ post → I pre s → Wp (forL f k post s) P from g xs [] s0 rfl h0
  intro post
  induction post with
  | nil => intro pre s e hi; rw [List.append_nil] at e; subst e; exact hk s hi
  | cons x post ih =>
    intro pre s e hi
    rw [forL_cons]
    refine Wp.bnd (Wp.mono (h pre x post s e hi) fun fl ⟨s', e', hi'⟩ => ?_)
    subst e'
    exact ih (pre ++ [x]) s' (by rw [e, List.append_assoc]; rfl) hi'
end
theorem Wp.draw {k : Int} {P : D → Prop} (h : 0 < k) (h2 : k < 1073741824) (q : ∀ d : Int, 0 ≤ d → d < k → P (.int d)) : Wp (drawM k) P := fun b => by
  refine ⟨.int (drawB b k h).1, (drawB b k h).2, ?_, ?_⟩
  · unfold drawM
    rw [dif_pos ⟨h, h2⟩]
  · unfold drawB
    split
    · exact q _ (Int.emod_nonneg _ (by omega)) (Int.emod_lt_of_pos _ h)
    · exact q _ (Int.emod_nonneg _ (by omega)) (Int.emod_lt_of_pos _ h)
@[simp] theorem r_draw (k : Int) : m_draw [.box, .int k] = drawM k := (rfl)
/-! ### ranges, places -/
theorem rng_len (lo hi : Int) : (rng lo hi).length = (hi - lo).toNat := by unfold rng; simp
theorem mem_rng {lo hi : Int} {d : D} : d ∈ rng lo hi ↔ ∃ i : Int, d = .int i ∧ lo ≤ i ∧ i < hi := by
  unfold rng
  rw [List.mem_map]
  constructor
  · rintro ⟨k, hk, rfl⟩
    rw [List.mem_range] at hk
    exact ⟨lo + k, rfl, by omega, by omega⟩
  · rintro ⟨i, rfl, h1, h2⟩
    exact ⟨(i - lo).toNat, by rw [List.mem_range]; omega, by congr 1; omega⟩
theorem ixN_nat {n : Nat} {i : Int} (h : 0 ≤ i) (h2 : i < n) : ixN n i = some i.toNat := by unfold ixN; rw [if_pos h, if_pos h2]
theorem atI_ok {α : Type} {xs : List α} {i : Int} (h : 0 ≤ i) (h2 : i < xs.length) : atI xs i = some (xs[i.toNat]'(by omega)) := by
  unfold atI
  rw [ixN_nat h h2]
  exact List.getElem?_eq_getElem (by omega)
theorem atI_map {α β : Type} (f : α → β) (xs : List α) (i : Int) : atI (xs.map f) i = (atI xs i).map f := by
  unfold atI
  rw [List.length_map]
  cases ixN xs.length i with
  | none => rfl
  | some j => simp
theorem cutL_map {α β : Type} (f : α → β) (xs : List α) (i j : Option Int) : cutL (xs.map f) i j = (cutL xs i j).map f := by
  unfold cutL
  rw [List.length_map, List.map_take, List.map_drop]
theorem cutL_to {α : Type} {xs : List α} {k : Int} (h : 0 ≤ k) : cutL xs none (some k) = xs.take k.toNat := by
  unfold cutL
  rw [HT.sIx_none]
  obtain ⟨n, rfl⟩ := Int.eq_ofNat_of_zero_le h
  rw [HT.sIx_nat]
  simp only [List.drop_zero, Nat.sub_zero, Int.toNat_natCast]
  by_cases hn : n ≤ xs.length
  · rw [Nat.min_eq_left hn]
  · rw [Nat.min_eq_right (by omega), List.take_of_length_le (by omega), List.take_of_length_le (by omega)]
theorem cutL_from {α : Type} {xs : List α} {k : Int} (h : 0 ≤ k) : cutL xs (some k) none = xs.drop k.toNat := by
  unfold cutL
  obtain ⟨n, rfl⟩ := Int.eq_ofNat_of_zero_le h
  rw [HT.sIx_nat, HT.sIx_none]
  simp only [Int.toNat_natCast]
  by_cases hn : n ≤ xs.length
  · rw [Nat.min_eq_left hn, List.take_of_length_le (by simp)]
  · rw [Nat.min_eq_right (by omega)]
    simp
    omega
/-! ### plain data: what may be compared -/
inductive Pl : Nat → D → Prop
  | non {n : Nat} : Pl n .non
  | int {n : Nat} (i : Int) : Pl n (.int i)
  | str {n : Nat} {x : Str} (h : PyData.strOk x = true) : Pl n (.str x)
  | tup {n : Nat} {xs : List D} (h : ∀ x ∈ xs, Pl n x) : Pl (n + 1) (.tup xs)
  | lst {n : Nat} {xs : List D} (h : ∀ x ∈ xs, Pl n x) : Pl (n + 1) (.lst xs)
theorem Pl.mono {n m : Nat} {d : D} (h : Pl n d) (hm : n ≤ m) : Pl m d := by
  induction h generalizing m with
  | non => exact .non
  | int i => exact .int i
  | str h => exact .str h
  | tup h ih => cases m with | zero => omega | succ m => exact .tup fun x hx => ih x hx (by omega)
  | lst h ih => cases m with | zero => omega | succ m => exact .lst fun x hx => ih x hx (by omega)
theorem toPys_lay {xs : List D} (h : ∀ x ∈ xs, (toPy x).canLay0 = true) : PyData.canLayAll0 (toPys xs) = true := by
  induction xs with
  | nil => rfl
  | cons x xs ih =>
    simp only [toPys, PyData.canLayAll0, Bool.and_eq_true]
    exact ⟨h x List.mem_cons_self, ih fun y hy => h y (List.mem_cons_of_mem _ hy)⟩
theorem toPys_depth {xs : List D} {n : Nat} (h : ∀ x ∈ xs, (toPy x).depth ≤ n) : PyData.depthAll (toPys xs) ≤ n := by
  induction xs with
  | nil => simp [toPys, PyData.depthAll]
  | cons x xs ih =>
    simp only [toPys, PyData.depthAll]
    have h1 := h x List.mem_cons_self
    have h2 := ih fun y hy => h y (List.mem_cons_of_mem _ hy)
    omega
theorem Pl.lay {n : Nat} {d : D} (h : Pl n d) : (toPy d).canLay0 = true ∧ (toPy d).depth ≤ n := by
  induction h with
  | non => exact ⟨rfl, Nat.zero_le _⟩
  | int i => exact ⟨rfl, Nat.zero_le _⟩
  | str h => exact ⟨by simpa [toPy, PyData.canLay0] using h, Nat.zero_le _⟩
  | tup h ih =>
    refine ⟨by simpa [toPy, PyData.canLay0] using toPys_lay fun x hx => (ih x hx).1, ?_⟩
    simp only [toPy, PyData.depth]
    exact Nat.succ_le_succ (toPys_depth fun x hx => (ih x hx).2)
  | lst h ih =>
    refine ⟨by simpa [toPy, PyData.canLay0] using toPys_lay fun x hx => (ih x hx).1, ?_⟩
    simp only [toPy, PyData.depth]
    exact Nat.succ_le_succ (toPys_depth fun x hx => (ih x hx).2)
theorem Pl.sh {n : Nat} {d : D} (h : Pl n d) (hn : n ≤ 64) : shD d = true := by
  unfold shD SeqAt.shaped
  rw [Bool.and_eq_true]
  exact ⟨h.lay.1, decide_eq_true (Nat.le_trans h.lay.2 hn)⟩
mutual
theorem eqB_of : ∀ {n m : Nat} {x y : D}, Pl n x → Pl m y → (PyData.eqv (toPy x) (toPy y) = true ↔ x = y)
  | _, _, _, _, .non, .non => by simp [toPy, PyData.eqv]
  | _, _, _, _, .non, .int i => by simp [toPy, PyData.eqv]
  | _, _, _, _, .non, .str h => by simp [toPy, PyData.eqv]
  | _, _, _, _, .non, .tup h => by simp [toPy, PyData.eqv]
  | _, _, _, _, .non, .lst h => by simp [toPy, PyData.eqv]
  | _, _, _, _, .int i, .non => by simp [toPy, PyData.eqv]
  | _, _, _, _, .int i, .int j => by simp [toPy, PyData.eqv]
  | _, _, _, _, .int i, .str h => by simp [toPy, PyData.eqv]
  | _, _, _, _, .int i, .tup h => by simp [toPy, PyData.eqv]
  | _, _, _, _, .int i, .lst h => by simp [toPy, PyData.eqv]
  | _, _, _, _, .str g, .non => by simp [toPy, PyData.eqv]
  | _, _, _, _, .str g, .int i => by simp [toPy, PyData.eqv]
  | _, _, _, _, .str g, .str h => by simp [toPy, PyData.eqv]
  | _, _, _, _, .str g, .tup h => by simp [toPy, PyData.eqv]
  | _, _, _, _, .str g, .lst h => by simp [toPy, PyData.eqv]
  | _, _, _, _, .tup g, .non => by simp [toPy, PyData.eqv]
  | _, _, _, _, .tup g, .int i => by simp [toPy, PyData.eqv]
  | _, _, _, _, .tup g, .str h => by simp [toPy, PyData.eqv]
  | _, _, _, _, .tup g, .tup h => by simp only [toPy, PyData.eqv, D.tup.injEq]; exact eqL_of g h
  | _, _, _, _, .tup g, .lst h => by simp [toPy, PyData.eqv]
  | _, _, _, _, .lst g, .non => by simp [toPy, PyData.eqv]
  | _, _, _, _, .lst g, .int i => by simp [toPy, PyData.eqv]
  | _, _, _, _, .lst g, .str h => by simp [toPy, PyData.eqv]
  | _, _, _, _, .lst g, .tup h => by simp [toPy, PyData.eqv]
  | _, _, _, _, .lst g, .lst h => by simp only [toPy, PyData.eqv, D.lst.injEq]; exact eqL_of g h
theorem eqL_of : ∀ {n m : Nat} {xs ys : List D}, (∀ x ∈ xs, Pl n x) → (∀ y ∈ ys, Pl m y) → (PyData.eqvAll (toPys xs) (toPys ys) = true ↔ xs = ys)
  | _, _, [], [], _, _ => by simp [toPys, PyData.eqvAll]
  | _, _, [], _ :: _, _, _ => by simp [toPys, PyData.eqvAll]
  | _, _, _ :: _, [], _, _ => by simp [toPys, PyData.eqvAll]
  | _, _, x :: xs, y :: ys, h, g => by
    simp only [toPys, PyData.eqvAll, Bool.and_eq_true, List.cons.injEq]
    rw [eqB_of (h x List.mem_cons_self) (g y List.mem_cons_self), eqL_of (fun z hz => h z (List.mem_cons_of_mem _ hz)) (fun z hz => g z (List.mem_cons_of_mem _ hz))]
end
theorem eqB_iff {n m : Nat} {x y : D} (h : Pl n x) (g : Pl m y) : eqB x y = true ↔ x = y := eqB_of h g
theorem eq_pl {n m : Nat} {x y : D} (h : Pl n x) (g : Pl m y) (hn : n ≤ 64) (hm : m ≤ 64) : eqD x y = some (.bl (decide (x = y))) := by
  unfold eqD
  rw [if_pos ⟨h.sh hn, g.sh hm⟩]
  congr 2
  rw [Bool.eq_iff_iff, eqB_iff h g, decide_eq_true_eq]
theorem ne_pl {n m : Nat} {x y : D} (h : Pl n x) (g : Pl m y) (hn : n ≤ 64) (hm : m ≤ 64) : neD x y = some (.bl (!decide (x = y))) := by
  unfold neD
  rw [if_pos ⟨h.sh hn, g.sh hm⟩]
  congr 3
  rw [Bool.eq_iff_iff, eqB_iff h g, decide_eq_true_eq]
@[simp] theorem r_eq (i j : Int) : eqD (.int i) (.int j) = some (.bl (decide (i = j))) := by
  rw [eq_pl (.int (n := 0) i) (.int (n := 0) j) (by decide) (by decide)]
  congr 2
  rw [Bool.eq_iff_iff, decide_eq_true_eq, decide_eq_true_eq, D.int.injEq]
@[simp] theorem r_ne (i j : Int) : neD (.int i) (.int j) = some (.bl (!decide (i = j))) := by
  rw [ne_pl (.int (n := 0) i) (.int (n := 0) j) (by decide) (by decide)]
  congr 3
  rw [Bool.eq_iff_iff, decide_eq_true_eq, decide_eq_true_eq, D.int.injEq]
@[simp] theorem r_eqb (i j : Bool) : eqD (.bl i) (.bl j) = some (.bl (decide (i = j))) := by
  have h : ∀ b : Bool, shD (.bl b) = true := fun b => by cases b <;> rfl
  unfold eqD
  rw [if_pos ⟨h i, h j⟩]
  cases i <;> cases j <;> rfl
@[simp] theorem r_neb (i j : Bool) : neD (.bl i) (.bl j) = some (.bl (!decide (i = j))) := by
  have h : ∀ b : Bool, shD (.bl b) = true := fun b => by cases b <;> rfl
  unfold neD
  rw [if_pos ⟨h i, h j⟩]
  cases i <;> cases j <;> rfl
theorem inL_pl {n : Nat} {x : D} {ys : List D} (h : Pl n x) (g : ∀ y ∈ ys, Pl n y) (hn : n < 64) : inD x (.lst ys) = some (.bl (decide (x ∈ ys))) := by
  unfold inD
  simp only
  rw [if_pos ⟨h.sh (by omega), (Pl.lst g).sh (by omega)⟩]
  congr 2
  rw [Bool.eq_iff_iff, List.any_eq_true, decide_eq_true_eq]
  constructor
  · rintro ⟨z, hz, e⟩
    rw [eqB_iff (g z hz) h] at e
    exact e ▸ hz
  · intro hx
    exact ⟨x, hx, (eqB_iff (g x hx) h).mpr rfl⟩
theorem ninL_pl {n : Nat} {x : D} {ys : List D} (h : Pl n x) (g : ∀ y ∈ ys, Pl n y) (hn : n < 64) : ninD x (.lst ys) = some (.bl (!decide (x ∈ ys))) := by
  have := inL_pl h g hn
  unfold inD at this
  simp only at this
  unfold ninD
  simp only
  rw [if_pos ⟨h.sh (by omega), (Pl.lst g).sh (by omega)⟩] at this ⊢
  simp only [Option.some.injEq, D.bl.injEq] at this
  rw [this]
/-- lists of ints as data -/
def tI (ns : List Int) : D := .tup (ns.map .int)
def lI (ns : List Int) : D := .lst (ns.map .int)
theorem pl_ints {n : Nat} (ns : List Int) : ∀ x ∈ ns.map D.int, Pl n x := fun x hx => by
  obtain ⟨i, _, rfl⟩ := List.mem_map.mp hx
  exact .int i
theorem pl_tI {n : Nat} (ns : List Int) : Pl (n + 1) (tI ns) := .tup (pl_ints ns)
theorem int_inj : Function.Injective D.int := fun _ _ h => by cases h; rfl
theorem tI_inj {a b : List Int} : tI a = tI b ↔ a = b := by
  unfold tI
  constructor
  · intro h
    injection h with h
    exact List.map_inj_right (f := D.int) (fun _ _ e => by cases e; rfl) |>.mp h
  · intro h; rw [h]
theorem eq_tI (a b : List Int) : eqD (tI a) (tI b) = some (.bl (decide (a = b))) := by
  rw [eq_pl (pl_tI (n := 0) a) (pl_tI (n := 0) b) (by decide) (by decide)]
  congr 2
  rw [Bool.eq_iff_iff, decide_eq_true_eq, decide_eq_true_eq, tI_inj]
theorem asBls_map (bs : List Bool) : asBls (bs.map D.bl) = some bs := by
  induction bs with
  | nil => rfl
  | cons b bs ih => simp [asBls, ih]
theorem asInts_map (bs : List Int) : asInts (bs.map D.int) = some bs := by
  induction bs with
  | nil => rfl
  | cons b bs ih => simp [asInts, ih]
theorem all_bls (bs : List Bool) : allD [.lst (bs.map D.bl)] = some (.bl (bs.all id)) := by simp [allD, asBls_map]
theorem any_bls (bs : List Bool) : anyD [.lst (bs.map D.bl)] = some (.bl (bs.any id)) := by simp [anyD, asBls_map]
theorem sum_ints (bs : List Int) : sumD [.lst (bs.map D.int)] = some (.int bs.sum) := by simp [sumD, asInts_map]
/-- isinstance of each kind -/
theorem kit_tab : kitB "tuple" "tuple" = some true ∧ kitB "tuple" "list" = some false ∧ kitB "tuple" "bool" = some false ∧ kitB "tuple" "int" = some false ∧ kitB "tuple" "str" = some false ∧
    kitB "list" "tuple" = some false ∧ kitB "list" "list" = some true ∧ kitB "list" "bool" = some false ∧ kitB "list" "int" = some false ∧ kitB "list" "str" = some false ∧
    kitB "bool" "tuple" = some false ∧ kitB "bool" "list" = some false ∧ kitB "bool" "bool" = some true ∧ kitB "bool" "int" = some true ∧ kitB "bool" "str" = some false ∧
    kitB "int" "tuple" = some false ∧ kitB "int" "list" = some false ∧ kitB "int" "bool" = some false ∧ kitB "int" "int" = some true ∧ kitB "int" "str" = some false ∧
    kitB "str" "tuple" = some false ∧ kitB "str" "list" = some false ∧ kitB "str" "bool" = some false ∧ kitB "str" "int" = some false ∧ kitB "str" "str" = some true ∧
    kitB "NoneType" "tuple" = some false ∧ kitB "NoneType" "list" = some false ∧ kitB "NoneType" "bool" = some false ∧ kitB "NoneType" "int" = some false ∧ kitB "NoneType" "str" = some false := by decide +kernel
/-- whether a datum is of the type so named, by data -/
def isTy (T : String) : D → Bool
  | .non => false
  | .bl _ => T == "bool" || T == "int"
  | .int _ => T == "int"
  | .str _ => T == "str"
  | .tup _ => T == "tuple"
  | .lst _ => T == "list"
  | .dct _ => T == "dict"
  | .box => false
def noBox : D → Bool
  | .box => false
  | .dct _ => false
  | _ => true
theorem isi_ty {T : String} {d : D} (h : noBox d = true) (hT : T = "tuple" ∨ T = "list" ∨ T = "bool" ∨ T = "int" ∨ T = "str") : isiD T d = some (.bl (isTy T d)) := by
  obtain ⟨a1, a2, a3, a4, a5, b1, b2, b3, b4, b5, c1, c2, c3, c4, c5, d1, d2, d3, d4, d5, e1, e2, e3, e4, e5, f1, f2, f3, f4, f5⟩ := kit_tab
  rcases hT with rfl | rfl | rfl | rfl | rfl <;> cases d <;> first
    | (cases h; done)
    | (simp only [isiD, tyName, Option.bind_some, a1, a2, a3, a4, a5, b1, b2, b3, b4, b5, c1, c2, c3, c4, c5, d1, d2, d3, d4, d5, e1, e2, e3, e4, e5, f1, f2, f3, f4, f5, Option.map_some]; rfl)
@[simp] theorem i_tuple_NoneType : isiD "tuple" .non = some (.bl false) := isi_ty (d := .non) rfl (.inl rfl)
@[simp] theorem i_tuple_bool (b : Bool) : isiD "tuple" (.bl b) = some (.bl false) := isi_ty (d := (.bl b)) rfl (.inl rfl)
@[simp] theorem i_tuple_int (i : Int) : isiD "tuple" (.int i) = some (.bl false) := isi_ty (d := (.int i)) rfl (.inl rfl)
@[simp] theorem i_tuple_str (x : Str) : isiD "tuple" (.str x) = some (.bl false) := isi_ty (d := (.str x)) rfl (.inl rfl)
@[simp] theorem i_tuple_tuple (xs : List D) : isiD "tuple" (.tup xs) = some (.bl true) := isi_ty (d := (.tup xs)) rfl (.inl rfl)
@[simp] theorem i_tuple_list (xs : List D) : isiD "tuple" (.lst xs) = some (.bl false) := isi_ty (d := (.lst xs)) rfl (.inl rfl)
@[simp] theorem i_list_NoneType : isiD "list" .non = some (.bl false) := isi_ty (d := .non) rfl (.inr (.inl rfl))
@[simp] theorem i_list_bool (b : Bool) : isiD "list" (.bl b) = some (.bl false) := isi_ty (d := (.bl b)) rfl (.inr (.inl rfl))
@[simp] theorem i_list_int (i : Int) : isiD "list" (.int i) = some (.bl false) := isi_ty (d := (.int i)) rfl (.inr (.inl rfl))
@[simp] theorem i_list_str (x : Str) : isiD "list" (.str x) = some (.bl false) := isi_ty (d := (.str x)) rfl (.inr (.inl rfl))
@[simp] theorem i_list_tuple (xs : List D) : isiD "list" (.tup xs) = some (.bl false) := isi_ty (d := (.tup xs)) rfl (.inr (.inl rfl))
@[simp] theorem i_list_list (xs : List D) : isiD "list" (.lst xs) = some (.bl true) := isi_ty (d := (.lst xs)) rfl (.inr (.inl rfl))
@[simp] theorem i_bool_NoneType : isiD "bool" .non = some (.bl false) := isi_ty (d := .non) rfl (.inr (.inr (.inl rfl)))
@[simp] theorem i_bool_bool (b : Bool) : isiD "bool" (.bl b) = some (.bl true) := isi_ty (d := (.bl b)) rfl (.inr (.inr (.inl rfl)))
@[simp] theorem i_bool_int (i : Int) : isiD "bool" (.int i) = some (.bl false) := isi_ty (d := (.int i)) rfl (.inr (.inr (.inl rfl)))
@[simp] theorem i_bool_str (x : Str) : isiD "bool" (.str x) = some (.bl false) := isi_ty (d := (.str x)) rfl (.inr (.inr (.inl rfl)))
@[simp] theorem i_bool_tuple (xs : List D) : isiD "bool" (.tup xs) = some (.bl false) := isi_ty (d := (.tup xs)) rfl (.inr (.inr (.inl rfl)))
@[simp] theorem i_bool_list (xs : List D) : isiD "bool" (.lst xs) = some (.bl false) := isi_ty (d := (.lst xs)) rfl (.inr (.inr (.inl rfl)))
@[simp] theorem i_int_NoneType : isiD "int" .non = some (.bl false) := isi_ty (d := .non) rfl (.inr (.inr (.inr (.inl rfl))))
@[simp] theorem i_int_bool (b : Bool) : isiD "int" (.bl b) = some (.bl true) := isi_ty (d := (.bl b)) rfl (.inr (.inr (.inr (.inl rfl))))
@[simp] theorem i_int_int (i : Int) : isiD "int" (.int i) = some (.bl true) := isi_ty (d := (.int i)) rfl (.inr (.inr (.inr (.inl rfl))))
@[simp] theorem i_int_str (x : Str) : isiD "int" (.str x) = some (.bl false) := isi_ty (d := (.str x)) rfl (.inr (.inr (.inr (.inl rfl))))
@[simp] theorem i_int_tuple (xs : List D) : isiD "int" (.tup xs) = some (.bl false) := isi_ty (d := (.tup xs)) rfl (.inr (.inr (.inr (.inl rfl))))
@[simp] theorem i_int_list (xs : List D) : isiD "int" (.lst xs) = some (.bl false) := isi_ty (d := (.lst xs)) rfl (.inr (.inr (.inr (.inl rfl))))
@[simp] theorem i_str_NoneType : isiD "str" .non = some (.bl false) := isi_ty (d := .non) rfl (.inr (.inr (.inr (.inr rfl))))
@[simp] theorem i_str_bool (b : Bool) : isiD "str" (.bl b) = some (.bl false) := isi_ty (d := (.bl b)) rfl (.inr (.inr (.inr (.inr rfl))))
@[simp] theorem i_str_int (i : Int) : isiD "str" (.int i) = some (.bl false) := isi_ty (d := (.int i)) rfl (.inr (.inr (.inr (.inr rfl))))
@[simp] theorem i_str_str (x : Str) : isiD "str" (.str x) = some (.bl true) := isi_ty (d := (.str x)) rfl (.inr (.inr (.inr (.inr rfl))))
@[simp] theorem i_str_tuple (xs : List D) : isiD "str" (.tup xs) = some (.bl false) := isi_ty (d := (.tup xs)) rfl (.inr (.inr (.inr (.inr rfl))))
@[simp] theorem i_str_list (xs : List D) : isiD "str" (.lst xs) = some (.bl false) := isi_ty (d := (.lst xs)) rfl (.inr (.inr (.inr (.inr rfl))))
end Sn

namespace Sn
open PySem PySem.Spec PyProof.Rows L2
section
variable {S : Type} {α β : Type} {τ l τ' l' : Type}
theorem Wp.op2 {g : D → D → Option D} {ma mb : M S D} {P : D → Prop} (h : Wp ma fun x => Wp mb fun y => ∃ d, g x y = some d ∧ P d) : Wp (op2M g ma mb) P :=
  Wp.bnd (h.mono fun _ h => Wp.bnd (h.mono fun _ ⟨_, e, p⟩ => by rw [e]; exact Wp.ret p))
theorem Wp.rng1 {ma : M S D} {P : List D → Prop} (h : Wp ma fun d => ∃ n : Int, d = .int n ∧ (-(2 ^ 62) ≤ n ∧ n < 2 ^ 62) ∧ P (rng 0 n)) : Wp (rng1M ma) P :=
  Wp.bnd (h.mono fun _ ⟨n, e, b, p⟩ => by subst e; exact Wp.eq (rng1_ok b.1 b.2) (Wp.ret p))
theorem Wp.compM {mi : M S (List D)} {f : D → M S (Option D)} {P : D → Prop} (h : Wp mi fun xs => xs.length ≤ 16777216 ∧ Wp (compL f xs) fun ys => P (.lst ys)) : Wp (compM mi f) P :=
  Wp.bnd (h.mono fun xs ⟨hl, h⟩ => by rw [if_pos (by rw [sizeLine_eq]; exact hl)]; exact Wp.bnd (h.mono fun _ p => Wp.ret p))
theorem Wp.elt {m : M S D} {P : Option D → Prop} (h : Wp m fun y => P (some y)) : Wp (eltM (Sn.ret true) m) P :=
  Wp.eq (r_eltT m) (Wp.bnd (h.mono fun _ p => Wp.ret p))
theorem Wp.own {m : M S D} {k : D → M S (Fl τ l)} {P : Fl τ l → Prop} (h : Wp m fun d => isMut d = true ∧ Wp (k d) P) : Wp (ownM m k) P :=
  Wp.bnd (h.mono fun _ ⟨e, h⟩ => by rw [if_pos e]; exact h)
theorem Wp.ite {n : M S Bool} {mA mB : M S (Fl τ' l)} {k : τ' → M S (Fl τ l)} {P : Fl τ l → Prop} (h : Wp n fun t => Wp (if t = true then mA else mB) fun f => Wp (seqF f k) P) : Wp (iteF n mA mB k) P :=
  Wp.bnd (h.mono fun _ h => Wp.bnd h)
theorem Wp.iteN {n : M S Bool} {mA mB : M S (Fl τ' l)} {k : τ' → M S (Fl τ l)} {P : Fl τ l → Prop} (h : Wp n fun t => Wp (if t = true then mA else mB) fun f => ∃ s, f = .nx s ∧ Wp (k s) P) : Wp (iteF n mA mB k) P :=
  Wp.ite (h.mono fun _ h => h.mono fun _ ⟨_, e, h⟩ => by subst e; exact h)
theorem Wp.cmp {g : D → D → Option D} {ma mb : M S D} {P : Bool → Prop} (h : Wp ma fun x => Wp mb fun y => ∃ b, g x y = some (.bl b) ∧ P b) : Wp (cmpT g ma mb) P :=
  Wp.bnd (h.mono fun _ h => Wp.bnd (h.mono fun _ ⟨_, e, p⟩ => by rw [e]; exact Wp.ret p))
theorem Wp.bc {g : List D → Option D} {mr : M S (List D)} {P : D → Prop} (h : Wp mr fun xs => ∃ d, g xs = some d ∧ P d) : Wp (bcM g mr) P :=
  Wp.bnd (h.mono fun _ ⟨_, e, p⟩ => by rw [e]; exact Wp.ret p)
theorem Wp.cons {m : M S D} {mr : M S (List D)} {P : List D → Prop} (h : Wp m fun x => Wp mr fun xs => P (x :: xs)) : Wp (consM m mr) P :=
  Wp.bnd (h.mono fun _ h => Wp.bnd (h.mono fun _ p => Wp.ret p))
theorem Wp.retF {m : M S D} {P : Fl τ l → Prop} (h : Wp m fun d => P (.rt d)) : Wp (retF m) P :=
  Wp.bnd (h.mono fun _ p => Wp.ret p)
theorem Wp.setM {d : D} {me mk : M S D} {k : D → M S (Fl τ l)} {P : Fl τ l → Prop} (h : Wp me fun y => Wp mk fun j => ∃ d', setD d j y = some d' ∧ Wp (k d') P) : Wp (setM d me mk k) P :=
  Wp.bnd (h.mono fun _ h => Wp.bnd (h.mono fun _ ⟨_, e, p⟩ => Wp.bnd (by rw [e]; exact Wp.ret p)))
theorem Wp.appM {d : D} {me : M S D} {k : D → M S (Fl τ l)} {P : Fl τ l → Prop} (h : Wp me fun y => ∃ d', appD d y = some d' ∧ Wp (k d') P) : Wp (appM d me k) P :=
  Wp.bnd (h.mono fun _ ⟨_, e, p⟩ => Wp.bnd (by rw [e]; exact Wp.ret p))
theorem forL_on {f : τ → D → M S (Fl τ τ)} {k : τ → M S (Fl τ' l')} {s0 s1 : τ} {x : D} {xs : List D} (h : f s0 x = ret (.nx s1)) : forL f k (x :: xs) s0 = forL f k xs s1 := by
  rw [forL_cons, h]; rfl
theorem forL_rt {f : τ → D → M S (Fl τ τ)} {k : τ → M S (Fl τ' l')} {s0 : τ} {x d : D} {xs : List D} (h : f s0 x = ret (.rt d)) : forL f k (x :: xs) s0 = ret (.rt d) := by
  rw [forL_cons, h]; rfl
theorem forL_bk {f : τ → D → M S (Fl τ τ)} {k : τ → M S (Fl τ' l')} {s0 s1 : τ} {x : D} {xs : List D} (h : f s0 x = ret (.bk s1)) : forL f k (x :: xs) s0 = k s1 := by
  rw [forL_cons, h]; rfl
theorem forL_ct {f : τ → D → M S (Fl τ τ)} {k : τ → M S (Fl τ' l')} {s0 s1 : τ} {x : D} {xs : List D} (h : f s0 x = ret (.ct s1)) : forL f k (x :: xs) s0 = forL f k xs s1 := by
  rw [forL_cons, h]; rfl
end
/-- a call of draw -/
theorem Wp.drawc {k : Int} {P : D → Prop} (h : 0 < k) (h2 : k < 1073741824) (q : ∀ d : Int, 0 ≤ d → d < k → P (.int d)) : Wp (Sn.bnd (consM (Sn.ret .box) (consM (Sn.ret (.int k)) (Sn.ret []))) m_draw) P :=
  Wp.draw h h2 q
@[simp] theorem r_lst4 (a b c d : D) : lstD [a, b, c, d] = some (.lst [a, b, c, d]) := lstD_le (by simp)
@[simp] theorem r_lst5 (a b c d e : D) : lstD [a, b, c, d, e] = some (.lst [a, b, c, d, e]) := lstD_le (by simp)
@[simp] theorem r_tup6 (a b c d e f : D) : tupD [a, b, c, d, e, f] = some (.tup [a, b, c, d, e, f]) := tupD_le (by simp)
@[simp] theorem r_lst6 (a b c d e f : D) : lstD [a, b, c, d, e, f] = some (.lst [a, b, c, d, e, f]) := lstD_le (by simp)
@[simp] theorem r_tup7 (a b c d e f g : D) : tupD [a, b, c, d, e, f, g] = some (.tup [a, b, c, d, e, f, g]) := tupD_le (by simp)
@[simp] theorem r_lst7 (a b c d e f g : D) : lstD [a, b, c, d, e, f, g] = some (.lst [a, b, c, d, e, f, g]) := lstD_le (by simp)
@[simp] theorem r_tup8 (a b c d e f g h : D) : tupD [a, b, c, d, e, f, g, h] = some (.tup [a, b, c, d, e, f, g, h]) := tupD_le (by simp)
@[simp] theorem r_lst8 (a b c d e f g h : D) : lstD [a, b, c, d, e, f, g, h] = some (.lst [a, b, c, d, e, f, g, h]) := lstD_le (by simp)
@[simp] theorem r_tup9 (a b c d e f g h i : D) : tupD [a, b, c, d, e, f, g, h, i] = some (.tup [a, b, c, d, e, f, g, h, i]) := tupD_le (by simp)
@[simp] theorem r_lst9 (a b c d e f g h i : D) : lstD [a, b, c, d, e, f, g, h, i] = some (.lst [a, b, c, d, e, f, g, h, i]) := lstD_le (by simp)
@[simp] theorem r_tup10 (a b c d e f g h i j : D) : tupD [a, b, c, d, e, f, g, h, i, j] = some (.tup [a, b, c, d, e, f, g, h, i, j]) := tupD_le (by simp)
@[simp] theorem r_lst10 (a b c d e f g h i j : D) : lstD [a, b, c, d, e, f, g, h, i, j] = some (.lst [a, b, c, d, e, f, g, h, i, j]) := lstD_le (by simp)
@[simp] theorem r_tup11 (a b c d e f g h i j k : D) : tupD [a, b, c, d, e, f, g, h, i, j, k] = some (.tup [a, b, c, d, e, f, g, h, i, j, k]) := tupD_le (by simp)
@[simp] theorem r_lst11 (a b c d e f g h i j k : D) : lstD [a, b, c, d, e, f, g, h, i, j, k] = some (.lst [a, b, c, d, e, f, g, h, i, j, k]) := lstD_le (by simp)
@[simp] theorem r_tup12 (a b c d e f g h i j k l : D) : tupD [a, b, c, d, e, f, g, h, i, j, k, l] = some (.tup [a, b, c, d, e, f, g, h, i, j, k, l]) := tupD_le (by simp)
@[simp] theorem r_lst12 (a b c d e f g h i j k l : D) : lstD [a, b, c, d, e, f, g, h, i, j, k, l] = some (.lst [a, b, c, d, e, f, g, h, i, j, k, l]) := lstD_le (by simp)
theorem setD_ok {xs : List D} {i : Int} {y : D} (h : 0 ≤ i) (h2 : i < xs.length) : setD (.lst xs) (.int i) y = some (.lst (xs.set i.toNat y)) := by
  unfold setD
  simp only [ixN_nat h h2, Option.map_some]
theorem modv {k s : Int} : k - k / s * s = k % s := by
  have := Int.emod_add_mul_ediv k s
  rw [Int.mul_comm] at this
  omega
end Sn

namespace Sn
open PySem PySem.Spec PyProof.Rows L2
/-! ### what is never reached -/
section
variable {S : Type} [BoxS S] {C : Stat} {Γ : SCx} {e a b tg : Expr} {es : List Expr} {m ma mb : M S D} {md : Md} {mds : List Md} {pos p : Pos} {x : Str}
theorem Ok.stuck : Ok md C Γ e (Sn.stuck : M S D) := fun X hX W σ Z H st d st' Q r hm q => (stuck_some hm).elim
theorem OkT.stuck : OkT C Γ e (Sn.stuck : M S Bool) := fun X hX W σ Z H st d st' Q r hm q => (stuck_some hm).elim
theorem OkW.stuck : OkW C Γ e (Sn.stuck : M S Bool) := fun X hX W σ Z H st d st' Q r hm q => (stuck_some hm).elim
theorem OkI.stuck {bb : Bool} : OkI bb C Γ tg e (Sn.stuck : M S (List D)) := fun X hX W σ Z H st d st' Q r hm q => (stuck_some hm).elim
end
/-! ### tuple[::-1] -/
section
open HT
variable {prog : Program} {w : World} {A : Around} {E : Value → Shared → Prop} {s : Shared}
theorem adj_rev (n : Nat) : Builtin.Slice.sliceAdjust none none (-1) (n : Int) = ((n : Int) - 1, -1) := rfl
theorem plc_rev (n : Nat) : Builtin.Slice.slicePlaces ((n : Int) - 1) (-1) (-1) = n := by
  unfold Builtin.Slice.slicePlaces
  rw [if_neg (by decide)]
  split
  · rw [show (-(-1 : Int)) = 1 by decide, Int.ediv_one]; omega
  · have : n = 0 := by omega
    subst this; rfl
theorem applied_rev {sl : Addr} {vs : Value} {n : Nat} {Q : Int × Int × Nat → Shared → Prop} (hs : s.heap.IsSliceOf sl .none .none vs) (ps : IsPart vs (some (-1))) (h : Q ((n : Int) - 1, -1, n) s) :
    wpAny (model prog w) A (Builtin.Slice.sliceApplied (.ref sl) (pure (n : Int))) Q E s := by
  obtain ⟨os, o1, o2, o3⟩ := id hs
  unfold Builtin.Slice.sliceApplied Builtin.Slice.sliceFields
  refine wpAny_bind (wpAny_bind (wpAny_field o1 o3 (x := .none) rfl (wpAny_bind (wpAny_field o1 o3 (x := .none) rfl (wpAny_bind (wpAny_field o1 o3 (x := vs) rfl (wpAny_pure ?_))))))); refine wpAny_bind (slicePart_ ps ?_)
  show wpAny _ _ (if (((some (-1 : Int)).getD 1 : Int) == 0) = true then _ else _) _ _ s
  rw [if_neg (by decide)]; refine wpAny_bind (slicePart_ .none (wpAny_bind (slicePart_ .none (wpAny_bind (wpAny_pure ?_)))))
  show wpAny _ _ (pure (((n : Int) - 1), (-1 : Int), Builtin.Slice.slicePlaces ((n : Int) - 1) (-1) (-1))) _ _ s
  rw [plc_rev]; exact wpAny_pure h
theorem fm_congr {α β : Type} {f g : α → Option β} : ∀ {xs : List α}, (∀ x ∈ xs, f x = g x) → xs.filterMap f = xs.filterMap g
  | [], _ => rfl
  | x :: xs, h => by
    rw [List.filterMap_cons, List.filterMap_cons, h x List.mem_cons_self, fm_congr fun y hy => h y (List.mem_cons_of_mem _ hy)]
theorem pick_rev {α : Type} (xs : Array α) : ((List.range xs.size).filterMap fun (k : Nat) => xs[(((xs.size : Nat) : Int) - 1 + (k : Int) * -1).toNat]?).toArray = xs.toList.reverse.toArray := by
  congr 1
  have e : (List.range xs.size).filterMap (fun (k : Nat) => xs[(((xs.size : Nat) : Int) - 1 + (k : Int) * -1).toNat]?) = ((List.range xs.size).map fun k => xs.size - 1 - k).filterMap (xs[·]?) := by
    rw [List.filterMap_map]
    refine fm_congr fun k hk => ?_
    rw [List.mem_range] at hk
    have e : (((xs.size : Nat) : Int) - 1 + (k : Int) * -1).toNat = xs.size - 1 - k := by omega
    show xs[(((xs.size : Nat) : Int) - 1 + (k : Int) * -1).toNat]? = xs[xs.size - 1 - k]?
    rw [e]
  rw [e, PySem.W.krv_range, List.filterMap_reverse, PySem.W.krv_all]
theorem getItem_tuple_rev {t sl : Addr} {items : Array Value} {vs : Value} {Q : Value → Shared → Prop} (ht : IsTup s.heap t items) (hs : s.heap.IsSliceOf sl .none .none vs) (ps : IsPart vs (some (-1)))
    (h : Q (.ref s.heap.objs.size) { s with heap := s.heap.push { cls := .type "tuple", data := .seq items.toList.reverse.toArray } }) (hz : items.size ≤ sizeLine) : wpAny (model prog w) A (getItem (.ref t) (.ref sl)) Q E s := by
  have ok : sizeOk (.seq items.toList.reverse.toArray) := by
    show items.toList.reverse.toArray.size ≤ sizeLine
    rw [List.size_toArray, List.length_reverse, Array.length_toList]; exact hz
  obtain ⟨os, o1, o2, o3⟩ := id hs
  have ty : s.TypeIs (.ref sl) "slice" := ⟨os, o1, o2⟩
  unfold getItem; (try with_reducible refine wpAny_holding ?_); (first | refine wpAny_bind (wpAny_pure ?_) | skip); refine wpAny_bind (wpAny_sequenceKey ht.typeIs (by decide) ?_)
  refine wpAny_bind (wpAny_callSpecial?_slot (name := Str.ofString "__getitem__") ht.typeIs PyProof.Rows.slot_tuple_getitem (wpAny_call_entry PyProof.Rows.slot_tuple_getitem ht.typeIs entry_tuple_getitem ?_ (args_tuple_getitem _ _)))
  show wpAny _ _ (Builtin.Tuple.tupleItemsOf (.ref t) >>= _) _ _ s; refine wpAny_bind (tupleItemsOf_ ht ?_); refine wpAny_bind (wpAny_typeOf ty ?_); rw [if_pos (by decide)]; refine wpAny_bind (applied_rev hs ps ?_)
  show wpAny _ _ (if (((items.size : Nat) : Int) - 1 == 0 && (-1 : Int) == 1 && items.size == items.size) = true then _ else _) _ _ s
  rw [if_neg (by simp), pick_rev]
  first
    | exact wpAny_bind (m := Builtin.Tuple.tupleExact _) (wpAny_newObj_type (wpAny_pure ⟨_, rfl, wpAny_pure h⟩) ok)
    | exact wpAny_bind (m := Builtin.Tuple.tupleExact _) (wpAny_newObj_type (wpAny_bind (wpAny_pure (wpAny_pure ⟨_, rfl, wpAny_pure h⟩))) ok)
    | exact wpAny_bind (wpAny_bind (m := Builtin.Tuple.tupleExact _) (wpAny_newObj_type (wpAny_pure (wpAny_pure ⟨_, rfl, wpAny_pure h⟩)) ok))
    | exact wpAny_bind (wpAny_bind (m := Builtin.Tuple.tupleExact _) (wpAny_newObj_type (wpAny_pure ⟨_, rfl, wpAny_pure h⟩) ok))
end
/-- x[::-1] of tuples and lists -/
def rRev (K : PySem.W.Frag) : V → Hp → VK → Prop := fun x H Q => ∃ a xs, x = .ref a ∧ ((SqT K H a xs ∧ ∀ p, H p = none → Q (.ref p) (upd H p (.tup xs.reverse))) ∨ (SqL K H a xs ∧ ∀ p, H p = none → Q (.ref p) (upd H p (.lst xs.reverse))))
theorem pe_rev2 {X : Cx} {e : Expr} {te : TE} {k : Nat} {p1 p2 p3 pos : Pos} (he : PE X e te) : PE X (.Subscript e (.Slice none none (some (.UnaryOp .USub (.Constant (.int 1) k p1) p2)) p3) pos) (fun σ H Q => te σ H fun x H1 => rRev X.K x H1 Q) := by
  refine ⟨fun pins s σ H Q I h => Subscript_ (thn (he.run pins s σ H _ I h) fun v s1 ⟨x, H1, I1, r1, a, xs, ex, q⟩ => ?_)⟩
  subst ex; cases r1
  have hst : PO X (some (.UnaryOp .USub (.Constant (.int 1) k p1) p2)) (tPart (tUn (L2.rU fun i => .int (-i)) (tC (.int 1)))) := po_some (pe_un un_neg pe_int)
  refine wpAny_Slice (thn (po_none.run pins s1 σ H1 (fun o H2 => o = none ∧ H2 = H1) I1 ⟨rfl, rfl⟩) fun vl s2 ⟨l, H2, I2, pl, el, e2⟩ => ?_); subst el e2; cases pl
  refine thn (po_none.run pins s2 σ H2 (fun o H3 => o = none ∧ H3 = H2) I2 ⟨rfl, rfl⟩) fun vu s3 ⟨u, H3, I3, pu, eu, e3⟩ => ?_; subst eu e3; cases pu
  refine thn (hst.run pins s3 σ H3 (fun o H4 => o = some (-1) ∧ H4 = H3) I3 ⟨1, rfl, -1, rfl, rfl, rfl⟩) fun vs s4 ⟨o, H4, I4, ps, eo, e4⟩ => ?_; subst eo e4
  have I5 : Inv X pins σ H4 { s4 with heap := s4.heap.push { cls := .type "slice", data := .fields #[.none, .none, vs] } } := I4.kept (t' := s4.toks) fun b ob q => Heap.get?_push_of_some _ q
  show wpAny (model X.prog X.w) X.A (subscriptTail e (.Slice none none (some (.UnaryOp .USub (.Constant (.int 1) k p1) p2)) p3) (.ref a) (.ref s4.heap.objs.size)) (EP X pins σ Q) X.xe _
  rcases q with ⟨hx, q⟩ | ⟨hx, q⟩
  · obtain ⟨its, r, ht, hz⟩ := I5.tuple hx
    refine tail_any (ops := [.ref a, .ref s4.heap.objs.size]) ht.typeIs PyProof.Rows.slot_tuple_getitem.lookup (getItem_tuple_rev ht (Heap.IsSliceOf.new _ .none .none vs) ps ?_ (by rw [List.size_toArray, ← r.length]; exact hz)) (by with_unfolding_all rfl)
    refine ⟨.ref _, _, I5.laid (t' := s4.toks) (o := .tup xs.reverse) (fun b ob q => Heap.get?_push_of_some _ q) (Nat.le_refl _) ?_, rfl, q _ (I5.hok.fresh (Nat.le_refl _))⟩
    exact ⟨by rw [List.length_reverse]; exact hz, _, r.reverse, IsTup.new _ _⟩
  · obtain ⟨its, r, ht, hz⟩ := I5.list hx
    refine tail_any (ops := [.ref a, .ref s4.heap.objs.size]) ht.isList.typeIs PySem.slot_list_getitem.lookup (wpAny_getItem_list_slice ht.isList (Heap.IsSliceOf.new _ .none .none vs) .none .none ps (by decide) ?_ (by rw [List.size_toArray, ← r.length]; exact hz)) (by with_unfolding_all rfl)
    rw [PySem.W.krv_pick]
    refine ⟨.ref _, _, I5.laid (t' := s4.toks) (o := .lst xs.reverse) (fun b ob q => Heap.get?_push_of_some _ q) (Nat.le_refl _) ?_, rfl, q _ (I5.hok.fresh (Nat.le_refl _))⟩
    exact ⟨by rw [List.length_reverse]; exact hz, _, 0, r.reverse, Heap.get?_push_size _ rfl⟩
def revD : D → Option D
  | .tup xs => some (.tup xs.reverse)
  | .lst xs => some (.lst xs.reverse)
  | _ => none
section
variable {S : Type} [BoxS S] {C : Stat} {Γ : SCx} {e a b tg : Expr} {es : List Expr} {m ma mb : M S D} {md mda mdb : Md} {mds : List Md} {pos p p1 p2 p3 : Pos} {x : Str} {k : Nat}
theorem Ok.rev (ha : Ok .V C Γ a ma) : Ok .N C Γ (.Subscript a (.Slice none none (some (.UnaryOp .USub (.Constant (.int 1) k p1) p2)) p3) pos) (bnd ma fun x => lift (revD x)) := fun X hX W σ Z H st d st' Q r hm q => by
  obtain ⟨x, st1, h1, hm1⟩ := bnd_some hm
  obtain ⟨hg, rfl⟩ := lift_some hm1
  refine tU_of (pe_rev2 peU) (ha X hX W σ Z H st x _ _ r h1 fun vx Z1 H1 s1 b1 r1 => ?_)
  have q' : ∀ v Z' H', Stp W Z1 H1 Z' H' → BoxS.R st' W.β W.γ H' → Res X.K W .N H1 Z' H' d v → Q v H' := fun v Z' H' s' b' r' => q v Z' H' (s1.trans s') b' (r'.back r.box b1 s1)
  cases x with
  | tup xs =>
    cases hg
    cases r1.1 with | tup hq l => exact ⟨_, _, rfl, .inl ⟨s1.sub.sqT hq, fun p hp => fin_tup s1.zh b1 hp l.rev (by rw [List.length_reverse]; exact (s1.sz r.sz).tup (s1.sub.tupAt hq)) q'⟩⟩
  | lst xs =>
    cases hg
    obtain ⟨a, vs, rfl, hq, l⟩ := r1.1
    exact ⟨_, _, rfl, .inr ⟨.inl (.inl hq), fun p hp => fin_lst s1.zh b1 hp l.rev (by rw [List.length_reverse]; exact (s1.sz r.sz).lst hq) q'⟩⟩
  | _ => cases hg
/-! ### str(x) -/
def strD : List D → Option D
  | [.int i] => if i.natAbs.log2 < 1920 then some (.str (toString i)) else none
  | [.str z] => some (.str z)
  | _ => none
theorem o_str : OpL C (.type "str") strD := fun X hX S _ W Z H st xs dxs d Q zh sz bx r0 hg q => by
  match dxs, hg with
  | [.int i], hg =>
    have hg' : (if i.natAbs.log2 < 1920 then some (D.str (toString i)) else none) = some d := hg
    split at hg'
    · cases hg'
      obtain ⟨v, rfl, r⟩ := r0.one
      cases r
      exact cU_of call_str_int ⟨i, rfl, by assumption, fin_plain zh bx (.str _) rfl q⟩
    · cases hg'
  | [.str z], hg =>
    cases hg
    obtain ⟨v, rfl, r⟩ := r0.one
    cases r
    exact cU_of SkE.call_str_str ⟨z, rfl, fin_plain zh bx (.str _) rfl q⟩
/-! ### zip -/
def zipT (xs ys : List D) : List D := (xs.zip ys).map fun p => .tup [p.1, p.2]
theorem zipT_at {xs ys : List D} {i : Nat} {d : D} (h : (zipT xs ys)[i]? = some d) : ∃ x y, xs[i]? = some x ∧ ys[i]? = some y ∧ d = .tup [x, y] := by
  unfold zipT at h
  rw [List.getElem?_map] at h
  cases e : (xs.zip ys)[i]? with
  | none => rw [e] at h; cases h
  | some p =>
    rw [e] at h; cases h
    obtain ⟨h1, h2⟩ := List.getElem?_zip_eq_some.mp e
    exact ⟨p.1, p.2, h1, h2, rfl⟩
theorem zipT_len (xs ys : List D) : (zipT xs ys).length = min xs.length ys.length := by unfold zipT; rw [List.length_map, List.length_zip]
/-- a new pair -/
theorem yld_pair {K : PySem.W.Frag} {W : Wd} {Z2 H2 : Hp} {S : Type} [BoxS S] {st : S} {T : Addr} {x y : V} {dx dy : D} (zh : ∀ a o, Z2 a = some o → H2 a = some o ∧ ¬ W.bx a) (bx : BoxS.R st W.β W.γ H2) (hT : H2 T = none) (rx : Rep K W.β Z2 dx x) (ry : Rep K W.β Z2 dy y) :
    ∃ Z3, Stp W Z2 H2 Z3 (upd H2 T (.tup [x, y])) ∧ BoxS.R st W.β W.γ (upd H2 T (.tup [x, y])) ∧ Rep K W.β Z3 (.tup [dx, dy]) (.ref T) := by
  have s2 := Stp.layZ (o := .tup [x, y]) zh bx hT (by show 2 ≤ sizeLine; decide)
  exact ⟨_, s2, box_lay bx hT, .tup (.inl upd_same) ((RepL.cons rx (.cons ry .nil)).mono s2.zz)⟩
theorem yld_zipL {X : Cx} {W : Wd} {Z H : Hp} {a b : Addr} {vs us : List V} {xs ys : List D} (na : ¬ W.bx a) (nb : ¬ W.bx b) (ha : H a = some (.lst vs)) (hb : H b = some (.lst us)) (l : RepL X.K W.β Z xs vs) (l2 : RepL X.K W.β Z ys us) :
    Yld X.K W (Itz X.K a b) (zipT xs ys) (fun c => c = a ∨ c = b) Z H := by
  refine ⟨fun c e => ?_, fun i Z2 H2 st sz zh ka _ bx => ⟨fun hi => ?_, fun d hd => ?_⟩⟩
  · rcases e with rfl | rfl
    · exact ⟨⟨_, ha⟩, na⟩
    · exact ⟨⟨_, hb⟩, nb⟩
  · rw [zipT_len, l.length, l2.length] at hi
    exact ⟨vs, us, .inl (.inl (ka a _ (.inl rfl) ha)), .inl (.inl (ka b _ (.inr rfl) hb)), by omega⟩
  · obtain ⟨x, y, h1, h2, rfl⟩ := zipT_at hd
    obtain ⟨v, g1, rv⟩ := l.get h1
    obtain ⟨u, g2, ru⟩ := l2.get h2
    have qa : SqL X.K H2 a vs := .inl (.inl (ka a _ (.inl rfl) ha))
    have qb : SqL X.K H2 b us := .inl (.inl (ka b _ (.inr rfl) hb))
    refine ⟨⟨vs, us, v, u, qa, qb, g1, g2⟩, fun z H3 yy => ?_⟩
    obtain ⟨T, v', u', rfl, hT, rfl, e1, e2⟩ := yy
    have e1 := e1 _ qa; rw [g1] at e1; cases e1
    have e2 := e2 _ qb; rw [g2] at e2; cases e2
    exact yld_pair zh bx hT (rv.mono sz) (ru.mono sz)
theorem yld_zipT {X : Cx} {W : Wd} {Z H : Hp} {a b : Addr} {vs us : List V} {xs ys : List D} (ha : TupAt X.K Z a vs) (hb : TupAt X.K Z b us) (l : RepL X.K W.β Z xs vs) (l2 : RepL X.K W.β Z ys us) :
    Yld X.K W (RZ.ItzT X.K a b) (zipT xs ys) (fun _ => False) Z H := by
  refine ⟨fun c e => e.elim, fun i Z2 H2 st sz zh ka _ bx => ?_⟩
  have qa : SqT X.K H2 a vs := (subOf zh).sqT (sz.tupAt ha)
  have qb : SqT X.K H2 b us := (subOf zh).sqT (sz.tupAt hb)
  refine ⟨fun hi => ?_, fun d hd => ?_⟩
  · rw [zipT_len, l.length, l2.length] at hi
    exact ⟨vs, us, qa, qb, by omega⟩
  · obtain ⟨x, y, h1, h2, rfl⟩ := zipT_at hd
    obtain ⟨v, g1, rv⟩ := l.get h1
    obtain ⟨u, g2, ru⟩ := l2.get h2
    refine ⟨⟨vs, us, v, u, qa, qb, g1, g2⟩, fun z H3 yy => ?_⟩
    obtain ⟨T, v', u', rfl, hT, rfl, e1, e2⟩ := yy
    have e1 := e1 _ qa; rw [g1] at e1; cases e1
    have e2 := e2 _ qb; rw [g2] at e2; cases e2
    exact yld_pair zh bx hT (rv.mono sz) (ru.mono sz)
def zipM {S : Type} (x y : D) : M S (List D) :=
  match x, y with
  | .tup xs, .tup ys => ret (zipT xs ys)
  | .lst xs, .lst ys => ret (zipT xs ys)
  | _, _ => Sn.stuck
theorem OkI.zip {bb : Bool} {elts : List Expr} {kk : Nat} {tpos : Pos} (ha : Ok mda C Γ a ma) (hb : Ok mdb C Γ b mb) (hg : C.sc.names.lookup ("zip" : Str) = some .globalImplicit) (hm : C.G.mg "zip" = none) (h1 : mda = .V → bb = false) (h2 : mdb = .V → bb = false)
    (hp : plainArg a = true := by rfl) (hp2 : plainArg b = true := by rfl) : OkI bb C Γ (.Tuple elts kk tpos) (.Call (.Name "zip" p) [a, b] [] pos) (bnd ma fun x => bnd mb fun y => zipM x y) := fun X hX W σ Z H st xs st' R r hm' q => by
  obtain ⟨d, st1, g1, hm1⟩ := bnd_some hm'
  obtain ⟨d2, st2, g2, hm2⟩ := bnd_some hm1
  refine tUI_of (RZ.pi_zipA (hX.glob hg) (hX.none hm) (pa_cons peU (pa_cons peU pa_nil (starEach_plain _ hp2)) (starEach_plain _ hp)) (by rw [starEach_plain _ hp]) (by rw [starEach_plain _ hp2]; rfl)) ?_
  refine ha X hX W σ Z H st d st1 _ r g1 fun v1 Z1 H1 s1 b1 r1 => ?_
  refine hb X hX W σ Z1 H1 st1 d2 st2 _ (r.step s1 b1) g2 fun v2 Z2 H2 s2 b2 r2 => ?_
  have r1v := (r1.stp s2).view (s1.trans s2).zh
  have r2v := r2.view s2.zh
  have notOwn : ∀ {md : Md} {H0 : Hp} {Z0 : Hp} {d : D} {p : Addr}, Res X.K W md H0 Z2 H2 d (.ref p) → isMut d = true → (md = .V → bb = false) → bb = true → (∀ a, H0 a = none → H a = none) → ¬ ownA Γ σ p ∧ (Z2 p ≠ none ∨ H p = none) := by
    intro md H0 Z0 d p rr mu hV hbb back
    cases md with
    | V => rw [hV rfl] at hbb; cases hbb
    | E =>
      have hz : Z2 p ≠ none := by
        cases d with
        | lst ds => cases rr with | lst hz _ => rw [hz]; exact fun e => nomatch e
        | dct ds => cases rr with
          | dK hz _ => rw [hz]; exact fun e => nomatch e
          | dT hz _ => rw [hz]; exact fun e => nomatch e
        | _ => cases mu
      refine ⟨fun ho => ?_, .inl hz⟩
      obtain ⟨i, d', k1, k2⟩ := ho
      obtain ⟨b', e', zb, _, _, _⟩ := ((r.step s1 b1).step s2 b2).own i d' k1
      rw [k2] at e'; cases e'
      exact hz zb
    | N =>
      obtain ⟨f1, _, _⟩ := rr.2 p rfl mu
      refine ⟨fun ho => ?_, .inr (back _ f1)⟩
      obtain ⟨o, ho'⟩ := r.ownThere ho
      rw [back _ f1] at ho'; cases ho'
  cases d with
  | tup xs1 => cases d2 with
    | tup ys1 =>
      obtain ⟨rfl, rfl⟩ := ret_some hm2
      cases r1v.1 with | tup hq l => cases r2v.1 with | tup hq2 l2 =>
        exact ⟨_, _, _, _, rfl, .inr ⟨(s1.trans s2).sub.sqT hq, s2.sub.sqT hq2, q _ _ Z2 H2 (s1.trans s2) b2 (yld_zipT hq hq2 l l2) fun _ _ h => h.elim⟩⟩
    | _ => exact (stuck_some (S := S) (α := List D) (s := st2) hm2).elim
  | lst xs1 => cases d2 with
    | lst ys1 =>
      obtain ⟨rfl, rfl⟩ := ret_some hm2
      obtain ⟨p1, vs, rfl, hq, l⟩ := r1v.1
      obtain ⟨p2, us, rfl, hq2, l2⟩ := r2v.1
      refine ⟨p1, p2, vs, us, rfl, .inl ⟨.inl (.inl hq), .inl (.inl hq2), q _ _ Z2 H2 (s1.trans s2) b2 (yld_zipL (r1v.2 _ rfl rfl) (r2v.2 _ rfl rfl) hq hq2 l l2) fun hbb c hc => ?_⟩⟩
      rcases hc with rfl | rfl
      · exact notOwn (Z0 := Z) (r1.stp s2) rfl h1 hbb fun _ h => h
      · exact notOwn (Z0 := Z) r2 rfl h2 hbb fun _ h => fresh_back r.box b1 s1 h
    | _ => exact (stuck_some (S := S) (α := List D) (s := st2) hm2).elim
  | _ => exact (stuck_some (S := S) (α := List D) (s := st2) hm2).elim
end
section
variable {S : Type}
def revM (ma : M S D) : M S D := bnd ma fun x => lift (revD x)
def zipM2 (ma mb : M S D) : M S (List D) := bnd ma fun x => bnd mb fun y => zipM x y
end
end Sn

namespace Sn
open PySem PySem.Spec PyProof.Rows L2
/-! ### plain library, second part: ints, lists of ints, searches, loops -/
def rI (lo hi : Int) : List Int := (List.range (hi - lo).toNat).map fun k : Nat => lo + (k : Int)
theorem rng_rI (lo hi : Int) : rng lo hi = (rI lo hi).map .int := by unfold rng rI; rw [List.map_map]; rfl
theorem mem_rI {lo hi i : Int} : i ∈ rI lo hi ↔ lo ≤ i ∧ i < hi := by
  unfold rI
  rw [List.mem_map]
  constructor
  · rintro ⟨k, hk, rfl⟩
    rw [List.mem_range] at hk
    omega
  · rintro ⟨h1, h2⟩
    exact ⟨(i - lo).toNat, by rw [List.mem_range]; omega, by omega⟩
theorem rI_len (lo hi : Int) : (rI lo hi).length = (hi - lo).toNat := by unfold rI; simp
theorem rI_lt (a b : Int) : (rI a b).Pairwise (· < ·) := by
  unfold rI
  rw [List.pairwise_map]
  exact List.pairwise_lt_range.imp fun h => by omega
/-- a range from nought, by naturals -/
theorem rng_nat (n : Nat) : rng 0 (n : Int) = (List.range n).map fun k : Nat => D.int k := by
  unfold rng
  rw [show ((n : Int) - 0).toNat = n by omega]
  exact List.map_congr_left fun k _ => by rw [Int.zero_add]
theorem rng_nat1 (n : Nat) : rng 1 ((n : Int) + 1) = (List.range n).map fun k : Nat => D.int ((k + 1 : Nat) : Int) := by
  unfold rng
  rw [show ((n : Int) + 1 - 1).toNat = n by omega]
  exact List.map_congr_left fun k _ => by congr 1; omega
theorem getD_in {α : Type} {l : List α} {k : Nat} {d : α} (h : k < l.length) : l.getD k d = l[k] := by simp [List.getD, h]
theorem len_tI (w : List Int) : lenD [tI w] = some (.int w.length) := by simp [tI, lenD]
theorem len_lI (w : List Int) : lenD [lI w] = some (.int w.length) := by simp [lI, lenD]
theorem ix_tI {w : List Int} {i : Int} (h : 0 ≤ i) (h2 : i < w.length) : ixD (tI w) (.int i) = some (.int (w[i.toNat]'(by omega))) := by
  unfold tI
  rw [r_ixT, atI_map, atI_ok h h2]
  rfl
theorem ix_hd {d : D} {r : List D} : atI (d :: r) 0 = some d := by
  rw [atI_ok (by decide) (by rw [List.length_cons]; omega)]
  rfl
/-- the first of a list, of those that go up -/
theorem hd_filter {c : Nat → Bool} : ∀ {L : List Nat} {t : Nat}, L.Pairwise (· < ·) → t ∈ L → c t = true → (∀ s ∈ L, s < t → c s = false) → ∃ r, L.filter c = t :: r
  | [], _, _, h, _, _ => by cases h
  | a :: L, t, hp, h, hc, hs => by
    by_cases e : a = t
    · subst e
      rw [List.filter_cons, if_pos hc]
      exact ⟨_, rfl⟩
    · have hm : t ∈ L := (List.mem_cons.mp h).resolve_left fun h => e h.symm
      rw [List.filter_cons, if_neg (by rw [hs a List.mem_cons_self ((List.pairwise_cons.mp hp).1 t hm)]; exact Bool.false_ne_true)]
      exact hd_filter (List.pairwise_cons.mp hp).2 hm hc fun s hs' => hs s (List.mem_cons_of_mem _ hs')
/-- a search in a list of data, with the kinds of what is searched told -/
theorem forL_findG {S : Type} {α : Type} {τ' l' : Type} {f : Unit → D → M S (Fl Unit Unit)} {k : Unit → M S (Fl τ' l')} (g : α → D) (p : α → Bool) (r : α → D) : ∀ {xs : List α}, (∀ x ∈ xs, f () (g x) = if p x = true then ret (.rt (r x)) else ret (.nx ())) → forL f k (xs.map g) () = match xs.find? p with | some x => ret (.rt (r x)) | none => k ()
  | [], _ => rfl
  | x :: xs, h => by
    rw [List.map_cons, forL_cons, h x List.mem_cons_self, List.find?_cons]
    cases hp : p x
    · simp only [Bool.false_eq_true, if_false, r_bnd]
      exact forL_findG g p r fun y hy => h y (List.mem_cons_of_mem _ hy)
    · simp
theorem whileL_on {S τ τ' l' : Type} {c : τ → M S Bool} {f : τ → M S (Fl τ τ)} {k : τ → M S (Fl τ' l')} {n : Nat} {s s' : τ} (hc : c s = ret true) (hf : f s = ret (.nx s')) : whileL c f k (n + 1) s = whileL c f k n s' := by
  show bnd (c s) _ = _
  rw [hc, r_bnd, if_pos rfl, hf]
  rfl
theorem whileL_off {S τ τ' l' : Type} {c : τ → M S Bool} {f : τ → M S (Fl τ τ)} {k : τ → M S (Fl τ' l')} {n : Nat} {s : τ} (hc : c s = ret false) : whileL c f k (n + 1) s = k s := by
  show bnd (c s) _ = _
  rw [hc, r_bnd]
  rfl
theorem fuel_eq : fuel = 1000000000 := rfl
/-! ### what comes again -/
def PerI {α : Type} (f : Nat → α) (p : Nat) : Prop := ∀ t, f (t + p) = f t
theorem PerI.mul {α : Type} {f : Nat → α} {p : Nat} (h : PerI f p) : ∀ m t, f (t + m * p) = f t
  | 0, t => by simp
  | m + 1, t => by rw [Nat.add_mul, Nat.one_mul, ← Nat.add_assoc, h, h.mul m t]
theorem PerI.dvd {α : Type} {f : Nat → α} {p q : Nat} (h : PerI f p) (d : p ∣ q) : PerI f q := fun t => by
  obtain ⟨m, rfl⟩ := d
  rw [Nat.mul_comm]; exact h.mul m t
theorem PerI.mod {α : Type} {f : Nat → α} {p : Nat} (h : PerI f p) (t : Nat) : f (t % p) = f t := by
  have := h.mul (t / p) (t % p)
  rw [Nat.mul_comm, Nat.mod_add_div] at this
  exact this.symm
theorem PerI.gcd {α : Type} {f : Nat → α} (a b : Nat) (ha : PerI f a) (hb : PerI f b) : PerI f (Nat.gcd a b) := by
  induction a, b using Nat.gcd.induction with
  | H0 n => rw [Nat.gcd_zero_left]; exact hb
  | H1 m n hm ih =>
    rw [Nat.gcd_rec]
    refine ih (fun t => ?_) ha
    have e := ha.mul (n / m) (t + n % m)
    have d := Nat.mod_add_div n m
    rw [show t + n % m + n / m * m = t + n by rw [Nat.mul_comm (n / m)]; omega, hb] at e
    exact e.symm
end Sn

namespace Sn
open PySem PySem.Spec PyProof.Rows L2
/-! ### comprehensions of two clauses -/
section
variable {S : Type} [BoxS S] {K : PySem.W.Frag} {W : Wd} {Γ : SCx} {σ : L2.St} {Z H Z1 H1 Z2 H2 Z' H' : Hp} {st st' st1 : S} {D : Addr} {acc : List V} {dacc : List Sn.D}
theorem SR.lstp (r : SR K W Γ σ Z H st) (nd : ¬ ownA Γ σ D) (s : Stp W Z (upd H D (.lst [])) Z' (upd H' D (.lst []))) (zh : ∀ a o, Z' a = some o → H' a = some o ∧ ¬ W.bx a) (sz : Sz H') (b : BoxS.R st' W.β W.γ H') : SR K W Γ σ Z' H' st' where
  ln := r.ln
  sz := sz
  box := b
  zh := zh
  frz := fun i d h => by
    obtain ⟨v, e, q⟩ := r.frz i d h
    exact ⟨v, e, q.mono s.zz⟩
  own := fun i d h => by
    obtain ⟨a, e, z, n, mu, q⟩ := r.own i d h
    have hne : a ≠ D := fun ea => nd ⟨i, d, h, by rw [← ea]; exact e⟩
    obtain ⟨o, ho⟩ := r.ownThere ⟨i, d, h, e⟩
    refine ⟨a, e, ?_, n, mu, q.mono s.zz fun c ec u hu => ?_⟩
    · cases q' : Z' a with
      | none => rfl
      | some u =>
        rcases s.nw a u q' with w | w
        · rw [z] at w; cases w
        · rw [upd_ne hne, ho] at w; cases w
    · cases ec
      have := s.hh a u (by rw [upd_ne hne]; exact hu) n
      rwa [upd_ne hne] at this
  dis := r.dis
/-- the list so far lies at D, all else as steps leave it -/
structure LS {S : Type} [BoxS S] (K : PySem.W.Frag) (W : Wd) (D : Addr) (Z1 H1 Z' H' : Hp) (acc : List V) (dacc : List Sn.D) (st : S) : Prop where
  s : Stp W Z1 (upd H1 D (.lst [])) Z' (upd H' D (.lst []))
  hD : H' D = some (.lst acc)
  zD : Z' D = none
  zh : ∀ a o, Z' a = some o → H' a = some o ∧ ¬ W.bx a
  sz : Sz H'
  b : BoxS.R st W.β W.γ H'
  r : RepL K W.β Z' dacc acc
theorem Stp.at' (t : Stp W Z H Z' H') (nbD : ¬ W.bx D) {acc : List V} (hD : H D = some (.lst acc)) (zD : Z D = none) (hl : acc.length ≤ sizeLine) : Stp W Z (upd H D (.lst [])) Z' (upd H' D (.lst [])) ∧ Z' D = none ∧ H' D = some (.lst acc) := by
  have z2 : Z' D = none := by
    cases q : Z' D with
    | none => rfl
    | some u =>
      rcases t.nw D u q with w | w
      · rw [zD] at w; cases w
      · rw [hD] at w; cases w
  refine ⟨⟨t.zz, fun a o h => ?_, fun a o h nb => ?_, fun a o h => ?_, fun hs => ?_⟩, z2, t.hh D _ hD nbD⟩
  · have hne : a ≠ D := fun z => by rw [z, z2] at h; cases h
    exact ⟨by rw [upd_ne hne]; exact (t.zh a o h).1, (t.zh a o h).2⟩
  · rcases upd_get h with ⟨rfl, rfl⟩ | ⟨hne, h⟩
    · exact upd_same
    · rw [upd_ne hne]; exact t.hh a o h nb
  · rcases t.nw a o h with w | w
    · exact .inl w
    · by_cases e : a = D
      · subst e; rw [z2] at h; cases h
      · exact .inr (by rw [upd_ne e]; exact w)
  · intro a vs hr
    by_cases e : a = D
    · subst e
      rcases hr with hr | hr <;> (rw [upd_same] at hr; cases hr)
      exact Nat.zero_le _
    · have hs2 : Sz H := fun a2 vs2 hr2 => by
        by_cases e2 : a2 = D
        · subst e2
          rw [hD] at hr2
          rcases hr2 with hr2 | hr2 <;> cases hr2
          exact hl
        · exact hs a2 vs2 (by rw [upd_ne e2]; exact hr2)
      exact t.sz hs2 a vs (by rw [upd_ne e] at hr; exact hr)
theorem LS.step (l : LS K W D Z1 H1 Z' H' acc dacc st) (nbD : ¬ W.bx D) (t : Stp W Z' H' Z2 H2) (b2 : BoxS.R st' W.β W.γ H2) : LS K W D Z1 H1 Z2 H2 acc dacc st' := by
  obtain ⟨t1, t2, t3⟩ := t.at' nbD l.hD l.zD (l.sz D acc (.inl l.hD))
  exact ⟨l.s.trans t1, t3, t2, t.zh, t.sz l.sz, b2, l.r.mono t.zz⟩
theorem LS.push (l : LS K W D Z1 H1 Z' H' acc dacc st) (nbD : ¬ W.bx D) {v : V} {d : Sn.D} (q : Rep K W.β Z' d v) (hl : acc.length < sizeLine) : LS K W D Z1 H1 Z' (upd H' D (.lst (acc ++ [v]))) (acc ++ [v]) (dacc ++ [d]) st := by
  have hlen : (acc ++ [v]).length ≤ sizeLine := by rw [List.length_append, List.length_singleton]; omega
  refine ⟨by rw [upd_upd]; exact l.s, upd_same, l.zD, fun a o h => ?_, l.sz.upd hlen, BoxS.congr l.b (upd_ne fun e => nbD (.inl e.symm)) (upd_ne fun e => nbD (.inr e.symm)), l.r.append (.cons q .nil)⟩
  have hne : a ≠ D := fun z => by rw [z, l.zD] at h; cases h
  exact ⟨by rw [upd_ne hne]; exact (l.zh a o h).1, (l.zh a o h).2⟩
end
def compLL {S α β : Type} (f : α → M S (List β)) : List α → M S (List β)
  | [] => ret []
  | x :: xs => bnd (f x) fun l => bnd (compLL f xs) fun ys => ret (l ++ ys)
/-- an outer clause's tests, then the inner clause -/
def elt2M {S : Type} (mt : M S Bool) (mi : M S (List D)) (f : D → M S (Option D)) : M S (List D) := bnd mt fun t => if t = true then bnd mi fun xs => compL f xs else ret []
theorem wipe_idem : ∀ (us ws : List Nat) (ρ : L2.St), (∀ i ∈ us, i ∈ ws) → wipe (wipe ρ us) ws = wipe ρ ws := by
  intro us ws ρ
  induction us with
  | nil => intro _; rfl
  | cons u us ih =>
    intro h
    show wipe ((wipe ρ us).set u none) ws = wipe ρ ws
    rw [wipe_set (h u List.mem_cons_self), ih fun i hi => h i (List.mem_cons_of_mem _ hi)]
section
variable {S : Type} [BoxS S] {C : Stat} {Γ Γ' : SCx} {c elt tg iter tg1 iter1 : Expr} {ifs ifs1 : List Expr} {pos : Pos}
theorem lc2_rd {scope : Scope} (own : List (Str × Nat)) (vs1 : List Nat) {mi : M S (List D)} {f : D → M S (List D)} (hi : OkI false C Γ tg iter mi)
    (hb : ∀ d, BindOk (C.blk scope) (wipeΓ Γ (own.map (·.2))) [tg] [d] (fun i => i ∈ own.map (·.2)) (fun Γ' n => ∃ mt mi1 f1, OkTs (C.blk scope) Γ' ifs mt ∧ OkI true (C.blk scope) Γ' tg1 iter1 mi1 ∧
      (∀ d1, BindOk (C.blk scope) (wipeΓ Γ' vs1) [tg1] [d1] (fun i => i ∈ vs1) (fun Γ2 n1 => ∃ mt1 me, OkTs (C.blk scope) Γ2 ifs1 mt1 ∧ Ok .E (C.blk scope) Γ2 elt me ∧ n1 = eltM mt1 me) (f1 d1)) ∧ n = elt2M mt mi1 f1) (f d))
    (X : Cx) (hX : CtxP C X) (W : Wd) (σ : L2.St) (Z H : Hp) (st : S) (d : D) (st' : S) (Q : VK) (r : SR X.K W Γ σ Z H st) (hm : (bnd mi fun xs => bnd (compLL f xs) fun ys => if ys.length ≤ sizeLine then ret (.lst ys) else stuck) st = some (d, st'))
    (q : ∀ v Z' H', Stp W Z H Z' H' → BoxS.R st' W.β W.γ H' → Res X.K W .N H Z' H' d v → Q v H') : tLc2 (tUI X tg iter) (bG X scope tg) (bT X scope ifs) (bI X scope tg1 iter1) (bG X scope tg1) (bT X scope ifs1) (bE X scope elt) (own.map (·.2)) vs1 σ H Q := by
  obtain ⟨xs, st1, h1, hm1⟩ := bnd_some hm
  obtain ⟨ys, st2, h2, hm2⟩ := bnd_some hm1
  by_cases hys : ys.length ≤ sizeLine
  · rw [if_pos hys] at hm2
    obtain ⟨rfl, rfl⟩ := ret_some hm2
    refine hi X hX W σ Z H st xs st1 _ r h1 fun J A Z1 H1 s1 b1 y1 _ => fun D hD => ?_
    have r1 := r.step s1 b1
    have nbD : ¬ W.bx D := BoxS.bxThere b1 hD
    have zD : Z1 D = none := z_none s1.zh hD
    have notD : ¬ ownA Γ σ D := fun h => by
      obtain ⟨o, ho⟩ := r1.ownThere h
      rw [hD] at ho; cases ho
    refine ⟨fun i n H' => ∃ Z' acc dacc st3 rst, n = xs.length - i ∧ i ≤ xs.length ∧ LS X.K W D Z1 H1 Z' H' acc dacc st3 ∧ compLL f (xs.drop i) st3 = some (rst, st') ∧ ys = dacc ++ rst,
      ⟨xs.length, Z1, [], [], st1, ys, by omega, Nat.zero_le _, ⟨?_, upd_same, zD, fun a o h => ⟨by rw [upd_ne (ne_of_none (s1.zh a o h).1 hD)]; exact (s1.zh a o h).1, (s1.zh a o h).2⟩, (s1.sz r.sz).upd (Nat.zero_le _), box_lay b1 hD, .nil⟩, h2, rfl⟩, ?_⟩
    · rw [upd_upd]
      exact Stp.refl fun a o h => ⟨by rw [upd_ne (ne_of_none (s1.zh a o h).1 hD)]; exact (s1.zh a o h).1, (s1.zh a o h).2⟩
    rintro i n H2 ⟨Z2, acc, dacc, st3, rst, rfl, hi2, l2, run2, ey⟩
    have ka : ∀ a o, A a → H1 a = some o → H2 a = some o := fun a o ha h => by
      have hne : a ≠ D := ne_of_none h hD
      have := l2.s.hh a o (by rw [upd_ne hne]; exact h) (y1.1 a ha).2
      rwa [upd_ne hne] at this
    have yy := y1.2 i Z2 H2 st3 l2.s.zz l2.zh ka l2.sz l2.b
    have rr : SR X.K W Γ σ Z2 H2 st3 := r1.lstp notD l2.s l2.zh l2.sz l2.b
    by_cases hlt : i < xs.length
    · have hd : xs[i]? = some xs[i] := List.getElem?_eq_getElem hlt
      rw [List.drop_eq_getElem_cons hlt] at run2
      obtain ⟨l, st4, h4, run3⟩ := bnd_some (show bnd (f xs[i]) _ st3 = some (rst, st') from run2)
      obtain ⟨zs, st5, h5, run4⟩ := bnd_some run3
      obtain ⟨er, rfl⟩ := ret_some run4
      obtain ⟨go, yl⟩ := yy.2 _ hd
      refine .inr ⟨go, fun H' => ∃ Z' acc dacc st3 rst, LS X.K W D Z1 H1 Z' H' acc dacc st3 ∧ compLL f (xs.drop (i + 1)) st3 = some (rst, st') ∧ ys = dacc ++ rst, fun H' hN => ?_, fun x H3 hy => ?_⟩
      · obtain ⟨Z', acc, dacc, st3, rst, q1, q2, q3⟩ := hN
        exact ⟨xs.length - (i + 1), by omega, Z', acc, dacc, st3, rst, rfl, hlt, q1, q2, q3⟩
      · obtain ⟨Z3, s3, b3, rx⟩ := yl x H3 hy
        intro s0 H0 C' cl fp
        have hXb := hX.blk scope s0 H0 C' cl fp
        rcases hb xs[i] with hb' | ⟨Γ', vs, ht, hvs, mt, mi1, f1, ot, oi, ob, en⟩
        · rw [hb' st3] at h4; cases h4
        · obtain ⟨Γ1, v1, v2, t1, ⟨e1, e2⟩, e3⟩ := ht
          subst e1
          subst e2
          rw [List.append_nil] at e3
          subst e3
          rw [en] at h4
          obtain ⟨t, st6, h6, h7⟩ := bnd_some h4
          refine t1 _ hXb W (wipe σ (own.map (·.2))) Z3 H3 st3 x _ ((rr.step s3 b3).wipe) rx fun σ3 r4 w4 o4 => ?_
          refine ⟨by
            have := w4 (own.map (·.2)) hvs
            rw [this]
            exact wipe_idem _ _ σ fun _ h => h, fun s5 H5 C5 cl5 fp5 => ?_⟩
          have hXc := hX.blk scope s5 H5 C5 cl5 fp5
          have l3 := l2.step nbD s3 b3
          refine ot _ hXc W σ3 Z3 H3 st3 t st6 _ r4 h6 fun Z6 H6 s6 b6 => ?_
          have l6 := l3.step nbD s6 b6
          have r6 := r4.step s6 b6
          cases t with
          | false =>
            rw [if_neg Bool.false_ne_true] at h7 ⊢
            obtain ⟨rfl, rfl⟩ := ret_some h7
            exact ⟨Z6, acc, dacc, st4, zs, l6, h5, by rw [ey, er, List.nil_append]⟩
          | true =>
            rw [if_pos rfl] at h7 ⊢
            obtain ⟨xs1, st7, h8, h9⟩ := bnd_some h7
            intro s8 H8 C8 cl8 fp8
            have hXd := hX.blk scope s8 H8 C8 cl8 fp8
            refine oi _ hXd W σ3 Z6 H6 st6 xs1 st7 _ r6 h8 fun J1 A1 Z7 H7 s7 b7 y7 nA => ?_
            have l7 := l6.step nbD s7 b7
            have r7 := r6.step s7 b7
            have notD1 : ¬ ownA Γ' σ3 D := fun h => by
              rcases o4 D h with w
              obtain ⟨k, dk, g1, g2⟩ := w
              obtain ⟨g3, g4⟩ := wipeΓ_some g1
              rw [wipe_get g4] at g2
              exact notD ⟨k, dk, g3, g2⟩
            have aD : ¬ A1 D := fun h => by
              rcases (nA rfl D h).2 with w | w
              · exact w l7.zD
              · rw [l6.hD] at w; cases w
            refine ⟨fun j k H' => ∃ Z' acc' dacc' stj rstj, k = xs1.length - j ∧ j ≤ xs1.length ∧ LS X.K W D Z1 H1 Z' H' acc' dacc' stj ∧ Stp W Z7 (upd H7 D (.lst [])) Z' (upd H' D (.lst [])) ∧ compL f1 (xs1.drop j) stj = some (rstj, st4) ∧ ys = dacc' ++ (rstj ++ zs),
              ⟨xs1.length, Z7, acc, dacc, st7, l, by omega, Nat.zero_le _, l7, Stp.refl fun a o h => ?_, h9, by rw [ey, er]⟩, ?_⟩
            · have hne : a ≠ D := fun z => by rw [z, l7.zD] at h; cases h
              exact ⟨by rw [upd_ne hne]; exact (l7.zh a o h).1, (l7.zh a o h).2⟩
            rintro j k H9 ⟨Z9, acc', dacc', stj, rstj, rfl, hj, l9, s9, run9, ey9⟩
            have ka1 : ∀ a o, A1 a → H7 a = some o → H9 a = some o := fun a o ha h => by
              have hne : a ≠ D := fun z => aD (z ▸ ha)
              have := s9.hh a o (by rw [upd_ne hne]; exact h) (y7.1 a ha).2
              rwa [upd_ne hne] at this
            have yy1 := y7.2 j Z9 H9 stj s9.zz l9.zh ka1 l9.sz l9.b
            have r9 : SR X.K W Γ' σ3 Z9 H9 stj := r7.lstp notD1 s9 l9.zh l9.sz l9.b
            by_cases hjl : j < xs1.length
            · have hd1 : xs1[j]? = some xs1[j] := List.getElem?_eq_getElem hjl
              rw [List.drop_eq_getElem_cons hjl] at run9
              obtain ⟨o, stk, g4, run10⟩ := bnd_some (show bnd (f1 xs1[j]) _ stj = some (rstj, st4) from run9)
              obtain ⟨zs1, st11, g5, run11⟩ := bnd_some run10
              obtain ⟨er1, rfl⟩ := ret_some run11
              obtain ⟨go1, yl1⟩ := yy1.2 _ hd1
              refine .inr ⟨go1, fun H' => ∃ Z' acc' dacc' stj rstj, LS X.K W D Z1 H1 Z' H' acc' dacc' stj ∧ Stp W Z7 (upd H7 D (.lst [])) Z' (upd H' D (.lst [])) ∧ compL f1 (xs1.drop (j + 1)) stj = some (rstj, st4) ∧ ys = dacc' ++ (rstj ++ zs), fun H' hN => ?_, fun x1 H10 hy1 => ?_⟩
              · obtain ⟨Z', acc', dacc', stj, rstj, q1, q2, q3, q4⟩ := hN
                exact ⟨xs1.length - (j + 1), by omega, Z', acc', dacc', stj, rstj, rfl, hjl, q1, q2, q3, q4⟩
              · obtain ⟨Z10, s10, b10, rx1⟩ := yl1 x1 H10 hy1
                intro s12 H12 C12 cl12 fp12
                have hXe := hX.blk scope s12 H12 C12 cl12 fp12
                rcases ob xs1[j] with ob' | ⟨Γ2, ws, ht1, hws, mt1, me, ot1, oe, en1⟩
                · rw [ob' stj] at g4; cases g4
                · obtain ⟨Γ3, u1, u2, t2, ⟨f1', f2'⟩, f3'⟩ := ht1
                  subst f1'
                  subst f2'
                  rw [List.append_nil] at f3'
                  subst f3'
                  rw [en1] at g4
                  obtain ⟨t', st13, g6, g7⟩ := bnd_some g4
                  refine t2 _ hXe W (wipe σ3 vs1) Z10 H10 stj x1 _ ((r9.step s10 b10).wipe) rx1 fun σ4 r10 w5 o5 => ?_
                  refine ⟨by
                    have := w5 vs1 hws
                    rw [this]
                    exact wipe_idem _ _ σ3 fun _ h => h, fun s14 H14 C14 cl14 fp14 => ?_⟩
                  have hXf := hX.blk scope s14 H14 C14 cl14 fp14
                  have l10 := l9.step nbD s10 b10
                  have step7 : ∀ {Za Ha : Hp}, Stp W Z9 H9 Za Ha → Stp W Z7 (upd H7 D (.lst [])) Za (upd Ha D (.lst [])) := fun t => s9.trans (t.at' nbD l9.hD l9.zD (l9.sz D acc' (.inl l9.hD))).1
                  refine ot1 _ hXf W σ4 Z10 H10 stj t' st13 _ r10 g6 fun Z15 H15 s15 b15 => ?_
                  have l15 := l10.step nbD s15 b15
                  cases t' with
                  | false =>
                    rw [if_neg Bool.false_ne_true] at g7 ⊢
                    obtain ⟨rfl, rfl⟩ := ret_some g7
                    exact ⟨Z15, acc', dacc', stk, zs1, l15, step7 (s10.trans s15), g5, by rw [ey9, er1]⟩
                  | true =>
                    rw [if_pos rfl] at g7 ⊢
                    obtain ⟨y, st16, g8, g9⟩ := bnd_some g7
                    obtain ⟨rfl, rfl⟩ := ret_some g9
                    intro s17 H17 C17 cl17 fp17
                    have hXg := hX.blk scope s17 H17 C17 cl17 fp17
                    refine oe _ hXg W σ4 Z15 H15 st13 y _ _ (r10.step s15 b15) g8 fun v Z18 H18 s18 b18 r18 => ?_
                    have l18 := l15.step nbD s18 b18
                    have hlen : acc'.length < sizeLine := by
                      have e1 := congrArg List.length ey9
                      have e2 := l9.r.length
                      rw [er1] at e1
                      simp only [List.length_append, List.length_cons] at e1
                      omega
                    refine ⟨acc', l18.hD, hlen, Z18, acc' ++ [v], dacc' ++ [y], stk, zs1, l18.push nbD r18 hlen, ?_, g5, ?_⟩
                    · rw [upd_upd]; exact step7 ((s10.trans s15).trans s18)
                    · rw [ey9, er1]; simp
            · have e : j = xs1.length := by omega
              subst e
              rw [List.drop_length] at run9
              obtain ⟨rfl, rfl⟩ := ret_some run9
              exact .inl ⟨yy1.1 (Nat.le_refl _), Z9, acc', dacc', st4, zs, l9, h5, by rw [ey9, List.nil_append]⟩
    · have e : i = xs.length := by omega
      subst e
      rw [List.drop_length] at run2
      obtain ⟨rfl, rfl⟩ := ret_some run2
      rw [List.append_nil] at ey
      subst ey
      refine .inl ⟨yy.1 (Nat.le_refl _), ?_⟩
      refine q (.ref D) Z2 H2 ⟨s1.zz.trans l2.s.zz, l2.zh, fun a o h nb => ?_, fun a o h => ?_, fun _ => l2.sz⟩ l2.b ⟨⟨D, acc, rfl, l2.hD, l2.r⟩, fun a ea _ => ?_⟩
      · have h' := s1.hh a o h nb
        have hne : a ≠ D := ne_of_none h' hD
        have := l2.s.hh a o (by rw [upd_ne hne]; exact h') nb
        rwa [upd_ne hne] at this
      · rcases l2.s.nw a o h with w | w
        · exact s1.nw a o w
        · by_cases e : a = D
          · subst e; rw [l2.zD] at h; cases h
          · rw [upd_ne e] at w
            cases q' : H a with
            | none => exact .inr rfl
            | some u => rw [s1.hh a u q' (l2.zh a o h).2] at w; cases w
      · cases ea
        exact ⟨fresh_back r.box b1 s1 hD, l2.zD, nbD⟩
  · rw [if_neg hys] at hm2; exact (stuck_some hm2).elim
theorem Ok.lc2 {scope : Scope} (own : List (Str × Nat)) (vs1 : List Nat) {mi : M S (List D)} {f : D → M S (List D)} (hi : OkI false C Γ tg iter mi)
    (hb : ∀ d, BindOk (C.blk scope) (wipeΓ Γ (own.map (·.2))) [tg] [d] (fun i => i ∈ own.map (·.2)) (fun Γ' n => ∃ mt mi1 f1, OkTs (C.blk scope) Γ' ifs mt ∧ OkI true (C.blk scope) Γ' tg1 iter1 mi1 ∧
      (∀ d1, BindOk (C.blk scope) (wipeΓ Γ' vs1) [tg1] [d1] (fun i => i ∈ vs1) (fun Γ2 n1 => ∃ mt1 me, OkTs (C.blk scope) Γ2 ifs1 mt1 ∧ Ok .E (C.blk scope) Γ2 elt me ∧ n1 = eltM mt1 me) (f1 d1)) ∧ n = elt2M mt mi1 f1) (f d))
    (hv : ∀ i ∈ vs1, i ∈ own.map (·.2) := by decide) (ok : blkC C.N C.sc scope own = true := by (try dsimp only [Stat.blk]); decide +kernel) (hs : ∀ (env : Env) x, foldedSetIterable iter env x = pure x := by intro _ _; rfl) (hs1 : ∀ (env : Env) x, foldedSetIterable iter1 env x = pure x := by intro _ _; rfl) :
    OkC C Γ (.ListComp elt [⟨tg, iter, ifs, 0⟩, ⟨tg1, iter1, ifs1, 0⟩] scope pos) (bnd mi fun xs => bnd (compLL f xs) fun ys => if ys.length ≤ sizeLine then Sn.ret (.lst ys) else Sn.stuck) := by
  refine ⟨fun X hX W σ Z H st d st' Q r hm q => ?_, fun X hX i y py spos hN hyl hsw W σ Z H st d st' r hm => ?_⟩
  · exact tU_of (pe_lc2 (own := own) (vs1 := vs1) hX.calm (by rw [hX.N]; exact hX.nd) piU (blkOk_by (by rw [hX.N, hX.sc]; exact ok)) hv bG_ok bT_ok bI_ok bG_ok bT_ok bE_ok (hs _) hs1) (lc2_rd own vs1 hi hb X hX W σ Z H st d st' Q r hm q)
  · exact ⟨_, ps_setLc2 (own := own) (vs1 := vs1) hX.calm (by rw [hX.N]; exact hX.nd) (by rw [hX.N]; exact hN) (by rw [hX.sc]; exact hyl) hsw piU (blkOk_by (by rw [hX.N, hX.sc]; exact ok)) hv bG_ok bT_ok bI_ok bG_ok bT_ok bE_ok (hs _) hs1, fun Q q => lc2_rd own vs1 hi hb X hX W σ Z H st d st' Q r hm q⟩
end
section
variable {S : Type}
def comp2M (mi : M S (List D)) (f : D → M S (List D)) : M S D := bnd mi fun xs => bnd (compLL f xs) fun ys => if ys.length ≤ sizeLine then ret (.lst ys) else stuck
end
end Sn

namespace Sn
open PySem PySem.Spec PyProof.Rows L2
/-! ### methods of lists, as expressions -/
def mU (X : Cx) (id : String) : V → List V → Hp → VK → Prop := fun x xs H Q => ∀ (pins : List (Addr × Obj)) (s : Shared) (σ : L2.St) (v : Value) (us : List Value), Inv X pins σ H s → RelV x v → Vals xs us → wpAny (model X.prog X.w) X.A (call (.builtin id) (v :: us)) (EP X pins σ Q) X.xe s
theorem mrU {X : Cx} {id : String} : MtR X id (mU X id) := fun pins s σ H x xs v us Q I rx r h => h pins s σ v us I rx r
theorem mU_of {X : Cx} {id : String} {r : V → List V → Hp → VK → Prop} {x : V} {xs : List V} {H : Hp} {Q : VK} (h : MtR X id r) (q : r x xs H Q) : mU X id x xs H Q := fun pins s σ v us I rx r' => h pins s σ H x xs v us Q I rx r' q
/-- a method of a list, by data -/
def OpM (C : Stat) (id : String) (g : List D → List D → Option D) : Prop :=
  ∀ X, CtxP C X → ∀ {S : Type} [BoxS S] (W : Wd) (Z H : Hp) (st : S) (p : Addr) (vs : List V) (ds : List D) (xs : List V) (dxs : List D) (d : D) (Q : VK), (∀ a o, Z a = some o → H a = some o ∧ ¬ W.bx a) → Sz H → BoxS.R st W.β W.γ H →
    H p = some (.lst vs) → RepL X.K W.β Z ds vs → ResL X.K W (dxs.map fun _ => Md.V) H Z H dxs xs → g ds dxs = some d →
    (∀ v Z' H', Stp W Z H Z' H' → BoxS.R st W.β W.γ H' → Res X.K W .N H Z' H' d v → Q v H') → mU X id (.ref p) xs H Q
def mlD (g : List D → List D → Option D) (x : D) (xs : List D) : Option D :=
  match x with
  | .lst ds => g ds xs
  | _ => none
section
variable {S : Type} [BoxS S] {C : Stat} {Γ : SCx} {e a b : Expr} {es : List Expr} {m ma mb : M S D} {md : Md} {mds : List Md} {ap cp : Pos}
theorem Ok.mlist {id : String} {name : Str} {g : List D → List D → Option D} {mr : M S (List D)} (ho : OpM C id g) (slot : Slot "list" name id) (hty : typeOf (.builtin id) = pure (.type "method_descriptor")) (ha : Ok .V C Γ a ma) (hes : OkA mds C Γ (e :: es) mr)
    (hp : plainArg e = true := by rfl) (hbase : ∀ env : Env, attributeBase a name env (eval a env) = eval a env := by intro _; rfl)
    (hfew : ∀ env : Env, ((backTo cp (starEach (e :: es) env)).all (fun x => !x.1) && (backToKw cp (keywordEach [] env)).all (fun x => x.1.isSome) && decide ((e :: es).length + ([] : List Keyword).length + (if ([] : List Keyword).isEmpty then 0 else 1) < 30)) = true := by intro _; rfl)
    (hline : (ap.endLine == cp.line) = true := by rfl) (hpl : ∀ env : Env, (backTo cp (starEach es env)).any (·.1) = false := by intro _; rfl) :
    Ok .N C Γ (.Call (.Attribute a name ap) (e :: es) [] cp) (bnd ma fun x => bnd mr fun xs => lift (mlD g x xs)) := fun X hX W σ Z H st d st' Q r hm q => by
  obtain ⟨x, st1, h1, hm1⟩ := bnd_some hm
  obtain ⟨xs, st2, h2, hm2⟩ := bnd_some hm1
  obtain ⟨hg, rfl⟩ := lift_some hm2
  cases x with
  | lst ds =>
    refine tU_of (pe_bm PySem.F.plainAttrs_list slot hty mrU peU paU (hbase _) (hfew _) hline (starEach_plain _ hp) (hpl _)) ?_
    refine ha X hX W σ Z H st _ st1 _ r h1 fun v Z1 H1 s1 b1 r1 => ?_
    have nb := r1.2
    obtain ⟨p, vs, rfl, hq, l⟩ := r1.1
    refine ⟨.inl ⟨rfl, _, .inl (.inl hq)⟩, ?_⟩
    refine hes X hX W σ Z1 H1 st1 xs _ _ (r.step s1 b1) h2 fun us Z2 H2 s2 b2 r2 => ?_
    have s12 := s1.trans s2
    exact ho X hX W Z2 H2 _ p vs ds us xs d Q s12.zh (s12.sz r.sz) b2 (s2.hh _ _ hq (nb p rfl rfl)) (l.mono s2.zz) (r2.views s2.zh) hg fun v Z' H' s' b' r' => q v Z' H' (s12.trans s') b' (r'.back r.box b2 s12)
  | _ => cases hg
end
def countD (ds xs : List D) : Option D :=
  match xs with
  | [.int k] => (asInts ds).map fun is => .int (is.count k : Nat)
  | _ => none
theorem o_count {C : Stat} : OpM C "list.count" countD := fun X hX S _ W Z H st p vs ds xs dxs d Q zh sz bx hq l r0 hg q => by
  match dxs, hg with
  | [.int k], hg =>
    obtain ⟨is, e, rfl⟩ := Option.map_eq_some_iff.mp hg
    obtain ⟨v, rfl, r⟩ := r0.one
    cases r
    have := asInts_rep l e
    subst this
    exact mU_of mt_lcount ⟨p, is, k, rfl, rfl, .inl (.inl hq), fin_plain zh bx (.int _) rfl q⟩
section
variable {S : Type}
def mlM (g : List D → List D → Option D) (ma : M S D) (mr : M S (List D)) : M S D := bnd ma fun x => bnd mr fun xs => lift (mlD g x xs)
end
end Sn

namespace Sn
open PySem PySem.Spec PyProof.Rows L2
/-! ### dicts whose keys are ints and texts -/
def kq : D → Option Key
  | .int i => some (.inl i)
  | .str x => some (.inr x)
  | _ => none
theorem kq_keyD (k : Key) : kq (keyD k) = some k := by cases k <;> rfl
theorem keyD_of {d : D} {k : Key} (h : kq d = some k) : d = keyD k := by
  cases d <;> first | (cases h; rfl) | cases h
def dget (ds : List (D × D)) (k : Key) : Option D := (ds.find? fun p => decide (kq p.1 = some k)).map (·.2)
def dput (ds : List (D × D)) (k : Key) (v : D) : List (D × D) :=
  if (ds.any fun p => decide (kq p.1 = some k)) = true then ds.map (fun p => if kq p.1 = some k then (p.1, v) else p) else ds ++ [(keyD k, v)]
section
variable {K : PySem.W.Frag} {β : Addr} {Z : Hp}
theorem kq_same {k j : Key} : decide (kq (keyD k) = some j) = decide (k = j) := by
  rw [kq_keyD, decide_eq_decide]
  exact ⟨fun h => Option.some.inj h, fun h => by rw [h]⟩
theorem RepK.get {k : Key} : ∀ {ds : List (D × D)} {kvs : List (Key × V)}, RepK K β Z ds kvs → (dget ds k = none ∧ valV kvs k = none) ∨ ∃ d v, dget ds k = some d ∧ valV kvs k = some v ∧ Rep K β Z d v
  | _, _, .nil => .inl ⟨rfl, rfl⟩
  | _, _, .cons (k := k') (d := d) (v := v) (ds := ds') h r => by
    by_cases e : k' = k
    · refine .inr ⟨d, v, ?_, valV_pos e, h⟩
      unfold dget
      rw [List.find?_cons, kq_same, decide_eq_true e]
      rfl
    · have e2 : dget ((keyD k', d) :: ds') k = dget ds' k := by
        unfold dget
        rw [List.find?_cons, kq_same, decide_eq_false e]
      rw [e2, valV_neg (p := (k', v)) e]
      exact RepK.get r
theorem RepK.any {k : Key} : ∀ {ds : List (D × D)} {kvs : List (Key × V)}, RepK K β Z ds kvs → (ds.any fun p => decide (kq p.1 = some k)) = kvs.any fun kv => decide (kv.1 = k)
  | _, _, .nil => rfl
  | _, _, .cons h r => by rw [List.any_cons, List.any_cons, kq_same, RepK.any r]
theorem RepK.repl {k : Key} {d : D} {v : V} (q : Rep K β Z d v) : ∀ {ds : List (D × D)} {kvs : List (Key × V)}, RepK K β Z ds kvs → RepK K β Z (ds.map fun p => if kq p.1 = some k then (p.1, d) else p) (kvs.map fun kv => if kv.1 = k then (kv.1, v) else kv)
  | _, _, .nil => .nil
  | _, _, .cons (k := k') (d := d') (v := v') h r => by
    rw [List.map_cons, List.map_cons]
    by_cases e : k' = k
    · rw [if_pos (by rw [kq_keyD, e] : kq (keyD k', d').1 = some k), if_pos (e : (k', v').1 = k)]
      exact .cons q (RepK.repl q r)
    · rw [if_neg (fun h => e (Option.some.inj ((kq_keyD k').symm.trans h)) : ¬ kq (keyD k', d').1 = some k), if_neg (e : ¬ (k', v').1 = k)]
      exact .cons h (RepK.repl q r)
theorem RepK.app {k : Key} {d : D} {v : V} (q : Rep K β Z d v) : ∀ {ds : List (D × D)} {kvs : List (Key × V)}, RepK K β Z ds kvs → RepK K β Z (ds ++ [(keyD k, d)]) (kvs ++ [(k, v)])
  | _, _, .nil => .cons q .nil
  | _, _, .cons h r => .cons h (RepK.app q r)
theorem RepK.put {k : Key} {d : D} {v : V} {ds : List (D × D)} {kvs : List (Key × V)} (r : RepK K β Z ds kvs) (q : Rep K β Z d v) : RepK K β Z (dput ds k d) (putK kvs k v) := by
  unfold dput putK
  rw [r.any]
  split
  · exact RepK.repl q r
  · exact RepK.app q r
theorem RepT.false : ∀ {es : List (D × D)} {us : List (List Key × V)}, RepT K β Z es us → False
  | _, _, .cons _ r => RepT.false r
theorem RepK.length : ∀ {ds : List (D × D)} {kvs : List (Key × V)}, RepK K β Z ds kvs → ds.length = kvs.length
  | _, _, .nil => rfl
  | _, _, .cons _ r => by rw [List.length_cons, List.length_cons, RepK.length r]
theorem kV_rep {k : Key} {v : V} {d : D} (e : d = keyD k) (r : Rep K β Z d v) : v = kV k := by
  subst e
  cases k with
  | inl i => cases r; rfl
  | inr x => cases r; rfl
end
section
variable {S : Type} [BoxS S] {C : Stat} {Γ : SCx} {e a b c : Expr} {es : List Expr} {m ma mb mc : M S D} {md : Md} {mds : List Md} {pos ap cp : Pos}
/-- {} -/
theorem Ok.dnew : Ok (S := S) .N C Γ (.Dict [] [] pos) (ret (.dct [])) := fun X hX W σ Z H st d st' Q r hm q => by
  obtain ⟨rfl, rfl⟩ := ret_some hm
  refine tU_of pe_dnewK fun p hp => ?_
  have s2 := Stp.layH (o := .dK []) r.zh hp trivial
  refine q _ _ _ s2 (box_lay r.box hp) ⟨⟨p, rfl, .inl ⟨[], upd_same, .nil⟩⟩, fun a ea _ => ?_⟩
  cases ea
  exact ⟨hp, z_none r.zh hp, BoxS.bxThere r.box hp⟩
/-- a[k] of a dict -/
def dixD (x k : D) : Option D :=
  match x with
  | .dct ds => (kq k).bind (dget ds)
  | _ => none
/-- a[k]: lists, tuples, texts, dicts -/
def ix2D (x k : D) : Option D :=
  match x with
  | .dct ds => (kq k).bind (dget ds)
  | x => ixD x k
theorem Ok.ix2 (ha : Ok .V C Γ a ma) (hb : Ok .V C Γ b mb) (hs : PlainIx b := by exact fun _ _ => rfl) (hn : NoSl b := by exact fun _ _ => rfl) : Ok .E C Γ (.Subscript a b pos) (bnd ma fun x => bnd mb fun y => lift (ix2D x y)) := fun X hX W σ Z H st d st' Q r hm q => by
  obtain ⟨x, st1, h1, hm1⟩ := bnd_some hm
  obtain ⟨y, st2, h2, hm2⟩ := bnd_some hm1
  obtain ⟨hg, rfl⟩ := lift_some hm2
  have other : ixD x y = some d → tU X (.Subscript a b pos) σ H Q := fun hg' => by
    refine Ok.ix (pos := pos) ha hb hs X hX W σ Z H st d _ Q r ?_ q
    show bnd ma _ st = _
    unfold bnd
    rw [h1]
    show bnd mb _ st1 = _
    unfold bnd
    rw [h2]
    show lift (ixD x y) st' = _
    rw [hg']; rfl
  cases x with
  | dct ds =>
    obtain ⟨k, hk, hg2⟩ := Option.bind_eq_some_iff.mp (show (kq y).bind (dget ds) = some d from hg)
    refine tU_of (pe_dget (by have := hX.units; omega) peU peU hn) (Ok.two ha hb hX r h1 h2 fun vx vy Z2 H2 s2 b2 r1 r2 => ?_)
    have ey := keyD_of hk
    subst ey
    have ev : vy = kV k := by
      cases k with
      | inl i => cases r2.1; rfl
      | inr z => cases r2.1; rfl
    subst ev
    obtain ⟨p, rfl, ⟨kvs, hq, l⟩ | ⟨kvs, hq, l⟩⟩ := r1.1
    · rcases l.get (k := k) with ⟨g1, g2⟩ | ⟨d', v, g1, g2, g3⟩
      · rw [hg2] at g1; cases g1
      · rw [hg2] at g1; cases g1
        exact ⟨p, v, rfl, by rw [← g2]; exact DGet.k hq, q v Z2 H2 s2 b2 g3⟩
    · exact l.false.elim
  | _ => exact other hg
/-- d.get(k, z) -/
def dgetD (x k z : D) : Option D :=
  match x with
  | .dct ds => (kq k).map fun k => (dget ds k).getD z
  | _ => none
theorem Ok.get2 (ha : Ok .V C Γ a ma) (hb : Ok .V C Γ b mb) (hc : Ok .E C Γ c mc) (hm : ∀ X, CtxP C X → M2 X a "get" ap b c cp) : Ok .E C Γ (.Call (.Attribute a "get" ap) [b, c] [] cp) (bnd ma fun x => bnd mb fun y => bnd mc fun z => lift (dgetD x y z)) := fun X hX W σ Z H st d st' Q r hm' q => by
  obtain ⟨x, st1, h1, hm1⟩ := bnd_some hm'
  obtain ⟨y, st2, h2, hm2⟩ := bnd_some hm1
  obtain ⟨z, st3, h3, hm3⟩ := bnd_some hm2
  obtain ⟨hg, rfl⟩ := lift_some hm3
  cases x with
  | dct ds =>
    obtain ⟨k, hk, rfl⟩ := Option.map_eq_some_iff.mp (show (kq y).map (fun k => (dget ds k).getD z) = some d from hg)
    refine tU_of (pe_dget2 (by have := hX.units; omega) peU peU peU (hm X hX)) ?_
    refine ha X hX W σ Z H st _ st1 _ r h1 fun v1 Z1 H1 s1 b1 r1 => ?_
    have rr1 := r.step s1 b1
    have nb := r1.2
    obtain ⟨p, rfl, hd⟩ := r1.1
    refine ⟨p, rfl, hd.elim (fun ⟨kvs, hq, _⟩ => .inl ⟨kvs, .inl hq⟩) (fun ⟨kvs, hq, _⟩ => .inr ⟨kvs, .inl hq⟩), ?_⟩
    refine hb X hX W σ Z1 H1 st1 y st2 _ rr1 h2 fun v2 Z2 H2 s2 b2 r2 => ?_
    have ey := keyD_of hk
    subst ey
    have ev : v2 = kV k := by
      cases k with
      | inl i => cases r2.1; rfl
      | inr z => cases r2.1; rfl
    subst ev
    refine hc X hX W σ Z2 H2 st2 z _ _ (rr1.step s2 b2) h3 fun v3 Z3 H3 s3 b3 r3 => ?_
    have s23 := s2.trans s3
    have s13 := s1.trans s23
    rcases hd with ⟨kvs, hq, l⟩ | ⟨kvs, hq, l⟩
    · have hq3 := s23.hh _ _ hq (nb p rfl rfl)
      have l3 : RepK X.K W.β Z3 ds kvs := l.mono s23.zz
      refine ⟨valV kvs k, DGet.k hq3, ?_⟩
      rcases l3.get (k := k) with ⟨g1, g2⟩ | ⟨d', v, g1, g2, g3⟩
      · rw [g2]
        rw [g1] at q
        exact q v3 Z3 H3 s13 b3 r3
      · rw [g2]
        rw [g1] at q
        exact q v Z3 H3 s13 b3 g3
    · exact l.false.elim
  | _ => cases hg
end
/-- d[k] = e -/
def dsetD (d k y : D) : Option D :=
  match d with
  | .dct ds => if ds.length < sizeLine then (kq k).map fun k => .dct (dput ds k y) else none
  | _ => none
section
variable {S : Type} [BoxS S] {C : Stat} {Γ : SCx} {e b : Expr} {rest : List Stmt} {me mk : M S D} {pos p pp : Pos} {τ l : Type} {T : Tg τ l} {i : Nat} {x : Str} {d : D}
theorem OkB.dset {k : D → M S (Fl τ l)} (hN : C.N[i]? = some x) (hv : Vis C.sc x) (h0 : Γ[i]? = some (some (.own d))) (he : Ok .E C Γ e me) (hk : Ok .V C Γ b mk) (hb : ∀ d', OkB C (Γ.set i (some (.own d'))) rest T (k d'))
    (hd : (x == ("__debug__" : Str)) = false := by decide) (hcd : (x == ("__classdict__" : Str)) = false := by decide) (hs : ∀ env : Env, swapsWith e (some (.Subscript (.Name x p) b pp)) pos.line env = pure false := by intro _; rfl) :
    OkB C Γ (.Assign [.Subscript (.Name x p) b pp] e pos :: rest) T (bnd me fun y => bnd mk fun j => bnd (lift (dsetD d j y)) k) := fun X hX W σ Z H st f st' D r hm q => by
  obtain ⟨y, st1, h1, hm1⟩ := bnd_some hm
  obtain ⟨j, st2, h2, hm2⟩ := bnd_some hm1
  obtain ⟨d', st3, h3, hm3⟩ := bnd_some hm2
  obtain ⟨hg, rfl⟩ := lift_some h3
  cases d with
  | dct ds =>
    have hg' : (if ds.length < sizeLine then (kq j).map fun k => Sn.D.dct (dput ds k y) else none) = some d' := hg
    split at hg'
    · rename_i hl
      obtain ⟨kk, hkk, rfl⟩ := Option.map_eq_some_iff.mp hg'
      refine tUS_of (pss_cons (ps_dput (by have := hX.units; omega) (pe_var (i := i) (by rw [hX.N]; exact hN) (by rw [hX.sc]; exact hv) hd hcd) peU peU (hs _)) pssU) ?_
      refine he X hX W σ Z H st y _ _ r h1 fun v Z1 H1 s1 b1 r1 => ?_
      have rr := r.step s1 b1
      obtain ⟨pa, ep, z, nb, mu, lr⟩ := rr.own i _ h0
      refine ⟨_, ep, ?_⟩
      refine hk X hX W σ Z1 H1 st1 _ _ _ rr h2 fun vj Z2 H2 s2 b2 r2 => ?_
      have rr2 := rr.step s2 b2
      have ey := keyD_of hkk
      subst ey
      have ev : vj = kV kk := by
        cases kk with
        | inl i => cases r2.1; rfl
        | inr z => cases r2.1; rfl
      subst ev
      obtain ⟨p', ea, ⟨kvs, hq, l⟩ | ⟨kvs, hq, l⟩⟩ := lr
      · cases ea
        have hq1 := s2.hh _ _ hq nb
        have ll := l.length
        refine ⟨pa, upd H2 pa (.dK (putK kvs kk v)), rfl, DPut.k hq1 (by rw [← ll]; exact hl), ?_⟩
        refine hb _ X hX W σ Z2 (upd H2 pa (.dK (putK kvs kk v))) _ f st' D (rr2.mut (d' := Sn.D.dct (dput ds kk y)) h0 ep rfl ⟨pa, rfl, .inl ⟨_, upd_same, (l.mono s2.zz).put (r1.mono s2.zz)⟩⟩ trivial) hm3 ?_
        exact (q.after (s1.trans s2).bst OwLe.refl (Γ1 := Γ) (σ1 := σ)).after (bst_mut rr2 h0 ep trivial) fun a h => .inl (own_mut h0 h)
      · exact l.false.elim
    · cases hg'
  | _ => cases hg
end
end Sn

namespace Sn
open PySem PySem.Spec PyProof.Rows L2
/-! ### sorted -/
theorem sorted_one : ∀ {a b : List Int}, a.Perm b → a.Pairwise (· ≤ ·) → b.Pairwise (· ≤ ·) → a = b
  | [], b, h, _, _ => (List.nil_perm.mp h).symm ▸ rfl
  | x :: a, [], h, _, _ => by have := h.length_eq; simp at this
  | x :: a, y :: b, h, ha, hb => by
    have hx : x ∈ y :: b := h.mem_iff.mp List.mem_cons_self
    have hy : y ∈ x :: a := h.mem_iff.mpr List.mem_cons_self
    have e : x = y := by
      rcases List.mem_cons.mp hx with q | q
      · exact q
      · rcases List.mem_cons.mp hy with q2 | q2
        · exact q2.symm
        · have h1 := (List.pairwise_cons.mp hb).1 x q
          have h2 := (List.pairwise_cons.mp ha).1 y q2
          omega
    subst e
    rw [sorted_one (h.cons_inv) (List.pairwise_cons.mp ha).2 (List.pairwise_cons.mp hb).2]
def sortI (is : List Int) : List Int := is.mergeSort fun a b => decide (a ≤ b)
theorem sortI_perm (is : List Int) : (sortI is).Perm is := List.mergeSort_perm _ _
theorem sortI_le (is : List Int) : (sortI is).Pairwise (· ≤ ·) := by
  have := List.pairwise_mergeSort (le := fun a b : Int => decide (a ≤ b)) (fun a b c h1 h2 => by simp at h1 h2 ⊢; omega) (fun a b => by simp; omega) is
  exact this.imp fun h => of_decide_eq_true h
theorem sortI_of {is ys : List Int} (h : ys.Perm is) (h2 : ys.Pairwise (· ≤ ·)) : ys = sortI is := sorted_one (h.trans (sortI_perm is).symm) h2 (sortI_le is)
def sortedD : List D → Option D
  | [.lst xs] => (asInts xs).map fun is => .lst ((sortI is).map .int)
  | [.dct ds] => (asInts (ds.map (·.1))).bind fun is => if is.length < 64 then some (.lst ((sortI is).map .int)) else none
  | _ => none
theorem repL_ints {K : PySem.W.Frag} {β : Addr} {Z : Hp} : ∀ is : List Int, RepL K β Z (is.map D.int) (is.map V.int)
  | [] => .nil
  | i :: is => .cons (.int i) (repL_ints is)
theorem RepK.keysI {K : PySem.W.Frag} {β : Addr} {Z : Hp} : ∀ {ds : List (D × D)} {kvs : List (Key × V)} {is : List Int}, RepK K β Z ds kvs → asInts (ds.map (·.1)) = some is → kvs.map (·.1) = is.map Sum.inl
  | _, _, _, .nil, h => by cases h; rfl
  | _, _, is, .cons (k := k) (ds := ds) h r, e => by
    cases k with
    | inl i =>
      rw [List.map_cons] at e
      obtain ⟨js, e2, rfl⟩ := Option.map_eq_some_iff.mp (show (asInts (ds.map (·.1))).map (fun is => i :: is) = some is from e)
      rw [List.map_cons, List.map_cons, RepK.keysI r e2]
    | inr x => cases e
theorem o_sorted {C : Stat} : OpL C (.builtin "sorted") sortedD := fun X hX S _ W Z H st xs dxs d Q zh sz bx r0 hg q => by
  match dxs, hg with
  | [.lst ds], hg =>
    obtain ⟨is, e, rfl⟩ := Option.map_eq_some_iff.mp hg
    obtain ⟨v, rfl, r⟩ := r0.one
    obtain ⟨a, vs, rfl, h, l⟩ := r
    have ev := asInts_rep l e
    subst ev
    refine cU_of cr_sortedI ⟨a, is, rfl, .inl (.inl h), fun ys p hp hs hn => ?_⟩
    rw [sortI_of hp hs]
    have hl : ((sortI is).map V.int).length ≤ sizeLine := by rw [List.length_map, (sortI_perm is).length_eq]; have := sz.lst h; rw [List.length_map] at this; exact this
    exact fin_lst zh bx hn (repL_ints _) hl q
  | [.dct ds], hg =>
    obtain ⟨is, e, hg2⟩ := Option.bind_eq_some_iff.mp hg
    split at hg2
    · rename_i h64
      cases hg2
      obtain ⟨v, rfl, r⟩ := r0.one
      obtain ⟨a, rfl, ⟨kvs, h, l⟩ | ⟨kvs, h, l⟩⟩ := r
      · refine cU_of (call_sortedDI hX.calm) ⟨a, kvs, is, rfl, .inl h, l.keysI e, h64, fun ys p hp hs hn => ?_⟩
        rw [sortI_of hp hs]
        exact fin_lst zh bx hn (repL_ints _) (by rw [List.length_map, (sortI_perm is).length_eq, sizeLine_eq]; omega) q
      · exact l.false.elim
    · cases hg2
/-! ### dict(..) -/
def asKV : List D → Option (List (Key × D))
  | [] => some []
  | .tup [k, v] :: ds => (kq k).bind fun k => (asKV ds).map fun r => (k, v) :: r
  | _ => none
def dictD : List D → Option D
  | [.lst ps] => (asKV ps).map fun r => .dct (r.foldl (fun acc p => dput acc p.1 p.2) [])
  | [.dct ds] => some (.dct ds)
  | _ => none
theorem asKV_rep {K : PySem.W.Frag} {β : Addr} {Z H : Hp} (zh : Sub Z H) : ∀ {ds : List D} {vs : List V} {r : List (Key × D)}, RepL K β Z ds vs → asKV ds = some r → ∃ (ps : List Addr) (kvs : List (Key × V)), vs = ps.map V.ref ∧ Paired (fun p kv => SqT K H p [kV kv.1, kv.2]) ps kvs ∧ (∀ {acc : List (D × D)} {acc' : List (Key × V)}, RepK K β Z acc acc' → RepK K β Z (r.foldl (fun acc p => dput acc p.1 p.2) acc) (mergeK acc' kvs))
  | _, _, _, .nil, h => by cases h; exact ⟨[], [], rfl, .nil, fun q => q⟩
  | _, _, r, .cons (d := d) (ds := ds) h t, e => by
    cases d with
    | tup xs =>
      match xs, e with
      | [k, v], e =>
        obtain ⟨kk, hk, e2⟩ := Option.bind_eq_some_iff.mp (show (kq k).bind (fun k => (asKV ds).map fun r => (k, v) :: r) = some r from e)
        obtain ⟨r', e3, rfl⟩ := Option.map_eq_some_iff.mp e2
        obtain ⟨ps, kvs, rfl, h2, h3⟩ := asKV_rep zh t e3
        cases h with
        | tup hq l =>
          cases l with
          | cons l1 l =>
            cases l with
            | cons l2 l =>
              cases l
              have ek := kV_rep (keyD_of hk) l1
              subst ek
              exact ⟨_ :: ps, (kk, _) :: kvs, rfl, .cons (zh.sqT hq) h2, fun q => h3 (q.put l2)⟩
    | _ => cases e
theorem o_dict {C : Stat} : OpL C (.type "dict") dictD := fun X hX S _ W Z H st xs dxs d Q zh sz bx r0 hg q => by
  have fin : ∀ {p : Addr} {ds : List (D × D)} {kvs : List (Key × V)}, H p = none → RepK X.K W.β Z ds kvs → (∀ v Z' H', Stp W Z H Z' H' → BoxS.R st W.β W.γ H' → Res X.K W .N H Z' H' (.dct ds) v → Q v H') → Q (.ref p) (upd H p (.dK kvs)) := fun {p ds kvs} hp hr q => by
    have s2 := Stp.layH (o := .dK kvs) zh hp trivial
    refine q _ _ _ s2 (box_lay bx hp) ⟨⟨p, rfl, .inl ⟨kvs, upd_same, hr⟩⟩, fun a ea _ => ?_⟩
    cases ea
    exact ⟨hp, z_none zh hp, BoxS.bxThere bx hp⟩
  match dxs, hg with
  | [.lst ps], hg =>
    obtain ⟨r', e, rfl⟩ := Option.map_eq_some_iff.mp hg
    obtain ⟨v, rfl, r⟩ := r0.one
    obtain ⟨a, vs, rfl, h, l⟩ := r
    obtain ⟨as, kvs, rfl, h2, h3⟩ := asKV_rep (subOf zh) l e
    exact cU_of (call_dictP hX.calm) ⟨a, as, kvs, rfl, .inl (.inl h), h2, fun p hp => fin hp (h3 .nil) q⟩
  | [.dct ds], hg =>
    cases hg
    obtain ⟨v, rfl, r⟩ := r0.one
    obtain ⟨a, rfl, ⟨kvs, h, l⟩ | ⟨kvs, h, l⟩⟩ := r
    · exact cU_of call_dictD ⟨a, kvs, rfl, .inl h, fun p hp => fin hp l q⟩
    · exact l.false.elim
section
variable {S : Type} {τ l : Type}
def ix2M (ma mb : M S D) : M S D := bnd ma fun x => bnd mb fun y => lift (ix2D x y)
def get2M (ma mb mc : M S D) : M S D := bnd ma fun x => bnd mb fun y => bnd mc fun z => lift (dgetD x y z)
def dsetM (d : D) (me mk : M S D) (k : D → M S (Fl τ l)) : M S (Fl τ l) := bnd me fun y => bnd mk fun j => bnd (lift (dsetD d j y)) k
end
end Sn

namespace Lw
open PySem PySem.Spec PyProof.Rows L2 Sn
def topS (i : Nat) : Stmt := PySem.Challenge.pw_albumsfilled_k59_whole_boxes_of_packets.main.body.getD i (.Pass ⟨0, 0, 0, 0⟩)
abbrev s__law_load : Stmt := topS 26
abbrev s__law_draw : Stmt := topS 27
abbrev s__law_box : Stmt := topS 25
theorem sc__law_load : FnScope ["box", "cells", "cell", "size", "first", "second"] ["box"] (defScope s__law_load) := ⟨rfl, rfl, rfl, by decide +kernel, rfl, by decide +kernel, by decide +kernel⟩
theorem sc__law_draw : FnScope ["box", "many", "digit"] ["box", "many"] (defScope s__law_draw) := ⟨rfl, rfl, rfl, by decide +kernel, rfl, by decide +kernel, by decide +kernel⟩
theorem sc__law_box : FnScope ["script"] ["script"] (defScope s__law_box) := ⟨rfl, rfl, rfl, by decide +kernel, rfl, by decide +kernel, by decide +kernel⟩
section
variable {P : Program} {w : World} {K : PySem.W.Frag} {mg : Str → Option Value} {base : Heap}
theorem ok_load {f : Addr} {fd : FuncData} {k : Nat} (F : Fun K "_law_load" "_law_load" s__law_load f fd) (ml : mg "len" = none) (mi : mg "int" = none) : FnOk P w K mg base CX0 (k + 1) f fd ["box"] spLoad := by
  refine F.ok sc__law_load (fun vs H Q E h => ?_) (fun cdv A outer s H vs Q E hr h => ?_)
  · obtain ⟨β, γ, cells, dig, seed, rfl, _⟩ := h
    rfl
  · obtain ⟨β, γ, cells, dig, seed, rfl, hβ, hγ, hlen, hs0, hs1, q⟩ := h
    have hne : β ≠ γ := ne_of hβ hγ (by intro e; cases cells <;> cases e)
    -- the end, from any seed and any cells
    obtain ⟨tR, hR, qR⟩ : ∃ t, PSs (cxOf CX0 P w K mg base ["box", "cells", "cell", "size", "first", "second"] "_law_load" (defScope s__law_load) f cdv A outer s H E).nox ((defBody s__law_load).drop 2) t ∧
        ∀ (H1 : Hp) (cs : List Int) (sd : Int) (o1 o2 o3 : Option V), Else2 H H1 β γ → H1 β = some (.lst [.ref γ, .int dig, .int sd]) → H1 γ = some (.lst (cs.map V.int)) → 0 ≤ sd → sd < 2147483648 → bxLoad cells seed = bxLast cs sd →
          t { nx := fun _ H' => Q .non H', rt := Q } [some (.ref β), o1, o2, o3, none, none] H1 := by
      refine ⟨_, (pss_cons (ps_set (i := 4) sc__law_load.nd rfl (.inl rfl) (pe_op op_mod (pe_callTy call_int1 (by rfl) mi (by decide +kernel) (pa_cons (pe_op op_add (pe_op op_mul (pe_ix ix_list (pv 0) pe_int (fun _ _ => rfl)) pe_int) pe_int) pa_nil)) pe_int))
        (pss_cons (ps_set (i := 5) sc__law_load.nd rfl (.inl rfl) (pe_op op_mod (pe_callTy call_int1 (by rfl) mi (by decide +kernel) (pa_cons (pe_op op_add (pe_op op_mul (pv 4) pe_int) pe_int) pa_nil)) pe_int))
        (pss_cons (ps_asg (pe_op op_mod (pe_callTy call_int1 (by rfl) mi (by decide +kernel) (pa_cons (pe_op op_add (pe_op op_mul (pv 5) pe_int) pe_int) pa_nil)) pe_int) (pg_sub (pv 0) pe_int set_list))
        (pss_one (ps_ret (pe_op op_add (pe_op op_add (pe_op op_mul (pv 4) pe_int) (pe_op op_mul (pv 5) pe_int)) (pe_ix ix_list (pv 0) pe_int (fun _ _ => rfl)))))))), ?_⟩
      intro H1 cs sd o1 o2 o3 el h1 h2 g0 g1 e
      obtain ⟨b1, b2, b3⟩ := bxSeed_nn sd
      have e1 : (sd * 48271 + 17) % 2147483629 = (bxSeed sd).1 := rfl
      have e2 : ((bxSeed sd).1 * 69621 + 5) % 2147483587 = (bxSeed sd).2.1 := rfl
      have e3 : ((bxSeed sd).2.1 * 40692 + 3) % 2147483563 = (bxSeed sd).2.2 := rfl
      refine ⟨.ref β, rfl, β, _, 2, .int sd, rfl, rfl, .inl (.inl h1), rfl, sd, 48271, rfl, rfl, .inl (by omega), _, 17, rfl, rfl, .inl ⟨_, rfl, _, 2147483629, rfl, rfl, (by show (0 : Int) < 2147483629; decide), ?_⟩⟩
      refine ⟨.int (bxSeed sd).1, rfl, (bxSeed sd).1, 69621, rfl, rfl, .inl (by omega), _, 5, rfl, rfl, .inl ⟨_, rfl, _, 2147483587, rfl, rfl, (by show (0 : Int) < 2147483587; decide), ?_⟩⟩
      refine ⟨.int (bxSeed sd).2.1, rfl, (bxSeed sd).2.1, 40692, rfl, rfl, .inl (by omega), _, 3, rfl, rfl, .inl ⟨_, rfl, _, 2147483563, rfl, rfl, (by show (0 : Int) < 2147483563; decide), ?_⟩⟩
      refine ⟨.ref β, rfl, β, _, 2, 2, rfl, rfl, h1, rfl, ?_⟩
      refine ⟨.int (bxSeed sd).1, rfl, (bxSeed sd).1, 4611686014132420609, rfl, rfl, .inl (by omega), .int (bxSeed sd).2.1, rfl, (bxSeed sd).2.1, 2147483647, rfl, rfl, .inl (by omega), _, _, rfl, rfl, .ref β, rfl, β, _, 2, .int (bxSeed sd).2.2, rfl, rfl, .inl (.inl upd_same), rfl, _, _, rfl, rfl, ?_⟩
      have qq := q (upd H1 β (.lst [.ref γ, .int dig, .int (bxSeed sd).2.2])) (fun a n1 n2 => by rw [upd_ne n1]; exact el a n1 n2)
      rw [e] at qq
      exact qq upd_same (by rw [upd_ne hne.symm]; exact h2)
    refine ⟨_, pss_cons (ps_set (i := 1) sc__law_load.nd rfl (.inl rfl) (pe_ix ix_list (pv 0) pe_int (fun _ _ => rfl)))
      (pss_cons (ps_if (pt_cmpR op_gt (pe_callB call_len_seq (by rfl) ml PySem.boot_len (pa_cons (pv 1) pa_nil)) pe_int (nomark _))
        (pss_cons (ps_set (i := 2) sc__law_load.nd rfl (.inl rfl) (pe_callTy call_int1 (by rfl) mi (by decide +kernel) (pa_cons (pe_bm PySem.F.plainAttrs_list PySem.F.slot_list_pop PySem.F.type_list_pop mt_popAt (pv 1) (pa_cons pe_int pa_nil)) pa_nil)))
        (pss_cons (ps_set (i := 3) sc__law_load.nd rfl (.inl rfl) (pe_ifExp (pt_cmpR op_ge (pv 2) pe_int (nomark _)) (pe_op op_mul pe_int (pv 2)) (pe_op op_sub (pe_op op_mul (pe_un un_neg pe_int) (pv 2)) pe_int)))
        (pss_cons (ps_if (pt_cmpR op_ge (pv 3) pe_int (nomark _)) (pss_one (ps_ret (pv 3))) pss_nil)
        (pss_one (ps_asg (pe_op op_mod (pe_callTy call_int1 (by rfl) mi (by decide +kernel) (pa_cons (pe_op op_add (pe_op op_add (pe_op op_mul (pe_ix ix_list (pv 0) pe_int (fun _ _ => rfl)) pe_int) (pe_op op_mul (pv 3) pe_int)) pe_int) pa_nil)) pe_int) (pg_sub (pv 0) pe_int set_list))))))
        pss_nil)
      hR), ?_⟩
    refine ⟨.ref β, rfl, β, _, 0, .ref γ, rfl, rfl, .inl (.inl hβ), rfl, ?_⟩
    refine ⟨.ref γ, rfl, γ, cells.map V.int, rfl, .inl (.inl (.inl hγ)), _, 0, rfl, rfl, _, rfl, ite2 (fun hc => ?_) (fun hc => ?_)⟩
    · have hc' : (0 : Int) < ((cells.map V.int).length : Int) := of_decide_eq_true hc
      rw [List.length_map] at hc'
      obtain ⟨c, cs, rfl⟩ : ∃ c cs, cells = c :: cs := by
        cases cells with
        | nil => simp at hc'
        | cons c cs => exact ⟨c, cs, rfl⟩
      have hsq : seqIndex? 0 ((c :: cs).map V.int).length = some 0 := by
        have := (ixN_seq (n := ((c :: cs).map V.int).length) (i := 0) (j := 0) (by unfold ixN; rw [if_pos (by decide), if_pos (by rw [List.length_map, List.length_cons]; omega)]; rfl)).1
        exact this
      refine ⟨.ref γ, rfl, .inl ⟨rfl, _, .inl (.inl hγ)⟩, γ, _, 0, 0, .int c, rfl, rfl, hγ, by decide, by decide, hsq, rfl, .inl ⟨c, rfl, ?_⟩⟩
      have hβ2 : (upd H γ (.lst ((((c :: cs).map V.int)).eraseIdx 0))) β = some (.lst [.ref γ, .int dig, .int seed]) := by rw [upd_ne hne]; exact hβ
      have hγ2 : (upd H γ (.lst ((((c :: cs).map V.int)).eraseIdx 0))) γ = some (.lst (cs.map V.int)) := by rw [upd_same]; rfl
      have el2 : Else2 H (upd H γ (.lst ((((c :: cs).map V.int)).eraseIdx 0))) β γ := fun a n1 n2 => upd_ne n2
      generalize upd H γ (.lst ((((c :: cs).map V.int)).eraseIdx 0)) = H2 at hβ2 hγ2 el2 ⊢
      refine ⟨.int c, rfl, c, 0, rfl, rfl, _, rfl, ?_⟩
      -- size, told
      have sn := bxSize_nn c
      have rest : ∀ sz : Int, sz = bxSize c → (tSeq (tIfS (tTest (tOp (rI0 fun i j => .bl (decide (j ≤ i))) (tVar 3) (tC (.int 1000000000000000000)))) (tRet (tVar 3)) tNext)
          (tAsg (tOp (rI (fun _ j => 0 < j) fun i j => .int (i % j)) (tCB (fun xs H Q => (∃ i, xs = [.int i] ∧ Q (.int i) H) ∨ ∃ k, xs = [.bl k] ∧ Q (.int (if k then 1 else 0)) H) (tCons (tOp (rI0 fun i j => .int (i + j)) (tOp (rI0 fun i j => .int (i + j)) (tOp (rI CMul fun i j => .int (i * j)) (tOp (rIxL K) (tVar 0) (tC (.int 2))) (tC (.int 69621))) (tOp (rI CMul fun i j => .int (i * j)) (tVar 3) (tC (.int 48271)))) (tC (.int 11))) tNil)) (tC (.int 2147483647))) (gSub (tVar 0) (tC (.int 2)) rSetL)))
          { nx := tR { nx := fun _ H' => Q .non H', rt := Q }, rt := Q } [some (.ref β), some (.ref γ), some (.int c), some (.int sz), none, none] H2 := by
        intro sz esz
        subst esz
        refine ⟨.int (bxSize c), rfl, bxSize c, 1000000000000000000, rfl, rfl, _, rfl, ite2 (fun hbig => ?_) (fun hsm => ?_)⟩
        · have hb : (1000000000000000000 : Int) ≤ bxSize c := of_decide_eq_true hbig
          have el : bxLoad (c :: cs) seed = (bxSize c, cs, seed) := by unfold bxLoad; simp only; rw [if_pos hb]
          have qq := q H2 el2
          rw [el] at qq
          exact ⟨.int (bxSize c), rfl, qq hβ2 hγ2⟩
        · have hb : ¬ (1000000000000000000 : Int) ≤ bxSize c := fun h => hsm (decide_eq_true h)
          refine ⟨.ref β, rfl, β, _, 2, .int seed, rfl, rfl, .inl (.inl hβ2), rfl, seed, 69621, rfl, rfl, .inl (by omega), .int (bxSize c), rfl, bxSize c, 48271, rfl, rfl, .inl (by omega), _, _, rfl, rfl, _, 11, rfl, rfl, .inl ⟨_, rfl, _, 2147483647, rfl, rfl, (by show (0 : Int) < 2147483647; decide), ?_⟩⟩
          refine ⟨.ref β, rfl, β, _, 2, 2, rfl, rfl, hβ2, rfl, ?_⟩
          refine qR _ cs ((seed * 69621 + bxSize c * 48271 + 11) % 2147483647) _ _ _ (fun a n1 n2 => by rw [upd_ne n1]; exact el2 a n1 n2) upd_same (by rw [upd_ne hne.symm]; exact hγ2) (Int.emod_nonneg _ (by decide)) (Int.lt_trans (Int.emod_lt_of_pos _ (by decide)) (by decide)) ?_
          unfold bxLoad
          simp only
          rw [if_neg hb]
      refine ite2 (fun h0 => ?_) (fun h0 => ?_)
      · have h0' : (0 : Int) ≤ c := of_decide_eq_true h0
        exact ⟨.int c, rfl, 2, c, rfl, rfl, .inl (by decide), rest (2 * c) (by unfold bxSize; rw [if_pos h0'])⟩
      · have h0' : ¬ (0 : Int) ≤ c := fun h => h0 (decide_eq_true h)
        exact ⟨2, rfl, .int c, rfl, -2, c, rfl, rfl, .inl (by decide), _, 1, rfl, rfl, rest (-2 * c - 1) (by unfold bxSize; rw [if_neg h0'])⟩
    · have hc' : ¬ (0 : Int) < ((cells.map V.int).length : Int) := fun h => hc (decide_eq_true h)
      have e0 : cells = [] := by
        cases cells with
        | nil => rfl
        | cons c cs => exact absurd (by rw [List.length_map, List.length_cons]; omega) hc'
      subst e0
      exact qR H [] seed _ _ _ (fun _ _ _ => rfl) hβ hγ hs0 hs1 rfl

theorem ok_box {f : Addr} {fd : FuncData} {k : Nat} (F : Fun K "_law_box" "_law_box" s__law_box f fd) (ml : mg "len" = none) (mi : mg "list" = none) : FnOk P w K mg base CX0 (k + 1) f fd ["script"] (spBox K) := by
  refine F.ok sc__law_box (fun vs H Q E h => ?_) (fun cdv A outer s H vs Q E hr h => ?_)
  · obtain ⟨a, ns, rfl, _⟩ := h
    rfl
  obtain ⟨a, ns, rfl, hS, hlen, q⟩ := h
  refine ⟨_, pss_one (ps_ret (pe_lst (pa_cons (pe_callTy call_list_of (by rfl) mi (by decide +kernel) (pa_cons (pe_slice sl_list (pv 0) po_none (po_some pe_int)) pa_nil)) (pa_cons pe_int (pa_cons (pe_op op_add pe_int (pe_callB call_len_seq (by rfl) ml PySem.boot_len (pa_cons (pv 0) pa_nil))) pa_nil))))), ?_⟩
  have ec : cutV (ns.map V.int) none (some 63) = ns.map V.int := by
    unfold cutV
    rw [HT.sIx_none, show (some (63 : Int)) = some (((63 : Nat) : Int)) from rfl, HT.sIx_nat]
    simp only [List.length_map, List.drop_zero, Nat.sub_zero]
    rw [Nat.min_eq_right hlen]
    exact List.take_of_length_le (by simp)
  refine ⟨.ref a, rfl, 63, rfl, a, _, rfl, hS, fun p hp => ⟨p, _, rfl, .inl (.inl (.inl upd_same)), fun l hl => ?_⟩⟩
  have sm1 : Same H (upd H p (.lst (cutV (ns.map V.int) none (some 63)))) := fun b o h => upd_none hp h
  have sm2 : Same H (upd (upd H p (.lst (cutV (ns.map V.int) none (some 63)))) l (.lst (cutV (ns.map V.int) none (some 63)))) := fun b o h => upd_none hl (sm1 b o h)
  refine ⟨.ref a, rfl, a, _, rfl, .inl (sm2.seq hS), _, _, rfl, rfl, by show (3 : Nat) ≤ sizeLine; decide, fun r hr2 => ?_⟩
  have nl : H l = none := sm1.free hl
  have nr : H r = none := sm2.free hr2
  refine q _ r l (fun b o h => upd_none hr2 (sm2 b o h)) nr nl ?_ ?_ fun sz => ?_
  · rw [upd_same, List.length_map]
  · rw [upd_ne (ne_of_none upd_same hr2), upd_same, ec]
  · have h63 : (cutV (ns.map V.int) none (some 63)).length ≤ sizeLine := by
      rw [ec, List.length_map]
      exact Nat.le_trans hlen (by decide)
    exact Sz.upd (Sz.upd (Sz.upd sz (o := .lst (cutV (ns.map V.int) none (some 63))) h63) (o := .lst (cutV (ns.map V.int) none (some 63))) h63) (by show (3 : Nat) ≤ sizeLine; decide)
theorem ok_draw {f fL : Addr} {fd fdL : FuncData} {k : Nat} (F : Fun K "_law_draw" "_law_draw" s__law_draw f fd) (FL : Fun K "_law_load" "_law_load" s__law_load fL fdL) (bL : Binds K fdL ["box"] []) (gL : mg "_law_load" = some (.ref fL)) (ml : mg "len" = none) (mi : mg "int" = none) :
    FnOk P w K mg base CX0 (k + 2) f fd ["box", "many"] (spF K 2 m_draw) := by
  have GL : FnOk P w K mg base CX0 (k + 1) fL fdL ["box"] spLoad := ok_load FL ml mi
  refine F.ok sc__law_draw (fun vs H Q E h => h.1) (fun cdv A outer s H vs Q E hr h => ?_)
  obtain ⟨hl, W, Z, ds, st, d, st', zh, sz, bx, rl, hm, q⟩ := h
  match ds, hm with
  | [.box, .int many], hm =>
    cases rl with
    | cons r1 rl =>
    cases rl with
    | cons r2 rl =>
    cases rl
    cases r1
    cases r2
    have hm' : (if h : 0 < many ∧ many < 1073741824 then some (Sn.D.int (drawB st many h.1).1, (drawB st many h.1).2) else none) = some (d, st') := hm
    split at hm'
    · rename_i hc
      cases hm'
      obtain ⟨hβ, hγ⟩ := bx
      have hne : W.β ≠ W.γ := ne_of hβ hγ (by intro e; cases h : st.cells <;> rw [h] at e <;> cases e)
      refine ⟨_, pss_cons (ps_if (pt_cmpR op_lt (pe_ix ix_list (pv 0) pe_int (fun _ _ => rfl)) (pv 1) (nomark _))
          (pss_one (ps_asg (pe_call GL hr (by rfl) gL FL.kp bL .nil pass0 (pa_cons (pv 0) pa_nil)) (pg_sub (pv 0) pe_int set_list))) pss_nil)
        (pss_cons (ps_set (i := 2) sc__law_draw.nd rfl (.inl rfl) (pe_op op_mod (pe_callTy call_int1 (by rfl) mi (by decide +kernel) (pa_cons (pe_ix ix_list (pv 0) pe_int (fun _ _ => rfl)) pa_nil)) (pv 1)))
        (pss_cons (ps_asg (pe_op op_fdiv (pe_ix ix_list (pv 0) pe_int (fun _ _ => rfl)) (pv 1)) (pg_sub (pv 0) pe_int set_list))
        (pss_one (ps_ret (pv 2))))), ?_⟩
      refine ⟨.ref W.β, rfl, W.β, _, 1, .int st.dig, rfl, rfl, .inl (.inl hβ), rfl, .int many, rfl, st.dig, many, rfl, rfl, _, rfl, ite2 (fun hlt => ?_) (fun hlt => ?_)⟩
      · have hlt' : st.dig < many := of_decide_eq_true hlt
        have nn := bxLoad_nn st.cells st.seed st.hs
        have hlen : st.cells.length ≤ sizeLine := by
          have := sz.lst hγ
          rwa [List.length_map] at this
        refine ⟨.ref W.β, rfl, W.β, W.γ, st.cells, st.dig, st.seed, rfl, hβ, hγ, hlen, st.hs.1, st.hs.2, fun H1 el h1 h2 => ?_⟩
        refine ⟨.ref W.β, rfl, W.β, _, 1, 1, rfl, rfl, h1, rfl, ?_⟩
        refine ⟨.ref W.β, rfl, W.β, _, 1, .int (bxLoad st.cells st.seed).1, rfl, rfl, .inl (.inl upd_same), rfl, .inl ⟨_, rfl, .int many, rfl, _, many, rfl, rfl, hc.1, ?_⟩⟩
        refine ⟨.ref W.β, rfl, W.β, _, 1, .int (bxLoad st.cells st.seed).1, rfl, rfl, .inl (.inl upd_same), rfl, .int many, rfl, _, many, rfl, rfl, hc, ?_⟩
        refine ⟨.ref W.β, rfl, W.β, _, 1, 1, rfl, rfl, upd_same, rfl, ?_⟩
        refine ⟨_, rfl, ?_⟩
        have ed : drawB st many hc.1 = ((bxLoad st.cells st.seed).1 % many, ⟨(bxLoad st.cells st.seed).2.1, (bxLoad st.cells st.seed).1 / many, (bxLoad st.cells st.seed).2.2, Int.ediv_nonneg nn.1 (Int.le_of_lt hc.1), nn.2⟩) := by
          unfold drawB
          rw [if_pos hlt']
        rw [ed] at q
        refine q _ Z _ ⟨Sub.refl _, fun a o h => ?_, fun a o h nb => ?_, fun a o h => .inl h, fun hs => ?_⟩ ⟨?_, ?_⟩ (.int _)
        · have n1 : a ≠ W.β := fun e => (zh a o h).2 (.inl e)
          have n2 : a ≠ W.γ := fun e => (zh a o h).2 (.inr e)
          exact ⟨by rw [upd_ne n1, upd_ne n1, el a n1 n2]; exact (zh a o h).1, (zh a o h).2⟩
        · have n1 : a ≠ W.β := fun e => nb (.inl e)
          have n2 : a ≠ W.γ := fun e => nb (.inr e)
          rw [upd_ne n1, upd_ne n1, el a n1 n2]; exact h
        · refine Sz.upd (Sz.upd (fun a vs hr => ?_) (by show (3 : Nat) ≤ sizeLine; decide)) (by show (3 : Nat) ≤ sizeLine; decide)
          by_cases e1 : a = W.β
          · subst e1
            rcases hr with hr | hr <;> rw [h1] at hr <;> cases hr
            show (3 : Nat) ≤ sizeLine
            decide
          · by_cases e2 : a = W.γ
            · subst e2
              rcases hr with hr | hr <;> rw [h2] at hr <;> cases hr
              rw [List.length_map]
              have le := bxLoad_len st.cells st.seed
              exact Nat.le_trans le hlen
            · refine hs a vs ?_
              rw [← el a e1 e2]
              exact hr
        · rw [upd_same]; rfl
        · rw [upd_ne hne.symm, upd_ne hne.symm]; exact h2
      · have hlt' : ¬ st.dig < many := fun h => hlt (decide_eq_true h)
        refine ⟨.ref W.β, rfl, W.β, _, 1, .int st.dig, rfl, rfl, .inl (.inl hβ), rfl, .inl ⟨_, rfl, .int many, rfl, _, many, rfl, rfl, hc.1, ?_⟩⟩
        refine ⟨.ref W.β, rfl, W.β, _, 1, .int st.dig, rfl, rfl, .inl (.inl hβ), rfl, .int many, rfl, _, many, rfl, rfl, hc, ?_⟩
        refine ⟨.ref W.β, rfl, W.β, _, 1, 1, rfl, rfl, hβ, rfl, ?_⟩
        refine ⟨_, rfl, ?_⟩
        have ed : drawB st many hc.1 = (st.dig % many, ⟨st.cells, st.dig / many, st.seed, Int.ediv_nonneg st.hd (Int.le_of_lt hc.1), st.hs⟩) := by
          unfold drawB
          rw [if_neg hlt']
        rw [ed] at q
        refine q _ Z _ ⟨Sub.refl _, fun a o h => ?_, fun a o h nb => ?_, fun a o h => .inl h, fun hs => ?_⟩ ⟨?_, ?_⟩ (.int _)
        · have n1 : a ≠ W.β := fun e => (zh a o h).2 (.inl e)
          exact ⟨by rw [upd_ne n1]; exact (zh a o h).1, (zh a o h).2⟩
        · have n1 : a ≠ W.β := fun e => nb (.inl e)
          rw [upd_ne n1]; exact h
        · exact hs.upd (by show (3 : Nat) ≤ sizeLine; decide)
        · rw [upd_same]; rfl
        · rw [upd_ne hne.symm]; exact hγ
    · cases hm'
end
end Lw

namespace Lw
open PySem PySem.Spec PyProof.Rows L2 Sn
section
variable {P : Program} {w : World} {K : PySem.W.Frag} {mg : Str → Option Value} {base : Heap}
abbrev s_is_number : Stmt := topS 1
theorem sc_is_number : FnScope ["value", "least", "most"] ["value", "least", "most"] (defScope s_is_number) := ⟨rfl, rfl, rfl, by decide +kernel, rfl, by decide +kernel, by decide +kernel⟩
abbrev CC_is_number (P : Program) (w : World) (K : PySem.W.Frag) (mg : Str → Option Value) (base : Heap) (k : Nat) : Stat := ⟨⟨P, w, K, mg, base⟩, ["value", "least", "most"], defScope s_is_number, k, fun _ => true⟩
def b_is_number (value_1 : D) (least_2 : D) (most_3 : D) : M Bx (Fl Unit Unit) :=
  (retF (andM (isiM "int" (ret value_1)) (andM (notM (isiM "bool" (ret value_1))) (chainM leD leD (ret least_2) (ret value_1) (ret most_3)))))
def mb_is_number : List D → M Bx (Fl Unit Unit)
  | [value_1, least_2, most_3] => b_is_number value_1 least_2 most_3
  | _ => stuck
def m_is_number (ds : List D) : M Bx D := bnd (mb_is_number ds) endF
set_option maxHeartbeats 0 in
theorem h_is_number {f : Addr} {fd : FuncData} (F : Fun K "is_number" "is_number" s_is_number f fd) (g : mg "is_number" = some (.ref f)) (z_bool : mg "bool" = none) (z_int : mg "int" = none) (z_isinstance : mg "isinstance" = none) : HasF (S := Bx) ⟨P, w, K, mg, base⟩ 1 "is_number" 3 m_is_number :=
  hasF_mk g F sc_is_number (F.binds fun _ _ _ _ _ _ us hl => match us, hl with | [_, _, _], _ => rfl) rfl fun ds hl => match ds, hl with
    | [value_1, least_2, most_3], _ =>
      (OkB.ret (Ok.and (Ok.view (Ok.isinst (T := "int") (Ok.view (Ok.var (i := 0) rfl (.inl rfl) rfl)) rfl z_isinstance rfl z_int (by decide +kernel))) (Ok.and (Ok.view (Ok.not (Ok.view (Ok.isinst (T := "bool") (Ok.view (Ok.var (i := 0) rfl (.inl rfl) rfl)) rfl z_isinstance rfl z_bool (by decide +kernel))))) (Ok.one (Ok.frz (Ok.chain o_le o_le (Ok.view (Ok.var (i := 1) rfl (.inl rfl) rfl)) (Ok.view (Ok.var (i := 0) rfl (.inl rfl) rfl)) (Ok.view (Ok.var (i := 2) rfl (.inl rfl) rfl))))))))
abbrev s_is_reel : Stmt := topS 6
theorem sc_is_reel : FnScope ["value", "sticker"] ["value"] (defScope s_is_reel) := ⟨rfl, rfl, rfl, by decide +kernel, rfl, by decide +kernel, by decide +kernel⟩
abbrev CC_is_reel (P : Program) (w : World) (K : PySem.W.Frag) (mg : Str → Option Value) (base : Heap) (k : Nat) : Stat := ⟨⟨P, w, K, mg, base⟩, ["value", "sticker"], defScope s_is_reel, k, fun _ => true⟩
def b_is_reel (value_4 : D) : M Bx (Fl Unit Unit) :=
  (iteF (orT (notT (valT (isiM "tuple" (ret value_4)))) (notT (chainT leD leD (ret (.int 1)) (bcM lenD (consM (ret value_4) (ret []))) (ret (.int 12))))) (retF (ret (.bl false))) (ret (.nx ())) fun (s_5 : Unit) => (retF (bcM allD (consM (compM (itM (ret value_4)) fun sticker_6 => (eltM (ret true) (bnd (consM (ret sticker_6) (consM (ret (.int 1)) (consM (ret (.int 200)) (ret [])))) m_is_number))) (ret [])))))
def mb_is_reel : List D → M Bx (Fl Unit Unit)
  | [value_4] => b_is_reel value_4
  | _ => stuck
def m_is_reel (ds : List D) : M Bx D := bnd (mb_is_reel ds) endF
set_option maxHeartbeats 0 in
theorem h_is_reel {f : Addr} {fd : FuncData} (F : Fun K "is_reel" "is_reel" s_is_reel f fd) (g : mg "is_reel" = some (.ref f)) (z_all : mg "all" = none) (z_isinstance : mg "isinstance" = none) (z_len : mg "len" = none) (z_tuple : mg "tuple" = none) {t_MOST_REEL : Tok} (c_MOST_REEL : mg "MOST_REEL" = some (.int 12 t_MOST_REEL)) {t_MOST_STICKERS : Tok} (c_MOST_STICKERS : mg "MOST_STICKERS" = some (.int 200 t_MOST_STICKERS)) (h_is_number : HasF (S := Bx) ⟨P, w, K, mg, base⟩ 1 "is_number" 3 m_is_number) : HasF (S := Bx) ⟨P, w, K, mg, base⟩ 2 "is_reel" 1 m_is_reel :=
  hasF_mk g F sc_is_reel (F.binds fun _ _ _ _ _ _ us hl => match us, hl with | [_], _ => rfl) rfl fun ds hl => match ds, hl with
    | [value_4], _ =>
      (OkB.ite (C := CC_is_reel P w K mg base 1) (Γj := fun (s_5 : Unit) => [some (.frz value_4), none]) (OkW.pt (OkW.or (OkT.not (OkT.val (Ok.view (Ok.isinst (T := "tuple") (Ok.view (Ok.var (i := 0) rfl (.inl rfl) rfl)) rfl z_isinstance rfl z_tuple (by decide +kernel))))) (OkW.or1 (OkT.not (OkT.chain o_le o_le (Ok.view Ok.int) (Ok.view (Ok.bfun o_len (by decide +kernel) rfl z_len (Ok.cons (Ok.view (Ok.var (i := 0) rfl (.inl rfl) rfl)) Ok.nil))) (Ok.view (Ok.cint rfl c_MOST_REEL))))))) (OkB.ret Ok.bl) (OkB.nil (s := ()) (wk_mask (bs := [true, false]))) fun s_5 => (OkB.ret (Ok.frz (Ok.bfun o_all (by decide +kernel) rfl z_all (Ok.cons (Ok.view (OkC.n (Ok.lc [("sticker", 1)] (OkI.val (Ok.var (i := 0) rfl (.inl rfl) rfl) (fun h => by first | rfl | cases h)) fun sticker_6 => (BindOk.name (i := 1) rfl (.inl rfl) (.inr rfl) (BindOk.nil ⟨_, _, OkTs.nil, (Ok.call h_is_number (Nat.le_of_ble_eq_true rfl) rfl (Ok.cons (Ok.var (i := 1) rfl (.inl rfl) rfl) (Ok.cons Ok.int (Ok.cons (Ok.cint rfl c_MOST_STICKERS) Ok.nil)))), rfl⟩))))) Ok.nil)))))
abbrev s_is_machine : Stmt := topS 7
theorem sc_is_machine : FnScope ["value", "reel"] ["value"] (defScope s_is_machine) := ⟨rfl, rfl, rfl, by decide +kernel, rfl, by decide +kernel, by decide +kernel⟩
abbrev CC_is_machine (P : Program) (w : World) (K : PySem.W.Frag) (mg : Str → Option Value) (base : Heap) (k : Nat) : Stat := ⟨⟨P, w, K, mg, base⟩, ["value", "reel"], defScope s_is_machine, k, fun _ => true⟩
def b_is_machine (value_7 : D) : M Bx (Fl Unit Unit) :=
  (iteF (orT (notT (valT (isiM "tuple" (ret value_7)))) (notT (chainT leD leD (ret (.int 1)) (bcM lenD (consM (ret value_7) (ret []))) (ret (.int 4))))) (retF (ret (.bl false))) (ret (.nx ())) fun (s_8 : Unit) => (retF (bcM allD (consM (compM (itM (ret value_7)) fun reel_9 => (eltM (ret true) (bnd (consM (ret reel_9) (ret [])) m_is_reel))) (ret [])))))
def mb_is_machine : List D → M Bx (Fl Unit Unit)
  | [value_7] => b_is_machine value_7
  | _ => stuck
def m_is_machine (ds : List D) : M Bx D := bnd (mb_is_machine ds) endF
set_option maxHeartbeats 0 in
theorem h_is_machine {f : Addr} {fd : FuncData} (F : Fun K "is_machine" "is_machine" s_is_machine f fd) (g : mg "is_machine" = some (.ref f)) (z_all : mg "all" = none) (z_isinstance : mg "isinstance" = none) (z_len : mg "len" = none) (z_tuple : mg "tuple" = none) {t_MOST_REELS : Tok} (c_MOST_REELS : mg "MOST_REELS" = some (.int 4 t_MOST_REELS)) (h_is_reel : HasF (S := Bx) ⟨P, w, K, mg, base⟩ 2 "is_reel" 1 m_is_reel) : HasF (S := Bx) ⟨P, w, K, mg, base⟩ 3 "is_machine" 1 m_is_machine :=
  hasF_mk g F sc_is_machine (F.binds fun _ _ _ _ _ _ us hl => match us, hl with | [_], _ => rfl) rfl fun ds hl => match ds, hl with
    | [value_7], _ =>
      (OkB.ite (C := CC_is_machine P w K mg base 2) (Γj := fun (s_8 : Unit) => [some (.frz value_7), none]) (OkW.pt (OkW.or (OkT.not (OkT.val (Ok.view (Ok.isinst (T := "tuple") (Ok.view (Ok.var (i := 0) rfl (.inl rfl) rfl)) rfl z_isinstance rfl z_tuple (by decide +kernel))))) (OkW.or1 (OkT.not (OkT.chain o_le o_le (Ok.view Ok.int) (Ok.view (Ok.bfun o_len (by decide +kernel) rfl z_len (Ok.cons (Ok.view (Ok.var (i := 0) rfl (.inl rfl) rfl)) Ok.nil))) (Ok.view (Ok.cint rfl c_MOST_REELS))))))) (OkB.ret Ok.bl) (OkB.nil (s := ()) (wk_mask (bs := [true, false]))) fun s_8 => (OkB.ret (Ok.frz (Ok.bfun o_all (by decide +kernel) rfl z_all (Ok.cons (Ok.view (OkC.n (Ok.lc [("reel", 1)] (OkI.val (Ok.var (i := 0) rfl (.inl rfl) rfl) (fun h => by first | rfl | cases h)) fun reel_9 => (BindOk.name (i := 1) rfl (.inl rfl) (.inr rfl) (BindOk.nil ⟨_, _, OkTs.nil, (Ok.call h_is_reel (Nat.le_of_ble_eq_true rfl) rfl (Ok.cons (Ok.var (i := 1) rfl (.inl rfl) rfl) Ok.nil)), rfl⟩))))) Ok.nil)))))
abbrev s_packet_at : Stmt := topS 8
theorem sc_packet_at : FnScope ["machine", "t", "reel"] ["machine", "t"] (defScope s_packet_at) := ⟨rfl, rfl, rfl, by decide +kernel, rfl, by decide +kernel, by decide +kernel⟩
abbrev CC_packet_at (P : Program) (w : World) (K : PySem.W.Frag) (mg : Str → Option Value) (base : Heap) (k : Nat) : Stat := ⟨⟨P, w, K, mg, base⟩, ["machine", "t", "reel"], defScope s_packet_at, k, fun _ => true⟩
def b_packet_at (machine_10 : D) (t_11 : D) : M Bx (Fl Unit Unit) :=
  (retF (bcM tupleD (consM (compM (itM (ret machine_10)) fun reel_12 => (eltM (ret true) (ixM (ret reel_12) (op2M modD (ret t_11) (bcM lenD (consM (ret reel_12) (ret []))))))) (ret []))))
def mb_packet_at : List D → M Bx (Fl Unit Unit)
  | [machine_10, t_11] => b_packet_at machine_10 t_11
  | _ => stuck
def m_packet_at (ds : List D) : M Bx D := bnd (mb_packet_at ds) endF
set_option maxHeartbeats 0 in
theorem h_packet_at {f : Addr} {fd : FuncData} (F : Fun K "packet_at" "packet_at" s_packet_at f fd) (g : mg "packet_at" = some (.ref f)) (z_len : mg "len" = none) (z_tuple : mg "tuple" = none) : HasF (S := Bx) ⟨P, w, K, mg, base⟩ 1 "packet_at" 2 m_packet_at :=
  hasF_mk g F sc_packet_at (F.binds fun _ _ _ _ _ _ us hl => match us, hl with | [_, _], _ => rfl) rfl fun ds hl => match ds, hl with
    | [machine_10, t_11], _ =>
      (OkB.ret (Ok.frz (Ok.tfun o_tuple (by decide +kernel) rfl z_tuple (Ok.cons (Ok.view (OkC.n (Ok.lc [("reel", 2)] (OkI.val (Ok.var (i := 0) rfl (.inl rfl) rfl) (fun h => by first | rfl | cases h)) fun reel_12 => (BindOk.name (i := 2) rfl (.inl rfl) (.inr rfl) (BindOk.nil ⟨_, _, OkTs.nil, (Ok.ix (Ok.view (Ok.var (i := 2) rfl (.inl rfl) rfl)) (Ok.view (Ok.op o_mod (Ok.view (Ok.var (i := 1) rfl (.inr (.inl rfl)) rfl)) (Ok.view (Ok.bfun o_len (by decide +kernel) rfl z_len (Ok.cons (Ok.view (Ok.var (i := 2) rfl (.inl rfl) rfl)) Ok.nil)))))), rfl⟩))))) Ok.nil))))
abbrev s_root_of_reel : Stmt := topS 9
theorem sc_root_of_reel : FnScope ["reel", "size"] ["reel"] (defScope s_root_of_reel) := ⟨rfl, rfl, rfl, by decide +kernel, rfl, by decide +kernel, by decide +kernel⟩
abbrev CC_root_of_reel (P : Program) (w : World) (K : PySem.W.Frag) (mg : Str → Option Value) (base : Heap) (k : Nat) : Stat := ⟨⟨P, w, K, mg, base⟩, ["reel", "size"], defScope s_root_of_reel, k, fun _ => true⟩
def b_root_of_reel (reel_13 : D) : M Bx (Fl Unit Unit) :=
  (forM' (rng2M (ret (.int 1)) (op2M addD (bcM lenD (consM (ret reel_13) (ret []))) (ret (.int 1)))) (fun (s_14 : Unit) size_15 => (iteF (andT (cmpT eqD (op2M modD (bcM lenD (consM (ret reel_13) (ret []))) (ret size_15)) (ret (.int 0))) (cmpT eqD (op2M mulD (slM (ret reel_13) (ret none) (ptM (ret size_15))) (op2M divD (bcM lenD (consM (ret reel_13) (ret []))) (ret size_15))) (ret reel_13))) (retF (slM (ret reel_13) (ret none) (ptM (ret size_15)))) (ret (.nx ())) fun (s_16 : Unit) => (ret (.nx ())))) () fun s_17 => (retF (ret reel_13)))
def mb_root_of_reel : List D → M Bx (Fl Unit Unit)
  | [reel_13] => b_root_of_reel reel_13
  | _ => stuck
def m_root_of_reel (ds : List D) : M Bx D := bnd (mb_root_of_reel ds) endF
set_option maxHeartbeats 0 in
theorem h_root_of_reel {f : Addr} {fd : FuncData} (F : Fun K "root_of_reel" "root_of_reel" s_root_of_reel f fd) (g : mg "root_of_reel" = some (.ref f)) (z_len : mg "len" = none) (z_range : mg "range" = none) : HasF (S := Bx) ⟨P, w, K, mg, base⟩ 1 "root_of_reel" 1 m_root_of_reel :=
  hasF_mk g F sc_root_of_reel (F.binds fun _ _ _ _ _ _ us hl => match us, hl with | [_], _ => rfl) rfl fun ds hl => match ds, hl with
    | [reel_13], _ =>
      (OkB.forR (C := CC_root_of_reel P w K mg base 0) (Γl := fun (s_14 : Unit) => [some (.frz reel_13), none]) (s0 := ()) (OkI.range2 (Ok.view Ok.int) (Ok.view (Ok.op o_add (Ok.view (Ok.bfun o_len (by decide +kernel) rfl z_len (Ok.cons (Ok.view (Ok.var (i := 0) rfl (.inl rfl) rfl)) Ok.nil))) (Ok.view Ok.int))) rfl z_range) (wk_mask (bs := [true, false])) (fun s_14 size_15 => (BindOk.name (i := 1) rfl (.inl rfl) (.inl rfl) (BindOk.nil (OkB.ite (C := CC_root_of_reel P w K mg base 0) (Γj := fun (s_16 : Unit) => [some (.frz reel_13), none]) (OkW.pt (OkW.and (OkT.cmp o_eq (Ok.view (Ok.op o_mod (Ok.view (Ok.bfun o_len (by decide +kernel) rfl z_len (Ok.cons (Ok.view (Ok.var (i := 0) rfl (.inl rfl) rfl)) Ok.nil))) (Ok.view (Ok.var (i := 1) rfl (.inl rfl) rfl)))) (Ok.view Ok.int)) (OkW.and1 (OkT.cmp o_eq (Ok.view (Ok.op o_mul (Ok.view (Ok.sl (Ok.view (Ok.var (i := 0) rfl (.inl rfl) rfl)) OkO.none (OkO.some (Ok.view (Ok.var (i := 1) rfl (.inl rfl) rfl))))) (Ok.view (Ok.op o_div (Ok.view (Ok.bfun o_len (by decide +kernel) rfl z_len (Ok.cons (Ok.view (Ok.var (i := 0) rfl (.inl rfl) rfl)) Ok.nil))) (Ok.view (Ok.var (i := 1) rfl (.inl rfl) rfl)))))) (Ok.view (Ok.var (i := 0) rfl (.inl rfl) rfl)))))) (OkB.ret (Ok.frz (Ok.sl (Ok.view (Ok.var (i := 0) rfl (.inl rfl) rfl)) OkO.none (OkO.some (Ok.view (Ok.var (i := 1) rfl (.inl rfl) rfl)))))) (OkB.nil (s := ()) (wk_mask (bs := [true, false]))) fun s_16 => (OkB.nil (s := ()) (wk_mask (bs := [true, false]))))))) fun s_17 => (OkB.ret (Ok.var (i := 0) rfl (.inl rfl) rfl)))
abbrev s_common_divisor : Stmt := topS 10
theorem sc_common_divisor : FnScope ["a", "b"] ["a", "b"] (defScope s_common_divisor) := ⟨rfl, rfl, rfl, by decide +kernel, rfl, by decide +kernel, by decide +kernel⟩
abbrev CC_common_divisor (P : Program) (w : World) (K : PySem.W.Frag) (mg : Str → Option Value) (base : Heap) (k : Nat) : Stat := ⟨⟨P, w, K, mg, base⟩, ["a", "b"], defScope s_common_divisor, k, fun _ => true⟩
def b_common_divisor (a_18 : D) (b_19 : D) : M Bx (Fl Unit Unit) :=
  (whileL (fun (s_20 : D × D) => (valT (ret s_20.2))) (fun s_20 => (parM .E .E (ret s_20.2) (op2M modD (ret s_20.1) (ret s_20.2)) fun a_21 b_22 => (ret (.nx (a_21, b_22))))) (fun s_23 => (retF (ret s_23.1))) fuel (a_18, b_19))
def mb_common_divisor : List D → M Bx (Fl Unit Unit)
  | [a_18, b_19] => b_common_divisor a_18 b_19
  | _ => stuck
def m_common_divisor (ds : List D) : M Bx D := bnd (mb_common_divisor ds) endF
set_option maxHeartbeats 0 in
theorem h_common_divisor {f : Addr} {fd : FuncData} (F : Fun K "common_divisor" "common_divisor" s_common_divisor f fd) (g : mg "common_divisor" = some (.ref f)) : HasF (S := Bx) ⟨P, w, K, mg, base⟩ 1 "common_divisor" 2 m_common_divisor :=
  hasF_mk g F sc_common_divisor (F.binds fun _ _ _ _ _ _ us hl => match us, hl with | [_, _], _ => rfl) rfl fun ds hl => match ds, hl with
    | [a_18, b_19], _ =>
      (OkB.whileR (C := CC_common_divisor P w K mg base 0) (Γl := fun (s_20 : D × D) => [some (.frz s_20.1), some (.frz s_20.2)]) (s0 := (a_18, b_19)) (n0 := fuel) (wk_mask (bs := [true, true])) (fun s_20 => (OkT.val (Ok.view (Ok.var (i := 1) rfl (.inl rfl) rfl)))) (fun s_20 => (OkB.par2 (C := CC_common_divisor P w K mg base 0) (i := 0) (j := 1) rfl rfl (by decide) rfl rfl rfl (Ok.var (i := 1) rfl (.inl rfl) rfl) (Ok.frz (Ok.op o_mod (Ok.view (Ok.var (i := 0) rfl (.inl rfl) rfl)) (Ok.view (Ok.var (i := 1) rfl (.inl rfl) rfl)))) (.inl rfl) (.inl rfl) fun a_21 b_22 => (OkB.nil (s := (a_21, b_22)) (wk_mask (bs := [true, true]))))) fun s_23 => (OkB.ret (Ok.var (i := 0) rfl (.inl rfl) rfl)))
abbrev s_common_multiple : Stmt := topS 11
theorem sc_common_multiple : FnScope ["numbers", "found", "number"] ["numbers"] (defScope s_common_multiple) := ⟨rfl, rfl, rfl, by decide +kernel, rfl, by decide +kernel, by decide +kernel⟩
abbrev CC_common_multiple (P : Program) (w : World) (K : PySem.W.Frag) (mg : Str → Option Value) (base : Heap) (k : Nat) : Stat := ⟨⟨P, w, K, mg, base⟩, ["numbers", "found", "number"], defScope s_common_multiple, k, fun _ => true⟩
def b_common_multiple (numbers_24 : D) : M Bx (Fl Unit Unit) :=
  (bnd (ret (.int 1)) fun found_25 => (forM' (itM (ret numbers_24)) (fun (s_26 : D) number_27 => (bnd (op2M divD (op2M mulD (ret s_26) (ret number_27)) (bnd (consM (ret s_26) (consM (ret number_27) (ret []))) m_common_divisor)) fun found_28 => (ret (.nx found_28)))) found_25 fun s_29 => (retF (ret s_29))))
def mb_common_multiple : List D → M Bx (Fl Unit Unit)
  | [numbers_24] => b_common_multiple numbers_24
  | _ => stuck
def m_common_multiple (ds : List D) : M Bx D := bnd (mb_common_multiple ds) endF
set_option maxHeartbeats 0 in
theorem h_common_multiple {f : Addr} {fd : FuncData} (F : Fun K "common_multiple" "common_multiple" s_common_multiple f fd) (g : mg "common_multiple" = some (.ref f)) (h_common_divisor : HasF (S := Bx) ⟨P, w, K, mg, base⟩ 1 "common_divisor" 2 m_common_divisor) : HasF (S := Bx) ⟨P, w, K, mg, base⟩ 2 "common_multiple" 1 m_common_multiple :=
  hasF_mk g F sc_common_multiple (F.binds fun _ _ _ _ _ _ us hl => match us, hl with | [_], _ => rfl) rfl fun ds hl => match ds, hl with
    | [numbers_24], _ =>
      (OkB.set (C := CC_common_multiple P w K mg base 1) (i := 1) rfl (.inl rfl) (.inl rfl) Ok.int (fun found_25 => (OkB.forR (C := CC_common_multiple P w K mg base 1) (Γl := fun (s_26 : D) => [some (.frz numbers_24), some (.frz s_26), none]) (s0 := found_25) (OkI.val (Ok.var (i := 0) rfl (.inl rfl) rfl) (fun h => by first | rfl | cases h)) (wk_mask (bs := [true, true, false])) (fun s_26 number_27 => (BindOk.name (i := 2) rfl (.inl rfl) (.inl rfl) (BindOk.nil (OkB.set (C := CC_common_multiple P w K mg base 1) (i := 1) rfl (.inl rfl) (.inl rfl) (Ok.frz (Ok.op o_div (Ok.view (Ok.op o_mul (Ok.view (Ok.var (i := 1) rfl (.inl rfl) rfl)) (Ok.view (Ok.var (i := 2) rfl (.inl rfl) rfl)))) (Ok.view (Ok.call h_common_divisor (Nat.le_of_ble_eq_true rfl) rfl (Ok.cons (Ok.var (i := 1) rfl (.inl rfl) rfl) (Ok.cons (Ok.var (i := 2) rfl (.inl rfl) rfl) Ok.nil)))))) (fun found_28 => (OkB.nil (s := found_28) (wk_mask (bs := [true, true, false])))))))) fun s_29 => (OkB.ret (Ok.var (i := 1) rfl (.inl rfl) rfl)))))
abbrev s_period_of : Stmt := topS 12
theorem sc_period_of : FnScope ["machine", "reel"] ["machine"] (defScope s_period_of) := ⟨rfl, rfl, rfl, by decide +kernel, rfl, by decide +kernel, by decide +kernel⟩
abbrev CC_period_of (P : Program) (w : World) (K : PySem.W.Frag) (mg : Str → Option Value) (base : Heap) (k : Nat) : Stat := ⟨⟨P, w, K, mg, base⟩, ["machine", "reel"], defScope s_period_of, k, fun _ => true⟩
def b_period_of (machine_30 : D) : M Bx (Fl Unit Unit) :=
  (retF (bnd (consM (compM (itM (ret machine_30)) fun reel_31 => (eltM (ret true) (bcM lenD (consM (bnd (consM (ret reel_31) (ret [])) m_root_of_reel) (ret []))))) (ret [])) m_common_multiple))
def mb_period_of : List D → M Bx (Fl Unit Unit)
  | [machine_30] => b_period_of machine_30
  | _ => stuck
def m_period_of (ds : List D) : M Bx D := bnd (mb_period_of ds) endF
set_option maxHeartbeats 0 in
theorem h_period_of {f : Addr} {fd : FuncData} (F : Fun K "period_of" "period_of" s_period_of f fd) (g : mg "period_of" = some (.ref f)) (z_len : mg "len" = none) (h_root_of_reel : HasF (S := Bx) ⟨P, w, K, mg, base⟩ 1 "root_of_reel" 1 m_root_of_reel) (h_common_multiple : HasF (S := Bx) ⟨P, w, K, mg, base⟩ 2 "common_multiple" 1 m_common_multiple) : HasF (S := Bx) ⟨P, w, K, mg, base⟩ 3 "period_of" 1 m_period_of :=
  hasF_mk g F sc_period_of (F.binds fun _ _ _ _ _ _ us hl => match us, hl with | [_], _ => rfl) rfl fun ds hl => match ds, hl with
    | [machine_30], _ =>
      (OkB.ret (Ok.call h_common_multiple (Nat.le_of_ble_eq_true rfl) rfl (Ok.cons (Ok.frz (OkC.n (Ok.lc [("reel", 1)] (OkI.val (Ok.var (i := 0) rfl (.inl rfl) rfl) (fun h => by first | rfl | cases h)) fun reel_31 => (BindOk.name (i := 1) rfl (.inl rfl) (.inr rfl) (BindOk.nil ⟨_, _, OkTs.nil, (Ok.frz (Ok.bfun o_len (by decide +kernel) rfl z_len (Ok.cons (Ok.view (Ok.call h_root_of_reel (Nat.le_of_ble_eq_true rfl) rfl (Ok.cons (Ok.var (i := 1) rfl (.inl rfl) rfl) Ok.nil))) Ok.nil))), rfl⟩))))) Ok.nil)))
abbrev s_all_stickers_in : Stmt := topS 14
theorem sc_all_stickers_in : FnScope ["machine", "t", "k", "here", "sticker"] ["machine", "t", "k"] (defScope s_all_stickers_in) := ⟨rfl, rfl, rfl, by decide +kernel, rfl, by decide +kernel, by decide +kernel⟩
abbrev CC_all_stickers_in (P : Program) (w : World) (K : PySem.W.Frag) (mg : Str → Option Value) (base : Heap) (k : Nat) : Stat := ⟨⟨P, w, K, mg, base⟩, ["machine", "t", "k", "here", "sticker"], defScope s_all_stickers_in, k, fun _ => true⟩
def b_all_stickers_in (machine_32 : D) (t_33 : D) (k_34 : D) : M Bx (Fl Unit Unit) :=
  (retF (comp2M (rng2M (ret t_33) (op2M addD (ret t_33) (ret k_34))) fun here_35 => (elt2M (ret true) (itM (bnd (consM (ret machine_32) (consM (ret here_35) (ret []))) m_packet_at)) fun sticker_36 => (eltM (ret true) (ret sticker_36)))))
def mb_all_stickers_in : List D → M Bx (Fl Unit Unit)
  | [machine_32, t_33, k_34] => b_all_stickers_in machine_32 t_33 k_34
  | _ => stuck
def m_all_stickers_in (ds : List D) : M Bx D := bnd (mb_all_stickers_in ds) endF
set_option maxHeartbeats 0 in
theorem h_all_stickers_in {f : Addr} {fd : FuncData} (F : Fun K "all_stickers_in" "all_stickers_in" s_all_stickers_in f fd) (g : mg "all_stickers_in" = some (.ref f)) (z_range : mg "range" = none) (h_packet_at : HasF (S := Bx) ⟨P, w, K, mg, base⟩ 1 "packet_at" 2 m_packet_at) : HasF (S := Bx) ⟨P, w, K, mg, base⟩ 2 "all_stickers_in" 3 m_all_stickers_in :=
  hasF_mk g F sc_all_stickers_in (F.binds fun _ _ _ _ _ _ us hl => match us, hl with | [_, _, _], _ => rfl) rfl fun ds hl => match ds, hl with
    | [machine_32, t_33, k_34], _ =>
      (OkB.ret (Ok.frz (OkC.n (Ok.lc2 [("here", 3), ("sticker", 4)] [4] (OkI.range2 (Ok.view (Ok.var (i := 1) rfl (.inl rfl) rfl)) (Ok.view (Ok.op o_add (Ok.view (Ok.var (i := 1) rfl (.inl rfl) rfl)) (Ok.view (Ok.var (i := 2) rfl (.inl rfl) rfl)))) rfl z_range) fun here_35 => (BindOk.name (i := 3) rfl (.inl rfl) (.inr rfl) (BindOk.nil ⟨_, _, _, OkTs.nil, (OkI.val (Ok.call h_packet_at (Nat.le_of_ble_eq_true rfl) rfl (Ok.cons (Ok.var (i := 0) rfl (.inr (.inl rfl)) rfl) (Ok.cons (Ok.var (i := 3) rfl (.inl rfl) rfl) Ok.nil))) (fun h => by first | rfl | cases h)), fun sticker_36 => (BindOk.name (i := 4) rfl (.inl rfl) (.inr rfl) (BindOk.nil ⟨_, _, OkTs.nil, (Ok.var (i := 4) rfl (.inl rfl) rfl), rfl⟩)), rfl⟩))))))
abbrev s_box_counts : Stmt := topS 15
theorem sc_box_counts : FnScope ["machine", "t", "k", "counts", "sticker"] ["machine", "t", "k"] (defScope s_box_counts) := ⟨rfl, rfl, rfl, by decide +kernel, rfl, by decide +kernel, by decide +kernel⟩
abbrev CC_box_counts (P : Program) (w : World) (K : PySem.W.Frag) (mg : Str → Option Value) (base : Heap) (k : Nat) : Stat := ⟨⟨P, w, K, mg, base⟩, ["machine", "t", "k", "counts", "sticker"], defScope s_box_counts, k, fun _ => true⟩
def b_box_counts (machine_37 : D) (t_38 : D) (k_39 : D) : M Bx (Fl Unit Unit) :=
  (ownM (ret (.dct [])) fun counts_40 => (forM' (itM (bnd (consM (ret machine_37) (consM (ret t_38) (consM (ret k_39) (ret [])))) m_all_stickers_in)) (fun (s_41 : D) sticker_42 => (dsetM s_41 (op2M addD (get2M (ret s_41) (ret sticker_42) (ret (.int 0))) (ret (.int 1))) (ret sticker_42) fun counts_43 => (ret (.nx counts_43)))) counts_40 fun s_44 => (retF (bcM tupleD (consM (compM (itM (bcM sortedD (consM (ret s_44) (ret [])))) fun sticker_45 => (eltM (ret true) (tupM (consM (ret sticker_45) (consM (ix2M (ret s_44) (ret sticker_45)) (ret [])))))) (ret []))))))
def mb_box_counts : List D → M Bx (Fl Unit Unit)
  | [machine_37, t_38, k_39] => b_box_counts machine_37 t_38 k_39
  | _ => stuck
def m_box_counts (ds : List D) : M Bx D := bnd (mb_box_counts ds) endF
set_option maxHeartbeats 0 in
theorem h_box_counts {f : Addr} {fd : FuncData} (F : Fun K "box_counts" "box_counts" s_box_counts f fd) (g : mg "box_counts" = some (.ref f)) (z_sorted : mg "sorted" = none) (z_tuple : mg "tuple" = none) (h_all_stickers_in : HasF (S := Bx) ⟨P, w, K, mg, base⟩ 2 "all_stickers_in" 3 m_all_stickers_in) : HasF (S := Bx) ⟨P, w, K, mg, base⟩ 3 "box_counts" 3 m_box_counts :=
  hasF_mk g F sc_box_counts (F.binds fun _ _ _ _ _ _ us hl => match us, hl with | [_, _, _], _ => rfl) rfl fun ds hl => match ds, hl with
    | [machine_37, t_38, k_39], _ =>
      (OkB.setO (C := CC_box_counts P w K mg base 2) (i := 3) rfl (.inr rfl) (.inl rfl) Ok.dnew (fun counts_40 => (OkB.forR (C := CC_box_counts P w K mg base 2) (Γl := fun (s_41 : D) => [some (.frz machine_37), some (.frz t_38), some (.frz k_39), some (.own s_41), none]) (s0 := counts_40) (OkI.val (Ok.call h_all_stickers_in (Nat.le_of_ble_eq_true rfl) rfl (Ok.cons (Ok.var (i := 0) rfl (.inl rfl) rfl) (Ok.cons (Ok.var (i := 1) rfl (.inl rfl) rfl) (Ok.cons (Ok.var (i := 2) rfl (.inl rfl) rfl) Ok.nil)))) (fun h => by first | rfl | cases h)) (wk_mask (bs := [true, true, true, true, false])) (fun s_41 sticker_42 => (BindOk.name (i := 4) rfl (.inl rfl) (.inl rfl) (BindOk.nil (OkB.dset (C := CC_box_counts P w K mg base 2) (i := 3) rfl (.inr (.inl rfl)) rfl (Ok.frz (Ok.op o_add (Ok.view (Ok.get2 (Ok.own (i := 3) rfl (.inr (.inl rfl)) rfl) (Ok.view (Ok.var (i := 4) rfl (.inl rfl) rfl)) Ok.int fun X hX => ⟨rfl, rfl, rfl, rfl⟩)) (Ok.view Ok.int))) (Ok.view (Ok.var (i := 4) rfl (.inl rfl) rfl)) fun counts_43 => (OkB.nil (s := counts_43) (wk_mask (bs := [true, true, true, true, false]))))))) fun s_44 => (OkB.ret (Ok.frz (Ok.tfun o_tuple (by decide +kernel) rfl z_tuple (Ok.cons (Ok.view (OkC.n (Ok.lc [("sticker", 4)] (OkI.val (Ok.bfun o_sorted (by decide +kernel) rfl z_sorted (Ok.cons (Ok.own (i := 3) rfl (.inr (.inl rfl)) rfl) Ok.nil)) (fun h => by first | rfl | cases h)) fun sticker_45 => (BindOk.name (i := 4) rfl (.inl rfl) (.inr rfl) (BindOk.nil ⟨_, _, OkTs.nil, (Ok.tup (Ok.cons (Ok.var (i := 4) rfl (.inl rfl) rfl) (Ok.cons (Ok.ix2 (Ok.own (i := 3) rfl (.inr (.inl rfl)) rfl) (Ok.view (Ok.var (i := 4) rfl (.inl rfl) rfl))) Ok.nil))), rfl⟩))))) Ok.nil)))))))
abbrev s_has_told : Stmt := topS 16
theorem sc_has_told : FnScope ["machine", "told", "t", "k", "there", "sticker"] ["machine", "told", "t", "k"] (defScope s_has_told) := ⟨rfl, rfl, rfl, by decide +kernel, rfl, by decide +kernel, by decide +kernel⟩
abbrev CC_has_told (P : Program) (w : World) (K : PySem.W.Frag) (mg : Str → Option Value) (base : Heap) (k : Nat) : Stat := ⟨⟨P, w, K, mg, base⟩, ["machine", "told", "t", "k", "there", "sticker"], defScope s_has_told, k, fun _ => true⟩
def b_has_told (machine_46 : D) (told_47 : D) (t_48 : D) (k_49 : D) : M Bx (Fl Unit Unit) :=
  (bnd (bnd (consM (ret machine_46) (consM (ret t_48) (consM (ret k_49) (ret [])))) m_all_stickers_in) fun there_50 => (retF (bcM allD (consM (compM (itM (ret told_47)) fun sticker_51 => (eltM (ret true) (op2M inD (ret sticker_51) (ret there_50)))) (ret [])))))
def mb_has_told : List D → M Bx (Fl Unit Unit)
  | [machine_46, told_47, t_48, k_49] => b_has_told machine_46 told_47 t_48 k_49
  | _ => stuck
def m_has_told (ds : List D) : M Bx D := bnd (mb_has_told ds) endF
set_option maxHeartbeats 0 in
theorem h_has_told {f : Addr} {fd : FuncData} (F : Fun K "has_told" "has_told" s_has_told f fd) (g : mg "has_told" = some (.ref f)) (z_all : mg "all" = none) (h_all_stickers_in : HasF (S := Bx) ⟨P, w, K, mg, base⟩ 2 "all_stickers_in" 3 m_all_stickers_in) : HasF (S := Bx) ⟨P, w, K, mg, base⟩ 3 "has_told" 4 m_has_told :=
  hasF_mk g F sc_has_told (F.binds fun _ _ _ _ _ _ us hl => match us, hl with | [_, _, _, _], _ => rfl) rfl fun ds hl => match ds, hl with
    | [machine_46, told_47, t_48, k_49], _ =>
      (OkB.set (C := CC_has_told P w K mg base 2) (i := 4) rfl (.inr rfl) (.inl rfl) (Ok.call h_all_stickers_in (Nat.le_of_ble_eq_true rfl) rfl (Ok.cons (Ok.var (i := 0) rfl (.inl rfl) rfl) (Ok.cons (Ok.var (i := 2) rfl (.inl rfl) rfl) (Ok.cons (Ok.var (i := 3) rfl (.inl rfl) rfl) Ok.nil)))) (fun there_50 => (OkB.ret (Ok.frz (Ok.bfun o_all (by decide +kernel) rfl z_all (Ok.cons (Ok.view (OkC.n (Ok.lc [("sticker", 5)] (OkI.val (Ok.var (i := 1) rfl (.inl rfl) rfl) (fun h => by first | rfl | cases h)) fun sticker_51 => (BindOk.name (i := 5) rfl (.inl rfl) (.inr rfl) (BindOk.nil ⟨_, _, OkTs.nil, (Ok.frz (Ok.cmp o_in (Ok.view (Ok.var (i := 5) rfl (.inl rfl) rfl)) (Ok.view (Ok.var (i := 4) rfl (.inr (.inl rfl)) rfl)))), rfl⟩))))) Ok.nil))))))
abbrev s_moments_of : Stmt := topS 17
theorem sc_moments_of : FnScope ["machine", "sticker", "t"] ["machine", "sticker"] (defScope s_moments_of) := ⟨rfl, rfl, rfl, by decide +kernel, rfl, by decide +kernel, by decide +kernel⟩
abbrev CC_moments_of (P : Program) (w : World) (K : PySem.W.Frag) (mg : Str → Option Value) (base : Heap) (k : Nat) : Stat := ⟨⟨P, w, K, mg, base⟩, ["machine", "sticker", "t"], defScope s_moments_of, k, fun _ => true⟩
def b_moments_of (machine_52 : D) (sticker_53 : D) : M Bx (Fl Unit Unit) :=
  (retF (compM (rng1M (bnd (consM (ret machine_52) (ret [])) m_period_of)) fun t_54 => (eltM (cmpT inD (ret sticker_53) (bnd (consM (ret machine_52) (consM (ret t_54) (ret []))) m_packet_at)) (ret t_54))))
def mb_moments_of : List D → M Bx (Fl Unit Unit)
  | [machine_52, sticker_53] => b_moments_of machine_52 sticker_53
  | _ => stuck
def m_moments_of (ds : List D) : M Bx D := bnd (mb_moments_of ds) endF
set_option maxHeartbeats 0 in
theorem h_moments_of {f : Addr} {fd : FuncData} (F : Fun K "moments_of" "moments_of" s_moments_of f fd) (g : mg "moments_of" = some (.ref f)) (z_range : mg "range" = none) (h_period_of : HasF (S := Bx) ⟨P, w, K, mg, base⟩ 3 "period_of" 1 m_period_of) (h_packet_at : HasF (S := Bx) ⟨P, w, K, mg, base⟩ 1 "packet_at" 2 m_packet_at) : HasF (S := Bx) ⟨P, w, K, mg, base⟩ 4 "moments_of" 2 m_moments_of :=
  hasF_mk g F sc_moments_of (F.binds fun _ _ _ _ _ _ us hl => match us, hl with | [_, _], _ => rfl) rfl fun ds hl => match ds, hl with
    | [machine_52, sticker_53], _ =>
      (OkB.ret (Ok.frz (OkC.n (Ok.lc [("t", 2)] (OkI.range1 (Ok.view (Ok.call h_period_of (Nat.le_of_ble_eq_true rfl) rfl (Ok.cons (Ok.var (i := 0) rfl (.inr (.inl rfl)) rfl) Ok.nil))) rfl z_range) fun t_54 => (BindOk.name (i := 2) rfl (.inl rfl) (.inr rfl) (BindOk.nil ⟨_, _, (OkTs.one (OkT.cmp o_in (Ok.view (Ok.var (i := 1) rfl (.inr (.inl rfl)) rfl)) (Ok.view (Ok.call h_packet_at (Nat.le_of_ble_eq_true rfl) rfl (Ok.cons (Ok.var (i := 0) rfl (.inr (.inl rfl)) rfl) (Ok.cons (Ok.var (i := 2) rfl (.inl rfl) rfl) Ok.nil)))))), (Ok.var (i := 2) rfl (.inl rfl) rfl), rfl⟩))))))
abbrev s_longest_way : Stmt := topS 18
theorem sc_longest_way : FnScope ["machine", "sticker", "rows", "period", "later", "here", "there"] ["machine", "sticker"] (defScope s_longest_way) := ⟨rfl, rfl, rfl, by decide +kernel, rfl, by decide +kernel, by decide +kernel⟩
abbrev CC_longest_way (P : Program) (w : World) (K : PySem.W.Frag) (mg : Str → Option Value) (base : Heap) (k : Nat) : Stat := ⟨⟨P, w, K, mg, base⟩, ["machine", "sticker", "rows", "period", "later", "here", "there"], defScope s_longest_way, k, fun _ => true⟩
def b_longest_way (machine_55 : D) (sticker_56 : D) : M Bx (Fl Unit Unit) :=
  (parM .E .E (bnd (consM (ret machine_55) (consM (ret sticker_56) (ret []))) m_moments_of) (bnd (consM (ret machine_55) (ret [])) m_period_of) fun rows_57 period_58 => (bnd (op2M addD (slM (ret rows_57) (ptM (ret (.int 1))) (ret none)) (lstM (consM (op2M addD (ixM (ret rows_57) (ret (.int 0))) (ret period_58)) (ret [])))) fun later_59 => (retF (bcM maxD (consM (compM (zipM2 (ret rows_57) (ret later_59)) fun t_60 => (pat2 (fun here_61 there_62 => (eltM (ret true) (op2M subD (ret there_62) (ret here_61)))) t_60)) (ret []))))))
def mb_longest_way : List D → M Bx (Fl Unit Unit)
  | [machine_55, sticker_56] => b_longest_way machine_55 sticker_56
  | _ => stuck
def m_longest_way (ds : List D) : M Bx D := bnd (mb_longest_way ds) endF
set_option maxHeartbeats 0 in
theorem h_longest_way {f : Addr} {fd : FuncData} (F : Fun K "longest_way" "longest_way" s_longest_way f fd) (g : mg "longest_way" = some (.ref f)) (z_max : mg "max" = none) (z_zip : mg "zip" = none) (h_moments_of : HasF (S := Bx) ⟨P, w, K, mg, base⟩ 4 "moments_of" 2 m_moments_of) (h_period_of : HasF (S := Bx) ⟨P, w, K, mg, base⟩ 3 "period_of" 1 m_period_of) : HasF (S := Bx) ⟨P, w, K, mg, base⟩ 5 "longest_way" 2 m_longest_way :=
  hasF_mk g F sc_longest_way (F.binds fun _ _ _ _ _ _ us hl => match us, hl with | [_, _], _ => rfl) rfl fun ds hl => match ds, hl with
    | [machine_55, sticker_56], _ =>
      (OkB.par2 (C := CC_longest_way P w K mg base 4) (i := 2) (j := 3) rfl rfl (by decide) rfl rfl rfl (Ok.call h_moments_of (Nat.le_of_ble_eq_true rfl) rfl (Ok.cons (Ok.var (i := 0) rfl (.inl rfl) rfl) (Ok.cons (Ok.var (i := 1) rfl (.inl rfl) rfl) Ok.nil))) (Ok.call h_period_of (Nat.le_of_ble_eq_true rfl) rfl (Ok.cons (Ok.var (i := 0) rfl (.inl rfl) rfl) Ok.nil)) (.inl rfl) (.inl rfl) fun rows_57 period_58 => (OkB.set (C := CC_longest_way P w K mg base 4) (i := 4) rfl (.inl rfl) (.inl rfl) (Ok.frz (Ok.op o_add (Ok.view (Ok.sl (Ok.view (Ok.var (i := 2) rfl (.inl rfl) rfl)) (OkO.some (Ok.view Ok.int)) OkO.none)) (Ok.view (Ok.lst (Ok.cons (Ok.frz (Ok.op o_add (Ok.view (Ok.ix (Ok.view (Ok.var (i := 2) rfl (.inl rfl) rfl)) (Ok.view Ok.int))) (Ok.view (Ok.var (i := 3) rfl (.inl rfl) rfl)))) Ok.nil))))) (fun later_59 => (OkB.ret (Ok.frz (Ok.bfun o_max (by decide +kernel) rfl z_max (Ok.cons (Ok.view (OkC.n (Ok.lc [("here", 5), ("there", 6)] (OkI.zip (Ok.var (i := 2) rfl (.inl rfl) rfl) (Ok.var (i := 4) rfl (.inl rfl) rfl) rfl z_zip (fun h => by first | rfl | cases h) (fun h => by first | rfl | cases h)) fun t_60 => (BindOk.tup2 rfl fun here_61 there_62 => (BindOk.name (i := 5) rfl (.inl rfl) (.inr rfl) (BindOk.name (i := 6) rfl (.inl rfl) (.inr rfl) (BindOk.nil ⟨_, _, OkTs.nil, (Ok.frz (Ok.op o_sub (Ok.view (Ok.var (i := 6) rfl (.inl rfl) rfl)) (Ok.view (Ok.var (i := 5) rfl (.inl rfl) rfl)))), rfl⟩))))))) Ok.nil)))))))
abbrev s_sure_box : Stmt := topS 19
theorem sc_sure_box : FnScope ["machine", "told", "sticker"] ["machine", "told"] (defScope s_sure_box) := ⟨rfl, rfl, rfl, by decide +kernel, rfl, by decide +kernel, by decide +kernel⟩
abbrev CC_sure_box (P : Program) (w : World) (K : PySem.W.Frag) (mg : Str → Option Value) (base : Heap) (k : Nat) : Stat := ⟨⟨P, w, K, mg, base⟩, ["machine", "told", "sticker"], defScope s_sure_box, k, fun _ => true⟩
def b_sure_box (machine_63 : D) (told_64 : D) : M Bx (Fl Unit Unit) :=
  (retF (bcM maxD (consM (compM (itM (ret told_64)) fun sticker_65 => (eltM (ret true) (bnd (consM (ret machine_63) (consM (ret sticker_65) (ret []))) m_longest_way))) (ret []))))
def mb_sure_box : List D → M Bx (Fl Unit Unit)
  | [machine_63, told_64] => b_sure_box machine_63 told_64
  | _ => stuck
def m_sure_box (ds : List D) : M Bx D := bnd (mb_sure_box ds) endF
set_option maxHeartbeats 0 in
theorem h_sure_box {f : Addr} {fd : FuncData} (F : Fun K "sure_box" "sure_box" s_sure_box f fd) (g : mg "sure_box" = some (.ref f)) (z_max : mg "max" = none) (h_longest_way : HasF (S := Bx) ⟨P, w, K, mg, base⟩ 5 "longest_way" 2 m_longest_way) : HasF (S := Bx) ⟨P, w, K, mg, base⟩ 6 "sure_box" 2 m_sure_box :=
  hasF_mk g F sc_sure_box (F.binds fun _ _ _ _ _ _ us hl => match us, hl with | [_, _], _ => rfl) rfl fun ds hl => match ds, hl with
    | [machine_63, told_64], _ =>
      (OkB.ret (Ok.frz (Ok.bfun o_max (by decide +kernel) rfl z_max (Ok.cons (Ok.view (OkC.n (Ok.lc [("sticker", 2)] (OkI.val (Ok.var (i := 1) rfl (.inl rfl) rfl) (fun h => by first | rfl | cases h)) fun sticker_65 => (BindOk.name (i := 2) rfl (.inl rfl) (.inr rfl) (BindOk.nil ⟨_, _, OkTs.nil, (Ok.call h_longest_way (Nat.le_of_ble_eq_true rfl) rfl (Ok.cons (Ok.var (i := 0) rfl (.inr (.inl rfl)) rfl) (Ok.cons (Ok.var (i := 2) rfl (.inl rfl) rfl) Ok.nil))), rfl⟩))))) Ok.nil))))
abbrev s_least_box : Stmt := topS 20
theorem sc_least_box : FnScope ["machine", "told", "k", "t"] ["machine", "told"] (defScope s_least_box) := ⟨rfl, rfl, rfl, by decide +kernel, rfl, by decide +kernel, by decide +kernel⟩
abbrev CC_least_box (P : Program) (w : World) (K : PySem.W.Frag) (mg : Str → Option Value) (base : Heap) (k : Nat) : Stat := ⟨⟨P, w, K, mg, base⟩, ["machine", "told", "k", "t"], defScope s_least_box, k, fun _ => true⟩
def b_least_box (machine_66 : D) (told_67 : D) : M Bx (Fl Unit Unit) :=
  (forM' (rng2M (ret (.int 1)) (op2M addD (bnd (consM (ret machine_66) (consM (ret told_67) (ret []))) m_sure_box) (ret (.int 1)))) (fun (s_68 : Unit) k_69 => (forM' (rng1M (bnd (consM (ret machine_66) (ret [])) m_period_of)) (fun (s_70 : Unit) t_71 => (iteF (valT (bnd (consM (ret machine_66) (consM (ret told_67) (consM (ret t_71) (consM (ret k_69) (ret []))))) m_has_told)) (retF (tupM (consM (ret t_71) (consM (ret k_69) (ret []))))) (ret (.nx ())) fun (s_72 : Unit) => (ret (.nx ())))) () fun s_73 => (ret (.nx ())))) () fun s_74 => (retF (ret .non)))
def mb_least_box : List D → M Bx (Fl Unit Unit)
  | [machine_66, told_67] => b_least_box machine_66 told_67
  | _ => stuck
def m_least_box (ds : List D) : M Bx D := bnd (mb_least_box ds) endF
set_option maxHeartbeats 0 in
theorem h_least_box {f : Addr} {fd : FuncData} (F : Fun K "least_box" "least_box" s_least_box f fd) (g : mg "least_box" = some (.ref f)) (z_range : mg "range" = none) (h_sure_box : HasF (S := Bx) ⟨P, w, K, mg, base⟩ 6 "sure_box" 2 m_sure_box) (h_period_of : HasF (S := Bx) ⟨P, w, K, mg, base⟩ 3 "period_of" 1 m_period_of) (h_has_told : HasF (S := Bx) ⟨P, w, K, mg, base⟩ 3 "has_told" 4 m_has_told) : HasF (S := Bx) ⟨P, w, K, mg, base⟩ 7 "least_box" 2 m_least_box :=
  hasF_mk g F sc_least_box (F.binds fun _ _ _ _ _ _ us hl => match us, hl with | [_, _], _ => rfl) rfl fun ds hl => match ds, hl with
    | [machine_66, told_67], _ =>
      (OkB.forR (C := CC_least_box P w K mg base 6) (Γl := fun (s_68 : Unit) => [some (.frz machine_66), some (.frz told_67), none, none]) (s0 := ()) (OkI.range2 (Ok.view Ok.int) (Ok.view (Ok.op o_add (Ok.view (Ok.call h_sure_box (Nat.le_of_ble_eq_true rfl) rfl (Ok.cons (Ok.var (i := 0) rfl (.inl rfl) rfl) (Ok.cons (Ok.var (i := 1) rfl (.inl rfl) rfl) Ok.nil)))) (Ok.view Ok.int))) rfl z_range) (wk_mask (bs := [true, true, false, false])) (fun s_68 k_69 => (BindOk.name (i := 2) rfl (.inl rfl) (.inl rfl) (BindOk.nil (OkB.forR (C := CC_least_box P w K mg base 6) (Γl := fun (s_70 : Unit) => [some (.frz machine_66), some (.frz told_67), some (.frz k_69), none]) (s0 := ()) (OkI.range1 (Ok.view (Ok.call h_period_of (Nat.le_of_ble_eq_true rfl) rfl (Ok.cons (Ok.var (i := 0) rfl (.inl rfl) rfl) Ok.nil))) rfl z_range) (wk_mask (bs := [true, true, true, false])) (fun s_70 t_71 => (BindOk.name (i := 3) rfl (.inl rfl) (.inl rfl) (BindOk.nil (OkB.ite (C := CC_least_box P w K mg base 6) (Γj := fun (s_72 : Unit) => [some (.frz machine_66), some (.frz told_67), some (.frz k_69), none]) (OkT.val (Ok.view (Ok.call h_has_told (Nat.le_of_ble_eq_true rfl) rfl (Ok.cons (Ok.var (i := 0) rfl (.inl rfl) rfl) (Ok.cons (Ok.var (i := 1) rfl (.inl rfl) rfl) (Ok.cons (Ok.var (i := 3) rfl (.inl rfl) rfl) (Ok.cons (Ok.var (i := 2) rfl (.inl rfl) rfl) Ok.nil))))))) (OkB.ret (Ok.tup (Ok.cons (Ok.var (i := 3) rfl (.inl rfl) rfl) (Ok.cons (Ok.var (i := 2) rfl (.inl rfl) rfl) Ok.nil)))) (OkB.nil (s := ()) (wk_mask (bs := [true, true, true, false]))) fun s_72 => (OkB.nil (s := ()) (wk_mask (bs := [true, true, true, false]))))))) fun s_73 => (OkB.nil (s := ()) (wk_mask (bs := [true, true, false, false]))))))) fun s_74 => (OkB.ret Ok.non))
abbrev s_lacking_box : Stmt := topS 21
theorem sc_lacking_box : FnScope ["machine", "told", "k", "t"] ["machine", "told", "k"] (defScope s_lacking_box) := ⟨rfl, rfl, rfl, by decide +kernel, rfl, by decide +kernel, by decide +kernel⟩
abbrev CC_lacking_box (P : Program) (w : World) (K : PySem.W.Frag) (mg : Str → Option Value) (base : Heap) (k : Nat) : Stat := ⟨⟨P, w, K, mg, base⟩, ["machine", "told", "k", "t"], defScope s_lacking_box, k, fun _ => true⟩
def b_lacking_box (machine_75 : D) (told_76 : D) (k_77 : D) : M Bx (Fl Unit Unit) :=
  (forM' (rng1M (bnd (consM (ret machine_75) (ret [])) m_period_of)) (fun (s_78 : Unit) t_79 => (iteF (notT (valT (bnd (consM (ret machine_75) (consM (ret told_76) (consM (ret t_79) (consM (ret k_77) (ret []))))) m_has_told))) (retF (ret t_79)) (ret (.nx ())) fun (s_80 : Unit) => (ret (.nx ())))) () fun s_81 => (retF (ret .non)))
def mb_lacking_box : List D → M Bx (Fl Unit Unit)
  | [machine_75, told_76, k_77] => b_lacking_box machine_75 told_76 k_77
  | _ => stuck
def m_lacking_box (ds : List D) : M Bx D := bnd (mb_lacking_box ds) endF
set_option maxHeartbeats 0 in
theorem h_lacking_box {f : Addr} {fd : FuncData} (F : Fun K "lacking_box" "lacking_box" s_lacking_box f fd) (g : mg "lacking_box" = some (.ref f)) (z_range : mg "range" = none) (h_period_of : HasF (S := Bx) ⟨P, w, K, mg, base⟩ 3 "period_of" 1 m_period_of) (h_has_told : HasF (S := Bx) ⟨P, w, K, mg, base⟩ 3 "has_told" 4 m_has_told) : HasF (S := Bx) ⟨P, w, K, mg, base⟩ 4 "lacking_box" 3 m_lacking_box :=
  hasF_mk g F sc_lacking_box (F.binds fun _ _ _ _ _ _ us hl => match us, hl with | [_, _, _], _ => rfl) rfl fun ds hl => match ds, hl with
    | [machine_75, told_76, k_77], _ =>
      (OkB.forR (C := CC_lacking_box P w K mg base 3) (Γl := fun (s_78 : Unit) => [some (.frz machine_75), some (.frz told_76), some (.frz k_77), none]) (s0 := ()) (OkI.range1 (Ok.view (Ok.call h_period_of (Nat.le_of_ble_eq_true rfl) rfl (Ok.cons (Ok.var (i := 0) rfl (.inl rfl) rfl) Ok.nil))) rfl z_range) (wk_mask (bs := [true, true, true, false])) (fun s_78 t_79 => (BindOk.name (i := 3) rfl (.inl rfl) (.inl rfl) (BindOk.nil (OkB.ite (C := CC_lacking_box P w K mg base 3) (Γj := fun (s_80 : Unit) => [some (.frz machine_75), some (.frz told_76), some (.frz k_77), none]) (OkT.not (OkT.val (Ok.view (Ok.call h_has_told (Nat.le_of_ble_eq_true rfl) rfl (Ok.cons (Ok.var (i := 0) rfl (.inl rfl) rfl) (Ok.cons (Ok.var (i := 1) rfl (.inl rfl) rfl) (Ok.cons (Ok.var (i := 3) rfl (.inl rfl) rfl) (Ok.cons (Ok.var (i := 2) rfl (.inl rfl) rfl) Ok.nil)))))))) (OkB.ret (Ok.var (i := 3) rfl (.inl rfl) rfl)) (OkB.nil (s := ()) (wk_mask (bs := [true, true, true, false]))) fun s_80 => (OkB.nil (s := ()) (wk_mask (bs := [true, true, true, false]))))))) fun s_81 => (OkB.ret Ok.non))
abbrev s_are_apart : Stmt := topS 22
theorem sc_are_apart : FnScope ["machine", "one", "other", "there", "sticker"] ["machine", "one", "other"] (defScope s_are_apart) := ⟨rfl, rfl, rfl, by decide +kernel, rfl, by decide +kernel, by decide +kernel⟩
abbrev CC_are_apart (P : Program) (w : World) (K : PySem.W.Frag) (mg : Str → Option Value) (base : Heap) (k : Nat) : Stat := ⟨⟨P, w, K, mg, base⟩, ["machine", "one", "other", "there", "sticker"], defScope s_are_apart, k, fun _ => true⟩
def b_are_apart (machine_82 : D) (one_83 : D) (other_84 : D) : M Bx (Fl Unit Unit) :=
  (bnd (bnd (consM (ret machine_82) (consM (ixM (ret one_83) (ret (.int 0))) (consM (ixM (ret one_83) (ret (.int 1))) (ret [])))) m_all_stickers_in) fun there_85 => (retF (notM (bcM anyD (consM (compM (itM (bnd (consM (ret machine_82) (consM (ixM (ret other_84) (ret (.int 0))) (consM (ixM (ret other_84) (ret (.int 1))) (ret [])))) m_all_stickers_in)) fun sticker_86 => (eltM (ret true) (op2M inD (ret sticker_86) (ret there_85)))) (ret []))))))
def mb_are_apart : List D → M Bx (Fl Unit Unit)
  | [machine_82, one_83, other_84] => b_are_apart machine_82 one_83 other_84
  | _ => stuck
def m_are_apart (ds : List D) : M Bx D := bnd (mb_are_apart ds) endF
set_option maxHeartbeats 0 in
theorem h_are_apart {f : Addr} {fd : FuncData} (F : Fun K "are_apart" "are_apart" s_are_apart f fd) (g : mg "are_apart" = some (.ref f)) (z_any : mg "any" = none) (h_all_stickers_in : HasF (S := Bx) ⟨P, w, K, mg, base⟩ 2 "all_stickers_in" 3 m_all_stickers_in) : HasF (S := Bx) ⟨P, w, K, mg, base⟩ 3 "are_apart" 3 m_are_apart :=
  hasF_mk g F sc_are_apart (F.binds fun _ _ _ _ _ _ us hl => match us, hl with | [_, _, _], _ => rfl) rfl fun ds hl => match ds, hl with
    | [machine_82, one_83, other_84], _ =>
      (OkB.set (C := CC_are_apart P w K mg base 2) (i := 3) rfl (.inr rfl) (.inl rfl) (Ok.call h_all_stickers_in (Nat.le_of_ble_eq_true rfl) rfl (Ok.cons (Ok.var (i := 0) rfl (.inl rfl) rfl) (Ok.cons (Ok.ix (Ok.view (Ok.var (i := 1) rfl (.inl rfl) rfl)) (Ok.view Ok.int)) (Ok.cons (Ok.ix (Ok.view (Ok.var (i := 1) rfl (.inl rfl) rfl)) (Ok.view Ok.int)) Ok.nil)))) (fun there_85 => (OkB.ret (Ok.not (Ok.view (Ok.bfun o_any (by decide +kernel) rfl z_any (Ok.cons (Ok.view (OkC.n (Ok.lc [("sticker", 4)] (OkI.val (Ok.call h_all_stickers_in (Nat.le_of_ble_eq_true rfl) rfl (Ok.cons (Ok.var (i := 0) rfl (.inl rfl) rfl) (Ok.cons (Ok.ix (Ok.view (Ok.var (i := 2) rfl (.inl rfl) rfl)) (Ok.view Ok.int)) (Ok.cons (Ok.ix (Ok.view (Ok.var (i := 2) rfl (.inl rfl) rfl)) (Ok.view Ok.int)) Ok.nil)))) (fun h => by first | rfl | cases h)) fun sticker_86 => (BindOk.name (i := 4) rfl (.inl rfl) (.inr rfl) (BindOk.nil ⟨_, _, OkTs.nil, (Ok.frz (Ok.cmp o_in (Ok.view (Ok.var (i := 4) rfl (.inl rfl) rfl)) (Ok.view (Ok.var (i := 3) rfl (.inr (.inl rfl)) rfl)))), rfl⟩))))) Ok.nil)))))))
abbrev s_first_apart : Stmt := topS 23
theorem sc_first_apart : FnScope ["machine", "k", "t"] ["machine", "k"] (defScope s_first_apart) := ⟨rfl, rfl, rfl, by decide +kernel, rfl, by decide +kernel, by decide +kernel⟩
abbrev CC_first_apart (P : Program) (w : World) (K : PySem.W.Frag) (mg : Str → Option Value) (base : Heap) (k : Nat) : Stat := ⟨⟨P, w, K, mg, base⟩, ["machine", "k", "t"], defScope s_first_apart, k, fun _ => true⟩
def b_first_apart (machine_87 : D) (k_88 : D) : M Bx (Fl Unit Unit) :=
  (forM' (rng1M (bnd (consM (ret machine_87) (ret [])) m_period_of)) (fun (s_89 : Unit) t_90 => (iteF (valT (bnd (consM (ret machine_87) (consM (tupM (consM (ret (.int 0)) (consM (ret k_88) (ret [])))) (consM (tupM (consM (ret t_90) (consM (ret k_88) (ret [])))) (ret [])))) m_are_apart)) (retF (ret t_90)) (ret (.nx ())) fun (s_91 : Unit) => (ret (.nx ())))) () fun s_92 => (retF (ret .non)))
def mb_first_apart : List D → M Bx (Fl Unit Unit)
  | [machine_87, k_88] => b_first_apart machine_87 k_88
  | _ => stuck
def m_first_apart (ds : List D) : M Bx D := bnd (mb_first_apart ds) endF
set_option maxHeartbeats 0 in
theorem h_first_apart {f : Addr} {fd : FuncData} (F : Fun K "first_apart" "first_apart" s_first_apart f fd) (g : mg "first_apart" = some (.ref f)) (z_range : mg "range" = none) (h_period_of : HasF (S := Bx) ⟨P, w, K, mg, base⟩ 3 "period_of" 1 m_period_of) (h_are_apart : HasF (S := Bx) ⟨P, w, K, mg, base⟩ 3 "are_apart" 3 m_are_apart) : HasF (S := Bx) ⟨P, w, K, mg, base⟩ 4 "first_apart" 2 m_first_apart :=
  hasF_mk g F sc_first_apart (F.binds fun _ _ _ _ _ _ us hl => match us, hl with | [_, _], _ => rfl) rfl fun ds hl => match ds, hl with
    | [machine_87, k_88], _ =>
      (OkB.forR (C := CC_first_apart P w K mg base 3) (Γl := fun (s_89 : Unit) => [some (.frz machine_87), some (.frz k_88), none]) (s0 := ()) (OkI.range1 (Ok.view (Ok.call h_period_of (Nat.le_of_ble_eq_true rfl) rfl (Ok.cons (Ok.var (i := 0) rfl (.inl rfl) rfl) Ok.nil))) rfl z_range) (wk_mask (bs := [true, true, false])) (fun s_89 t_90 => (BindOk.name (i := 2) rfl (.inl rfl) (.inl rfl) (BindOk.nil (OkB.ite (C := CC_first_apart P w K mg base 3) (Γj := fun (s_91 : Unit) => [some (.frz machine_87), some (.frz k_88), none]) (OkT.val (Ok.view (Ok.call h_are_apart (Nat.le_of_ble_eq_true rfl) rfl (Ok.cons (Ok.var (i := 0) rfl (.inl rfl) rfl) (Ok.cons (Ok.tup (Ok.cons Ok.int (Ok.cons (Ok.var (i := 1) rfl (.inl rfl) rfl) Ok.nil))) (Ok.cons (Ok.tup (Ok.cons (Ok.var (i := 2) rfl (.inl rfl) rfl) (Ok.cons (Ok.var (i := 1) rfl (.inl rfl) rfl) Ok.nil))) Ok.nil)))))) (OkB.ret (Ok.var (i := 2) rfl (.inl rfl) rfl)) (OkB.nil (s := ()) (wk_mask (bs := [true, true, false]))) fun s_91 => (OkB.nil (s := ()) (wk_mask (bs := [true, true, false]))))))) fun s_92 => (OkB.ret Ok.non))
abbrev s__law_same : Stmt := topS 28
theorem sc__law_same : FnScope ["a", "b", "k"] ["a", "b"] (defScope s__law_same) := ⟨rfl, rfl, rfl, by decide +kernel, rfl, by decide +kernel, by decide +kernel⟩
abbrev CC__law_same (P : Program) (w : World) (K : PySem.W.Frag) (mg : Str → Option Value) (base : Heap) (k : Nat) : Stat := ⟨⟨P, w, K, mg, base⟩, ["a", "b", "k"], defScope s__law_same, k, fun _ => true⟩
def b__law_same (self : List D → M Bx D) (a_93 : D) (b_94 : D)  : M Bx (Fl Unit Unit) :=
  (iteF (orT (andT (valT (isiM "tuple" (ret a_93))) (valT (isiM "tuple" (ret b_94)))) (andT (valT (isiM "list" (ret a_93))) (valT (isiM "list" (ret b_94))))) (retF (andM (op2M eqD (bcM lenD (consM (ret a_93) (ret []))) (bcM lenD (consM (ret b_94) (ret [])))) (bcM allD (consM (compM (rng1M (bcM lenD (consM (ret a_93) (ret [])))) fun k_95 => (eltM (ret true) (bnd (consM (ixM (ret a_93) (ret k_95)) (consM (ixM (ret b_94) (ret k_95)) (ret []))) self))) (ret []))))) (ret (.nx ())) fun (s_96 : Unit) => (iteF (orT (valT (isiM "bool" (ret a_93))) (valT (isiM "bool" (ret b_94)))) (retF (andM (isiM "bool" (ret a_93)) (andM (isiM "bool" (ret b_94)) (op2M eqD (ret a_93) (ret b_94))))) (ret (.nx ())) fun (s_97 : Unit) => (iteF (orT (andT (valT (isiM "int" (ret a_93))) (valT (isiM "int" (ret b_94)))) (andT (valT (isiM "str" (ret a_93))) (valT (isiM "str" (ret b_94))))) (retF (op2M eqD (ret a_93) (ret b_94))) (ret (.nx ())) fun (s_98 : Unit) => (retF (andM (op2M isD (ret a_93) (ret .non)) (op2M isD (ret b_94) (ret .non)))))))
def mb__law_same (self : List D → M Bx D) : List D → M Bx (Fl Unit Unit)
  | [a_93, b_94] => b__law_same self a_93 b_94
  | _ => stuck
def m__law_same : Nat → List D → M Bx D
  | 0 => fun _ => stuck
  | n + 1 => fun ds => bnd (mb__law_same (m__law_same n) ds) endF
set_option maxHeartbeats 0 in
theorem st__law_same {k : Nat} (hk : 0 ≤ k) (self : List D → M Bx D) (hself : HasF (S := Bx) ⟨P, w, K, mg, base⟩ k "_law_same" 2 self) {f : Addr} {fd : FuncData} (F : Fun K "_law_same" "_law_same" s__law_same f fd) (g : mg "_law_same" = some (.ref f)) (z_all : mg "all" = none) (z_bool : mg "bool" = none) (z_int : mg "int" = none) (z_isinstance : mg "isinstance" = none) (z_len : mg "len" = none) (z_list : mg "list" = none) (z_range : mg "range" = none) (z_str : mg "str" = none) (z_tuple : mg "tuple" = none) : HasF ⟨P, w, K, mg, base⟩ (k + 1) "_law_same" 2 fun ds => bnd (mb__law_same self ds) endF :=
  hasF_mk g F sc__law_same (F.binds fun _ _ _ _ _ _ us hl => match us, hl with | [_, _], _ => rfl) rfl fun ds hl => match ds, hl with
    | [a_93, b_94], _ =>
      (OkB.ite (C := CC__law_same P w K mg base k) (Γj := fun (s_96 : Unit) => [some (.frz a_93), some (.frz b_94), none]) (OkW.pt (OkW.or (OkW.pt (OkW.and (OkT.val (Ok.view (Ok.isinst (T := "tuple") (Ok.view (Ok.var (i := 0) rfl (.inr (.inl rfl)) rfl)) rfl z_isinstance rfl z_tuple (by decide +kernel)))) (OkW.and1 (OkT.val (Ok.view (Ok.isinst (T := "tuple") (Ok.view (Ok.var (i := 1) rfl (.inr (.inl rfl)) rfl)) rfl z_isinstance rfl z_tuple (by decide +kernel))))))) (OkW.or1 (OkW.pt (OkW.and (OkT.val (Ok.view (Ok.isinst (T := "list") (Ok.view (Ok.var (i := 0) rfl (.inr (.inl rfl)) rfl)) rfl z_isinstance rfl z_list (by decide +kernel)))) (OkW.and1 (OkT.val (Ok.view (Ok.isinst (T := "list") (Ok.view (Ok.var (i := 1) rfl (.inr (.inl rfl)) rfl)) rfl z_isinstance rfl z_list (by decide +kernel)))))))))) (OkB.ret (Ok.and (Ok.view (Ok.cmp o_eq (Ok.view (Ok.bfun o_len (by decide +kernel) rfl z_len (Ok.cons (Ok.view (Ok.var (i := 0) rfl (.inr (.inl rfl)) rfl)) Ok.nil))) (Ok.view (Ok.bfun o_len (by decide +kernel) rfl z_len (Ok.cons (Ok.view (Ok.var (i := 1) rfl (.inr (.inl rfl)) rfl)) Ok.nil))))) (Ok.one (Ok.frz (Ok.bfun o_all (by decide +kernel) rfl z_all (Ok.cons (Ok.view (OkC.n (Ok.lc [("k", 2)] (OkI.range1 (Ok.view (Ok.bfun o_len (by decide +kernel) rfl z_len (Ok.cons (Ok.view (Ok.var (i := 0) rfl (.inr (.inl rfl)) rfl)) Ok.nil))) rfl z_range) fun k_95 => (BindOk.name (i := 2) rfl (.inl rfl) (.inr rfl) (BindOk.nil ⟨_, _, OkTs.nil, (Ok.call hself (Nat.le_refl _) rfl (Ok.cons (Ok.ix (Ok.view (Ok.var (i := 0) rfl (.inr (.inl rfl)) rfl)) (Ok.view (Ok.var (i := 2) rfl (.inl rfl) rfl))) (Ok.cons (Ok.ix (Ok.view (Ok.var (i := 1) rfl (.inr (.inl rfl)) rfl)) (Ok.view (Ok.var (i := 2) rfl (.inl rfl) rfl))) Ok.nil))), rfl⟩))))) Ok.nil)))))) (OkB.nil (s := ()) (wk_mask (bs := [true, true, false]))) fun s_96 => (OkB.ite (C := CC__law_same P w K mg base k) (Γj := fun (s_97 : Unit) => [some (.frz a_93), some (.frz b_94), none]) (OkW.pt (OkW.or (OkT.val (Ok.view (Ok.isinst (T := "bool") (Ok.view (Ok.var (i := 0) rfl (.inr (.inl rfl)) rfl)) rfl z_isinstance rfl z_bool (by decide +kernel)))) (OkW.or1 (OkT.val (Ok.view (Ok.isinst (T := "bool") (Ok.view (Ok.var (i := 1) rfl (.inr (.inl rfl)) rfl)) rfl z_isinstance rfl z_bool (by decide +kernel))))))) (OkB.ret (Ok.and (Ok.view (Ok.isinst (T := "bool") (Ok.view (Ok.var (i := 0) rfl (.inr (.inl rfl)) rfl)) rfl z_isinstance rfl z_bool (by decide +kernel))) (Ok.and (Ok.view (Ok.isinst (T := "bool") (Ok.view (Ok.var (i := 1) rfl (.inr (.inl rfl)) rfl)) rfl z_isinstance rfl z_bool (by decide +kernel))) (Ok.one (Ok.frz (Ok.cmp o_eq (Ok.view (Ok.var (i := 0) rfl (.inr (.inl rfl)) rfl)) (Ok.view (Ok.var (i := 1) rfl (.inr (.inl rfl)) rfl)))))))) (OkB.nil (s := ()) (wk_mask (bs := [true, true, false]))) fun s_97 => (OkB.ite (C := CC__law_same P w K mg base k) (Γj := fun (s_98 : Unit) => [some (.frz a_93), some (.frz b_94), none]) (OkW.pt (OkW.or (OkW.pt (OkW.and (OkT.val (Ok.view (Ok.isinst (T := "int") (Ok.view (Ok.var (i := 0) rfl (.inr (.inl rfl)) rfl)) rfl z_isinstance rfl z_int (by decide +kernel)))) (OkW.and1 (OkT.val (Ok.view (Ok.isinst (T := "int") (Ok.view (Ok.var (i := 1) rfl (.inr (.inl rfl)) rfl)) rfl z_isinstance rfl z_int (by decide +kernel))))))) (OkW.or1 (OkW.pt (OkW.and (OkT.val (Ok.view (Ok.isinst (T := "str") (Ok.view (Ok.var (i := 0) rfl (.inr (.inl rfl)) rfl)) rfl z_isinstance rfl z_str (by decide +kernel)))) (OkW.and1 (OkT.val (Ok.view (Ok.isinst (T := "str") (Ok.view (Ok.var (i := 1) rfl (.inr (.inl rfl)) rfl)) rfl z_isinstance rfl z_str (by decide +kernel)))))))))) (OkB.ret (Ok.frz (Ok.cmp o_eq (Ok.view (Ok.var (i := 0) rfl (.inr (.inl rfl)) rfl)) (Ok.view (Ok.var (i := 1) rfl (.inr (.inl rfl)) rfl))))) (OkB.nil (s := ()) (wk_mask (bs := [true, true, false]))) fun s_98 => (OkB.ret (Ok.and (Ok.view (Ok.cmp o_is (Ok.view (Ok.var (i := 0) rfl (.inr (.inl rfl)) rfl)) (Ok.view Ok.non))) (Ok.one (Ok.frz (Ok.cmp o_is (Ok.view (Ok.var (i := 1) rfl (.inr (.inl rfl)) rfl)) (Ok.view Ok.non)))))))))
theorem h__law_same {f : Addr} {fd : FuncData} (F : Fun K "_law_same" "_law_same" s__law_same f fd) (g : mg "_law_same" = some (.ref f)) (z_all : mg "all" = none) (z_bool : mg "bool" = none) (z_int : mg "int" = none) (z_isinstance : mg "isinstance" = none) (z_len : mg "len" = none) (z_list : mg "list" = none) (z_range : mg "range" = none) (z_str : mg "str" = none) (z_tuple : mg "tuple" = none) : ∀ n, HasF (S := Bx) ⟨P, w, K, mg, base⟩ (1 + n) "_law_same" 2 (m__law_same n)
  | 0 => hasF_stuck g F (F.binds (ps := ["a", "b"]) fun _ _ _ _ _ _ us hl => match us, hl with | [_, _], _ => rfl) rfl
  | n + 1 => st__law_same (Nat.le_trans (by decide) (Nat.le_add_right _ n)) _ (h__law_same F g z_all z_bool z_int z_isinstance z_len z_list z_range z_str z_tuple n) F g z_all z_bool z_int z_isinstance z_len z_list z_range z_str z_tuple
abbrev s__law_machine : Stmt := topS 29
theorem sc__law_machine : FnScope ["box", "reels", "most", "kinds", "found", "j", "reel", "k"] ["box", "reels", "most", "kinds"] (defScope s__law_machine) := ⟨rfl, rfl, rfl, by decide +kernel, rfl, by decide +kernel, by decide +kernel⟩
abbrev CC__law_machine (P : Program) (w : World) (K : PySem.W.Frag) (mg : Str → Option Value) (base : Heap) (k : Nat) : Stat := ⟨⟨P, w, K, mg, base⟩, ["box", "reels", "most", "kinds", "found", "j", "reel", "k"], defScope s__law_machine, k, fun _ => true⟩
def b__law_machine (box_99 : D) (reels_100 : D) (most_101 : D) (kinds_102 : D) : M Bx (Fl Unit Unit) :=
  (ownM (lstM (ret [])) fun found_103 => (forM' (rng1M (op2M addD (ret (.int 1)) (bnd (consM (ret box_99) (consM (ret reels_100) (ret []))) m_draw))) (fun (s_104 : D) j_105 => (bnd (bcM tupleD (consM (compM (rng1M (op2M addD (ret (.int 1)) (bnd (consM (ret box_99) (consM (ret most_101) (ret []))) m_draw))) fun k_110 => (eltM (ret true) (op2M addD (op2M addD (op2M mulD (ret (.int 10)) (ret j_105)) (ret (.int 1))) (bnd (consM (ret box_99) (consM (ret kinds_102) (ret []))) m_draw)))) (ret []))) fun reel_106 => (iteF (andT (cmpT eqD (bnd (consM (ret box_99) (consM (ret (.int 3)) (ret []))) m_draw) (ret (.int 0))) (cmpT leD (op2M mulD (ret (.int 2)) (bcM lenD (consM (ret reel_106) (ret [])))) (ret (.int 12)))) (bnd (op2M addD (ret reel_106) (ret reel_106)) fun reel_107 => (ret (.nx reel_107))) (ret (.nx reel_106)) fun (s_108 : D) => (appM s_104 (ret s_108) fun found_109 => (ret (.nx found_109)))))) found_103 fun s_111 => (retF (bcM tupleD (consM (ret s_111) (ret []))))))
def mb__law_machine : List D → M Bx (Fl Unit Unit)
  | [box_99, reels_100, most_101, kinds_102] => b__law_machine box_99 reels_100 most_101 kinds_102
  | _ => stuck
def m__law_machine (ds : List D) : M Bx D := bnd (mb__law_machine ds) endF
set_option maxHeartbeats 0 in
theorem h__law_machine {f : Addr} {fd : FuncData} (F : Fun K "_law_machine" "_law_machine" s__law_machine f fd) (g : mg "_law_machine" = some (.ref f)) (z_len : mg "len" = none) (z_range : mg "range" = none) (z_tuple : mg "tuple" = none) (h__law_draw : HasF (S := Bx) ⟨P, w, K, mg, base⟩ 2 "_law_draw" 2 m_draw) : HasF (S := Bx) ⟨P, w, K, mg, base⟩ 3 "_law_machine" 4 m__law_machine :=
  hasF_mk g F sc__law_machine (F.binds fun _ _ _ _ _ _ us hl => match us, hl with | [_, _, _, _], _ => rfl) rfl fun ds hl => match ds, hl with
    | [box_99, reels_100, most_101, kinds_102], _ =>
      (OkB.setO (C := CC__law_machine P w K mg base 2) (i := 4) rfl (.inl rfl) (.inl rfl) (Ok.lst Ok.nil) (fun found_103 => (OkB.forR (C := CC__law_machine P w K mg base 2) (Γl := fun (s_104 : D) => [some (.frz box_99), some (.frz reels_100), some (.frz most_101), some (.frz kinds_102), some (.own s_104), none, none, none]) (s0 := found_103) (OkI.range1 (Ok.view (Ok.op o_add (Ok.view Ok.int) (Ok.view (Ok.call h__law_draw (Nat.le_of_ble_eq_true rfl) rfl (Ok.cons (Ok.var (i := 0) rfl (.inr (.inl rfl)) rfl) (Ok.cons (Ok.var (i := 1) rfl (.inl rfl) rfl) Ok.nil)))))) rfl z_range) (wk_mask (bs := [true, true, true, true, true, false, false, false])) (fun s_104 j_105 => (BindOk.name (i := 5) rfl (.inr rfl) (.inl rfl) (BindOk.nil (OkB.set (C := CC__law_machine P w K mg base 2) (i := 6) rfl (.inl rfl) (.inl rfl) (Ok.frz (Ok.tfun o_tuple (by decide +kernel) rfl z_tuple (Ok.cons (Ok.view (OkC.n (Ok.lc [("k", 7)] (OkI.range1 (Ok.view (Ok.op o_add (Ok.view Ok.int) (Ok.view (Ok.call h__law_draw (Nat.le_of_ble_eq_true rfl) rfl (Ok.cons (Ok.var (i := 0) rfl (.inr (.inl rfl)) rfl) (Ok.cons (Ok.var (i := 2) rfl (.inl rfl) rfl) Ok.nil)))))) rfl z_range) fun k_110 => (BindOk.name (i := 7) rfl (.inl rfl) (.inr rfl) (BindOk.nil ⟨_, _, OkTs.nil, (Ok.frz (Ok.op o_add (Ok.view (Ok.op o_add (Ok.view (Ok.op o_mul (Ok.view Ok.int) (Ok.view (Ok.var (i := 5) rfl (.inr (.inl rfl)) rfl)))) (Ok.view Ok.int))) (Ok.view (Ok.call h__law_draw (Nat.le_of_ble_eq_true rfl) rfl (Ok.cons (Ok.var (i := 0) rfl (.inr (.inl rfl)) rfl) (Ok.cons (Ok.var (i := 3) rfl (.inr (.inl rfl)) rfl) Ok.nil)))))), rfl⟩))))) Ok.nil))) (fun reel_106 => (OkB.ite (C := CC__law_machine P w K mg base 2) (Γj := fun (s_108 : D) => [some (.frz box_99), some (.frz reels_100), some (.frz most_101), some (.frz kinds_102), some (.own s_104), none, some (.frz s_108), none]) (OkW.pt (OkW.and (OkT.cmp o_eq (Ok.view (Ok.call h__law_draw (Nat.le_of_ble_eq_true rfl) rfl (Ok.cons (Ok.var (i := 0) rfl (.inr (.inl rfl)) rfl) (Ok.cons Ok.int Ok.nil)))) (Ok.view Ok.int)) (OkW.and1 (OkT.cmp o_le (Ok.view (Ok.op o_mul (Ok.view Ok.int) (Ok.view (Ok.bfun o_len (by decide +kernel) rfl z_len (Ok.cons (Ok.view (Ok.var (i := 6) rfl (.inl rfl) rfl)) Ok.nil))))) (Ok.view Ok.int))))) (OkB.set (C := CC__law_machine P w K mg base 2) (i := 6) rfl (.inl rfl) (.inl rfl) (Ok.frz (Ok.op o_add (Ok.view (Ok.var (i := 6) rfl (.inl rfl) rfl)) (Ok.view (Ok.var (i := 6) rfl (.inl rfl) rfl)))) (fun reel_107 => (OkB.nil (s := reel_107) (wk_mask (bs := [true, true, true, true, true, false, true, false]))))) (OkB.nil (s := reel_106) (wk_mask (bs := [true, true, true, true, true, false, true, false]))) fun s_108 => (OkB.app (C := CC__law_machine P w K mg base 2) (i := 4) rfl (.inl rfl) rfl (Ok.var (i := 6) rfl (.inl rfl) rfl) fun found_109 => (OkB.nil (s := found_109) (wk_mask (bs := [true, true, true, true, true, false, false, false])))))))))) fun s_111 => (OkB.ret (Ok.frz (Ok.tfun o_tuple (by decide +kernel) rfl z_tuple (Ok.cons (Ok.own (i := 4) rfl (.inl rfl) rfl) Ok.nil)))))))
abbrev s__law_packet : Stmt := topS 30
theorem sc__law_packet : FnScope ["machine", "t", "reel"] ["machine", "t"] (defScope s__law_packet) := ⟨rfl, rfl, rfl, by decide +kernel, rfl, by decide +kernel, by decide +kernel⟩
abbrev CC__law_packet (P : Program) (w : World) (K : PySem.W.Frag) (mg : Str → Option Value) (base : Heap) (k : Nat) : Stat := ⟨⟨P, w, K, mg, base⟩, ["machine", "t", "reel"], defScope s__law_packet, k, fun _ => true⟩
def b__law_packet (machine_112 : D) (t_113 : D) : M Bx (Fl Unit Unit) :=
  (retF (bcM tupleD (consM (compM (itM (ret machine_112)) fun reel_114 => (eltM (ret true) (ixM (ret reel_114) (op2M subD (ret t_113) (op2M mulD (op2M divD (ret t_113) (bcM lenD (consM (ret reel_114) (ret [])))) (bcM lenD (consM (ret reel_114) (ret [])))))))) (ret []))))
def mb__law_packet : List D → M Bx (Fl Unit Unit)
  | [machine_112, t_113] => b__law_packet machine_112 t_113
  | _ => stuck
def m__law_packet (ds : List D) : M Bx D := bnd (mb__law_packet ds) endF
set_option maxHeartbeats 0 in
theorem h__law_packet {f : Addr} {fd : FuncData} (F : Fun K "_law_packet" "_law_packet" s__law_packet f fd) (g : mg "_law_packet" = some (.ref f)) (z_len : mg "len" = none) (z_tuple : mg "tuple" = none) : HasF (S := Bx) ⟨P, w, K, mg, base⟩ 1 "_law_packet" 2 m__law_packet :=
  hasF_mk g F sc__law_packet (F.binds fun _ _ _ _ _ _ us hl => match us, hl with | [_, _], _ => rfl) rfl fun ds hl => match ds, hl with
    | [machine_112, t_113], _ =>
      (OkB.ret (Ok.frz (Ok.tfun o_tuple (by decide +kernel) rfl z_tuple (Ok.cons (Ok.view (OkC.n (Ok.lc [("reel", 2)] (OkI.val (Ok.var (i := 0) rfl (.inl rfl) rfl) (fun h => by first | rfl | cases h)) fun reel_114 => (BindOk.name (i := 2) rfl (.inl rfl) (.inr rfl) (BindOk.nil ⟨_, _, OkTs.nil, (Ok.ix (Ok.view (Ok.var (i := 2) rfl (.inl rfl) rfl)) (Ok.view (Ok.op o_sub (Ok.view (Ok.var (i := 1) rfl (.inr (.inl rfl)) rfl)) (Ok.view (Ok.op o_mul (Ok.view (Ok.op o_div (Ok.view (Ok.var (i := 1) rfl (.inr (.inl rfl)) rfl)) (Ok.view (Ok.bfun o_len (by decide +kernel) rfl z_len (Ok.cons (Ok.view (Ok.var (i := 2) rfl (.inl rfl) rfl)) Ok.nil))))) (Ok.view (Ok.bfun o_len (by decide +kernel) rfl z_len (Ok.cons (Ok.view (Ok.var (i := 2) rfl (.inl rfl) rfl)) Ok.nil)))))))), rfl⟩))))) Ok.nil))))
abbrev s__law_period : Stmt := topS 31
theorem sc__law_period : FnScope ["machine", "top", "reel", "rows", "k", "t", "p"] ["machine"] (defScope s__law_period) := ⟨rfl, rfl, rfl, by decide +kernel, rfl, by decide +kernel, by decide +kernel⟩
abbrev CC__law_period (P : Program) (w : World) (K : PySem.W.Frag) (mg : Str → Option Value) (base : Heap) (k : Nat) : Stat := ⟨⟨P, w, K, mg, base⟩, ["machine", "top", "reel", "rows", "k", "t", "p"], defScope s__law_period, k, fun _ => true⟩
def b__law_period (machine_115 : D) : M Bx (Fl Unit Unit) :=
  (bnd (ret (.int 1)) fun top_116 => (forM' (itM (ret machine_115)) (fun (s_117 : D) reel_118 => (bnd (ixM (compM (rng2M (ret (.int 1)) (op2M addD (bcM lenD (consM (ret reel_118) (ret []))) (ret (.int 1)))) fun k_120 => (eltM (cmpT eqD (op2M mulD (op2M divD (op2M mulD (ret s_117) (ret k_120)) (bcM lenD (consM (ret reel_118) (ret [])))) (bcM lenD (consM (ret reel_118) (ret [])))) (op2M mulD (ret s_117) (ret k_120))) (op2M mulD (ret s_117) (ret k_120)))) (ret (.int 0))) fun top_119 => (ret (.nx top_119)))) top_116 fun s_121 => (bnd (compM (rng1M (op2M mulD (ret (.int 2)) (ret s_121))) fun t_124 => (eltM (ret true) (bnd (consM (ret machine_115) (consM (ret t_124) (ret []))) m__law_packet))) fun rows_122 => (retF (ixM (compM (rng2M (ret (.int 1)) (op2M addD (ret s_121) (ret (.int 1)))) fun p_123 => (eltM (cmpT eqD (slM (ret rows_122) (ptM (ret p_123)) (ptM (op2M addD (ret p_123) (ret s_121)))) (slM (ret rows_122) (ret none) (ptM (ret s_121)))) (ret p_123))) (ret (.int 0)))))))
def mb__law_period : List D → M Bx (Fl Unit Unit)
  | [machine_115] => b__law_period machine_115
  | _ => stuck
def m__law_period (ds : List D) : M Bx D := bnd (mb__law_period ds) endF
set_option maxHeartbeats 0 in
theorem h__law_period {f : Addr} {fd : FuncData} (F : Fun K "_law_period" "_law_period" s__law_period f fd) (g : mg "_law_period" = some (.ref f)) (z_len : mg "len" = none) (z_range : mg "range" = none) (h__law_packet : HasF (S := Bx) ⟨P, w, K, mg, base⟩ 1 "_law_packet" 2 m__law_packet) : HasF (S := Bx) ⟨P, w, K, mg, base⟩ 2 "_law_period" 1 m__law_period :=
  hasF_mk g F sc__law_period (F.binds fun _ _ _ _ _ _ us hl => match us, hl with | [_], _ => rfl) rfl fun ds hl => match ds, hl with
    | [machine_115], _ =>
      (OkB.set (C := CC__law_period P w K mg base 1) (i := 1) rfl (.inr rfl) (.inl rfl) Ok.int (fun top_116 => (OkB.forR (C := CC__law_period P w K mg base 1) (Γl := fun (s_117 : D) => [some (.frz machine_115), some (.frz s_117), none, none, none, none, none]) (s0 := top_116) (OkI.val (Ok.var (i := 0) rfl (.inr (.inl rfl)) rfl) (fun h => by first | rfl | cases h)) (wk_mask (bs := [true, true, false, false, false, false, false])) (fun s_117 reel_118 => (BindOk.name (i := 2) rfl (.inr rfl) (.inl rfl) (BindOk.nil (OkB.set (C := CC__law_period P w K mg base 1) (i := 1) rfl (.inr rfl) (.inl rfl) (Ok.ix (Ok.view (OkC.n (Ok.lc [("k", 4)] (OkI.range2 (Ok.view Ok.int) (Ok.view (Ok.op o_add (Ok.view (Ok.bfun o_len (by decide +kernel) rfl z_len (Ok.cons (Ok.view (Ok.var (i := 2) rfl (.inr (.inl rfl)) rfl)) Ok.nil))) (Ok.view Ok.int))) rfl z_range) fun k_120 => (BindOk.name (i := 4) rfl (.inl rfl) (.inr rfl) (BindOk.nil ⟨_, _, (OkTs.one (OkT.cmp o_eq (Ok.view (Ok.op o_mul (Ok.view (Ok.op o_div (Ok.view (Ok.op o_mul (Ok.view (Ok.var (i := 1) rfl (.inr (.inl rfl)) rfl)) (Ok.view (Ok.var (i := 4) rfl (.inl rfl) rfl)))) (Ok.view (Ok.bfun o_len (by decide +kernel) rfl z_len (Ok.cons (Ok.view (Ok.var (i := 2) rfl (.inr (.inl rfl)) rfl)) Ok.nil))))) (Ok.view (Ok.bfun o_len (by decide +kernel) rfl z_len (Ok.cons (Ok.view (Ok.var (i := 2) rfl (.inr (.inl rfl)) rfl)) Ok.nil))))) (Ok.view (Ok.op o_mul (Ok.view (Ok.var (i := 1) rfl (.inr (.inl rfl)) rfl)) (Ok.view (Ok.var (i := 4) rfl (.inl rfl) rfl)))))), (Ok.frz (Ok.op o_mul (Ok.view (Ok.var (i := 1) rfl (.inr (.inl rfl)) rfl)) (Ok.view (Ok.var (i := 4) rfl (.inl rfl) rfl)))), rfl⟩))))) (Ok.view Ok.int)) (fun top_119 => (OkB.nil (s := top_119) (wk_mask (bs := [true, true, false, false, false, false, false])))))))) fun s_121 => (OkB.set (C := CC__law_period P w K mg base 1) (i := 3) rfl (.inr rfl) (.inl rfl) (Ok.frz (OkC.n (Ok.lc [("t", 5)] (OkI.range1 (Ok.view (Ok.op o_mul (Ok.view Ok.int) (Ok.view (Ok.var (i := 1) rfl (.inr (.inl rfl)) rfl)))) rfl z_range) fun t_124 => (BindOk.name (i := 5) rfl (.inl rfl) (.inr rfl) (BindOk.nil ⟨_, _, OkTs.nil, (Ok.call h__law_packet (Nat.le_of_ble_eq_true rfl) rfl (Ok.cons (Ok.var (i := 0) rfl (.inr (.inl rfl)) rfl) (Ok.cons (Ok.var (i := 5) rfl (.inl rfl) rfl) Ok.nil))), rfl⟩))))) (fun rows_122 => (OkB.ret (Ok.ix (Ok.view (OkC.n (Ok.lc [("p", 6)] (OkI.range2 (Ok.view Ok.int) (Ok.view (Ok.op o_add (Ok.view (Ok.var (i := 1) rfl (.inr (.inl rfl)) rfl)) (Ok.view Ok.int))) rfl z_range) fun p_123 => (BindOk.name (i := 6) rfl (.inl rfl) (.inr rfl) (BindOk.nil ⟨_, _, (OkTs.one (OkT.cmp o_eq (Ok.view (Ok.sl (Ok.view (Ok.var (i := 3) rfl (.inr (.inl rfl)) rfl)) (OkO.some (Ok.view (Ok.var (i := 6) rfl (.inl rfl) rfl))) (OkO.some (Ok.view (Ok.op o_add (Ok.view (Ok.var (i := 6) rfl (.inl rfl) rfl)) (Ok.view (Ok.var (i := 1) rfl (.inr (.inl rfl)) rfl))))))) (Ok.view (Ok.sl (Ok.view (Ok.var (i := 3) rfl (.inr (.inl rfl)) rfl)) OkO.none (OkO.some (Ok.view (Ok.var (i := 1) rfl (.inr (.inl rfl)) rfl))))))), (Ok.var (i := 6) rfl (.inl rfl) rfl), rfl⟩))))) (Ok.view Ok.int)))) (hs := fun env h => sw_cell h rfl)))))
abbrev s__law_stickers : Stmt := topS 32
theorem sc__law_stickers : FnScope ["machine", "t", "k", "found", "here"] ["machine", "t", "k"] (defScope s__law_stickers) := ⟨rfl, rfl, rfl, by decide +kernel, rfl, by decide +kernel, by decide +kernel⟩
abbrev CC__law_stickers (P : Program) (w : World) (K : PySem.W.Frag) (mg : Str → Option Value) (base : Heap) (k : Nat) : Stat := ⟨⟨P, w, K, mg, base⟩, ["machine", "t", "k", "found", "here"], defScope s__law_stickers, k, fun _ => true⟩
def b__law_stickers (machine_125 : D) (t_126 : D) (k_127 : D) : M Bx (Fl Unit Unit) :=
  (ownM (lstM (ret [])) fun found_128 => (forM' (rng2M (ret t_126) (op2M addD (ret t_126) (ret k_127))) (fun (s_129 : D) here_130 => (extM s_129 (bnd (consM (ret machine_125) (consM (ret here_130) (ret []))) m__law_packet) fun found_131 => (ret (.nx found_131)))) found_128 fun s_132 => (retF (ret s_132))))
def mb__law_stickers : List D → M Bx (Fl Unit Unit)
  | [machine_125, t_126, k_127] => b__law_stickers machine_125 t_126 k_127
  | _ => stuck
def m__law_stickers (ds : List D) : M Bx D := bnd (mb__law_stickers ds) endF
set_option maxHeartbeats 0 in
theorem h__law_stickers {f : Addr} {fd : FuncData} (F : Fun K "_law_stickers" "_law_stickers" s__law_stickers f fd) (g : mg "_law_stickers" = some (.ref f)) (z_range : mg "range" = none) (h__law_packet : HasF (S := Bx) ⟨P, w, K, mg, base⟩ 1 "_law_packet" 2 m__law_packet) : HasF (S := Bx) ⟨P, w, K, mg, base⟩ 2 "_law_stickers" 3 m__law_stickers :=
  hasF_mk g F sc__law_stickers (F.binds fun _ _ _ _ _ _ us hl => match us, hl with | [_, _, _], _ => rfl) rfl fun ds hl => match ds, hl with
    | [machine_125, t_126, k_127], _ =>
      (OkB.setO (C := CC__law_stickers P w K mg base 1) (i := 3) rfl (.inl rfl) (.inl rfl) (Ok.lst Ok.nil) (fun found_128 => (OkB.forR (C := CC__law_stickers P w K mg base 1) (Γl := fun (s_129 : D) => [some (.frz machine_125), some (.frz t_126), some (.frz k_127), some (.own s_129), none]) (s0 := found_128) (OkI.range2 (Ok.view (Ok.var (i := 1) rfl (.inl rfl) rfl)) (Ok.view (Ok.op o_add (Ok.view (Ok.var (i := 1) rfl (.inl rfl) rfl)) (Ok.view (Ok.var (i := 2) rfl (.inl rfl) rfl)))) rfl z_range) (wk_mask (bs := [true, true, true, true, false])) (fun s_129 here_130 => (BindOk.name (i := 4) rfl (.inl rfl) (.inl rfl) (BindOk.nil (OkB.ext (C := CC__law_stickers P w K mg base 1) (i := 3) rfl (.inl rfl) rfl (Ok.view (Ok.call h__law_packet (Nat.le_of_ble_eq_true rfl) rfl (Ok.cons (Ok.var (i := 0) rfl (.inl rfl) rfl) (Ok.cons (Ok.var (i := 4) rfl (.inl rfl) rfl) Ok.nil)))) fun found_131 => (OkB.nil (s := found_131) (wk_mask (bs := [true, true, true, true, false]))))))) fun s_132 => (OkB.freeze 3 rfl (OkB.ret (Ok.var (i := 3) rfl (.inl rfl) rfl))))))
abbrev s_law : Stmt := topS 33
theorem sc_law : FnScope ["script", "box", "turn", "machine", "period", "t", "k", "there", "due", "every", "told", "full", "size", "first", "sure", "rows", "one", "other", "mine", "before", "sticker", "here"] ["script"] (defScope s_law) := ⟨rfl, rfl, rfl, by decide +kernel, rfl, by decide +kernel, by decide +kernel⟩
abbrev CC_law (P : Program) (w : World) (K : PySem.W.Frag) (mg : Str → Option Value) (base : Heap) (k : Nat) : Stat := ⟨⟨P, w, K, mg, base⟩, ["script", "box", "turn", "machine", "period", "t", "k", "there", "due", "every", "told", "full", "size", "first", "sure", "rows", "one", "other", "mine", "before", "sticker", "here"], defScope s_law, k, fun _ => true⟩
def b_law : M Bx (Fl Unit Unit) :=
  (forM' (rng1M (ret (.int 4))) (fun (s_134 : Unit) turn_135 => (bnd (bnd (consM (ret .box) (consM (ret (.int 3)) (consM (ret (.int 4)) (consM (ret (.int 4)) (ret []))))) m__law_machine) fun machine_136 => (bnd (bnd (consM (ret machine_136) (ret [])) m__law_period) fun period_137 => (parM .E .E (bnd (consM (ret .box) (consM (ret (.int 40)) (ret []))) m_draw) (op2M addD (ret (.int 1)) (bnd (consM (ret .box) (consM (ret (.int 9)) (ret []))) m_draw)) fun t_138 k_139 => (bnd (bnd (consM (ret machine_136) (consM (ret t_138) (consM (ret k_139) (ret [])))) m__law_stickers) fun there_140 => (bnd (bcM tupleD (consM (compM (itM (bcM sortedD (consM (bcM dictD (consM (compM (itM (ret there_140)) fun sticker_182 => (eltM (ret true) (tupM (consM (ret sticker_182) (consM (ret (.int 1)) (ret [])))))) (ret []))) (ret [])))) fun sticker_183 => (eltM (ret true) (tupM (consM (ret sticker_183) (consM (mlM countD (ret there_140) (consM (ret sticker_183) (ret []))) (ret [])))))) (ret []))) fun due_141 => (iteF (orT (cmpT isntD (bnd (consM (ret machine_136) (ret [])) m_is_machine) (ret (.bl true))) (orT (notT (valT (bnd (consM (bnd (consM (ret machine_136) (consM (ret t_138) (consM (ret k_139) (ret [])))) m_box_counts) (consM (ret due_141) (ret []))) (m__law_same 60)))) (cmpT neD (bnd (consM (ret machine_136) (consM (ret t_138) (consM (ret period_137) (ret [])))) m_box_counts) (bnd (consM (ret machine_136) (consM (ret (.int 0)) (consM (ret period_137) (ret [])))) m_box_counts)))) (retF (ret (.bl false))) (ret (.nx ())) fun (s_142 : Unit) => (bnd (bcM sortedD (consM (bcM dictD (consM (compM (itM (bnd (consM (ret machine_136) (consM (ret (.int 0)) (consM (ret period_137) (ret [])))) m__law_stickers)) fun sticker_181 => (eltM (ret true) (tupM (consM (ret sticker_181) (consM (ret (.int 1)) (ret [])))))) (ret []))) (ret []))) fun every_143 => (bnd (bcM tupleD (consM (compM (itM (ret every_143)) fun sticker_180 => (eltM (cmpT eqD (bnd (consM (ret .box) (consM (ret (.int 3)) (ret []))) m_draw) (ret (.int 0))) (ret sticker_180))) (ret []))) fun told_144 => (bnd (ifM (cmpT gtD (bcM lenD (consM (ret told_144) (ret []))) (ret (.int 0))) (ret told_144) (tupM (consM (ixM (ret every_143) (bnd (consM (ret .box) (consM (bcM lenD (consM (ret every_143) (ret []))) (ret []))) m_draw)) (ret [])))) fun told_145 => (ownM (lstM (ret [])) fun full_146 => (forM' (rng2M (ret (.int 1)) (op2M addD (ret period_137) (ret (.int 1)))) (fun (s_147 : D) size_148 => (appM s_147 (compM (rng1M (ret period_137)) fun here_150 => (eltM (valT (bcM allD (consM (compM (itM (ret told_145)) fun sticker_151 => (eltM (ret true) (op2M inD (ret sticker_151) (bnd (consM (ret machine_136) (consM (ret here_150) (consM (ret size_148) (ret [])))) m__law_stickers)))) (ret [])))) (ret here_150))) fun full_149 => (ret (.nx full_149)))) full_146 fun s_152 => (bnd (ixM (compM (rng1M (ret period_137)) fun size_179 => (eltM (cmpT gtD (bcM lenD (consM (ixM (ret s_152) (ret size_179)) (ret []))) (ret (.int 0))) (ret size_179))) (ret (.int 0))) fun first_153 => (bnd (ixM (compM (rng1M (ret period_137)) fun size_178 => (eltM (cmpT eqD (bcM lenD (consM (ixM (ret s_152) (ret size_178)) (ret []))) (ret period_137)) (ret size_178))) (ret (.int 0))) fun sure_154 => (iteF (notT (valT (bnd (consM (tupM (consM (bnd (consM (ret machine_136) (consM (ret told_145) (ret []))) m_least_box) (consM (bnd (consM (ret machine_136) (consM (ret told_145) (ret []))) m_sure_box) (ret [])))) (consM (tupM (consM (tupM (consM (ixM (ixM (ret s_152) (ret first_153)) (ret (.int 0))) (consM (op2M addD (ret first_153) (ret (.int 1))) (ret [])))) (consM (op2M addD (ret sure_154) (ret (.int 1))) (ret [])))) (ret []))) (m__law_same 60)))) (retF (ret (.bl false))) (ret (.nx ())) fun (s_155 : Unit) => (forM' (rng2M (ret (.int 1)) (op2M addD (bcM minD (consM (ret period_137) (consM (op2M addD (ret sure_154) (ret (.int 3))) (ret [])))) (ret (.int 1)))) (fun (s_156 : Unit) size_157 => (bnd (compM (rng1M (ret period_137)) fun here_160 => (eltM (cmpT ninD (ret here_160) (ixM (ret s_152) (op2M subD (ret size_157) (ret (.int 1))))) (ret here_160))) fun rows_158 => (iteF (orT (notT (valT (bnd (consM (bnd (consM (ret machine_136) (consM (ret told_145) (consM (ret size_157) (ret [])))) m_lacking_box) (consM (ifM (cmpT gtD (bcM lenD (consM (ret rows_158) (ret []))) (ret (.int 0))) (ixM (ret rows_158) (ret (.int 0))) (ret .non)) (ret []))) (m__law_same 60)))) (cmpT neD (op2M eqD (bcM lenD (consM (ret rows_158) (ret []))) (ret (.int 0))) (op2M gtD (ret size_157) (ret sure_154)))) (retF (ret (.bl false))) (ret (.nx ())) fun (s_159 : Unit) => (ret (.nx ()))))) () fun s_161 => (parM .E .E (tupM (consM (bnd (consM (ret .box) (consM (ret (.int 20)) (ret []))) m_draw) (consM (op2M addD (ret (.int 1)) (bnd (consM (ret .box) (consM (ret (.int 3)) (ret []))) m_draw)) (ret [])))) (tupM (consM (bnd (consM (ret .box) (consM (ret (.int 20)) (ret []))) m_draw) (consM (op2M addD (ret (.int 1)) (bnd (consM (ret .box) (consM (ret (.int 3)) (ret []))) m_draw)) (ret [])))) fun one_162 other_163 => (bnd (bnd (consM (ret machine_136) (consM (ixM (ret one_162) (ret (.int 0))) (consM (ixM (ret one_162) (ret (.int 1))) (ret [])))) m__law_stickers) fun mine_164 => (bnd (notM (bcM anyD (consM (compM (itM (bnd (consM (ret machine_136) (consM (ixM (ret other_163) (ret (.int 0))) (consM (ixM (ret other_163) (ret (.int 1))) (ret [])))) m__law_stickers)) fun sticker_177 => (eltM (ret true) (op2M inD (ret sticker_177) (ret mine_164)))) (ret [])))) fun due_165 => (iteF (notT (valT (bnd (consM (tupM (consM (bnd (consM (ret machine_136) (consM (ret one_162) (consM (ret other_163) (ret [])))) m_are_apart) (consM (bnd (consM (ret machine_136) (consM (ret other_163) (consM (ret one_162) (ret [])))) m_are_apart) (ret [])))) (consM (tupM (consM (ret due_165) (consM (ret due_165) (ret [])))) (ret []))) (m__law_same 60)))) (retF (ret (.bl false))) (ret (.nx ())) fun (s_166 : Unit) => (bnd (ret (.int 0)) fun before_167 => (forM' (rng2M (ret (.int 1)) (ret (.int 4))) (fun (s_168 : D) size_169 => (bnd (bnd (consM (ret machine_136) (consM (ret (.int 0)) (consM (ret size_169) (ret [])))) m__law_stickers) fun mine_170 => (bnd (compM (rng1M (ret period_137)) fun here_174 => (eltM (notT (valT (bcM anyD (consM (compM (itM (bnd (consM (ret machine_136) (consM (ret here_174) (consM (ret size_169) (ret [])))) m__law_stickers)) fun sticker_175 => (eltM (ret true) (op2M inD (ret sticker_175) (ret mine_170)))) (ret []))))) (ret here_174))) fun rows_171 => (iteF (orT (notT (valT (bnd (consM (bnd (consM (ret machine_136) (consM (ret size_169) (ret []))) m_first_apart) (consM (ifM (cmpT gtD (bcM lenD (consM (ret rows_171) (ret []))) (ret (.int 0))) (ixM (ret rows_171) (ret (.int 0))) (ret .non)) (ret []))) (m__law_same 60)))) (andT (cmpT isD (ret s_168) (ret .non)) (cmpT gtD (bcM lenD (consM (ret rows_171) (ret []))) (ret (.int 0))))) (retF (ret (.bl false))) (ret (.nx ())) fun (s_172 : Unit) => (bnd (ifM (cmpT gtD (bcM lenD (consM (ret rows_171) (ret []))) (ret (.int 0))) (ixM (ret rows_171) (ret (.int 0))) (ret .non)) fun before_173 => (ret (.nx before_173))))))) before_167 fun s_176 => (ret (.nx ())))))))))))))))))))))))) () fun s_184 => (bnd (tupM (consM (tupM (consM (ret (.int 1)) (consM (ret (.int 2)) (consM (ret (.int 3)) (ret []))))) (consM (tupM (consM (ret (.int 4)) (consM (ret (.int 5)) (ret [])))) (ret [])))) fun machine_185 => (retF (bnd (consM (tupM (consM (bnd (consM (ret machine_185) (consM (tupM (consM (ret (.int 1)) (consM (ret (.int 5)) (ret [])))) (ret []))) m_least_box) (consM (bnd (consM (ret machine_185) (consM (tupM (consM (ret (.int 1)) (consM (ret (.int 5)) (ret [])))) (ret []))) m_sure_box) (consM (bnd (consM (ret machine_185) (consM (tupM (consM (ret (.int 1)) (consM (ret (.int 5)) (ret [])))) (consM (ret (.int 2)) (ret [])))) m_lacking_box) (consM (bnd (consM (ret machine_185) (consM (ret (.int 2)) (ret []))) m_first_apart) (ret [])))))) (consM (tupM (consM (tupM (consM (ret (.int 3)) (consM (ret (.int 1)) (ret [])))) (consM (ret (.int 3)) (consM (ret (.int 1)) (consM (ret .non) (ret [])))))) (ret []))) (m__law_same 60)))))
set_option maxHeartbeats 0 in
theorem h_law {f fB : Addr} {fd fdB : FuncData} (F : Fun K "law" "law" s_law f fd) (z_all : mg "all" = none) (z_any : mg "any" = none) (z_dict : mg "dict" = none) (z_len : mg "len" = none) (z_min : mg "min" = none) (z_range : mg "range" = none) (z_sorted : mg "sorted" = none) (z_tuple : mg "tuple" = none) (h__law_draw : HasF (S := Bx) ⟨P, w, K, mg, base⟩ 2 "_law_draw" 2 m_draw) (h_box_counts : HasF (S := Bx) ⟨P, w, K, mg, base⟩ 3 "box_counts" 3 m_box_counts) (h__law_same : HasF (S := Bx) ⟨P, w, K, mg, base⟩ 61 "_law_same" 2 (m__law_same 60)) (h_is_machine : HasF (S := Bx) ⟨P, w, K, mg, base⟩ 3 "is_machine" 1 m_is_machine) (h__law_stickers : HasF (S := Bx) ⟨P, w, K, mg, base⟩ 2 "_law_stickers" 3 m__law_stickers) (h_sure_box : HasF (S := Bx) ⟨P, w, K, mg, base⟩ 6 "sure_box" 2 m_sure_box) (h_least_box : HasF (S := Bx) ⟨P, w, K, mg, base⟩ 7 "least_box" 2 m_least_box) (h_lacking_box : HasF (S := Bx) ⟨P, w, K, mg, base⟩ 4 "lacking_box" 3 m_lacking_box) (h_are_apart : HasF (S := Bx) ⟨P, w, K, mg, base⟩ 3 "are_apart" 3 m_are_apart) (h_first_apart : HasF (S := Bx) ⟨P, w, K, mg, base⟩ 4 "first_apart" 2 m_first_apart) (h__law_period : HasF (S := Bx) ⟨P, w, K, mg, base⟩ 2 "_law_period" 1 m__law_period) (h__law_machine : HasF (S := Bx) ⟨P, w, K, mg, base⟩ 3 "_law_machine" 4 m__law_machine) (GB : FnOk P w K mg base CX0 1 fB fdB ["script"] (spBox K)) (kpB : PySem.W.keepIn K (.ref fB) = true) (bB : Binds K fdB ["script"] []) (gB : mg "_law_box" = some (.ref fB)) (hm : ∀ b : Bx, ∃ b', bnd b_law endF b = some (.bl true, b')) :
    FnOk P w K mg base CX0 62 f fd ["script"] (spLaw K) :=
  ok_law_of (i := 1) F sc_law GB kpB bB gB (Nat.le_of_ble_eq_true rfl) rfl rfl rfl (.inl rfl) rfl rfl (.inr rfl) rfl
    (OkB.forR (C := CC_law P w K mg base 61) (Γl := fun (s_134 : Unit) => [none, some (.frz .box), none, none, none, none, none, none, none, none, none, none, none, none, none, none, none, none, none, none, none, none]) (s0 := ()) (OkI.range1 (Ok.view Ok.int) rfl z_range) (wk_mask (bs := [false, true, false, false, false, false, false, false, false, false, false, false, false, false, false, false, false, false, false, false, false, false])) (fun s_134 turn_135 => (BindOk.name (i := 2) rfl (.inl rfl) (.inl rfl) (BindOk.nil (OkB.set (C := CC_law P w K mg base 61) (i := 3) rfl (.inr rfl) (.inl rfl) (Ok.call h__law_machine (Nat.le_of_ble_eq_true rfl) rfl (Ok.cons (Ok.var (i := 1) rfl (.inr (.inl rfl)) rfl) (Ok.cons Ok.int (Ok.cons Ok.int (Ok.cons Ok.int Ok.nil))))) (fun machine_136 => (OkB.set (C := CC_law P w K mg base 61) (i := 4) rfl (.inr rfl) (.inl rfl) (Ok.call h__law_period (Nat.le_of_ble_eq_true rfl) rfl (Ok.cons (Ok.var (i := 3) rfl (.inr (.inl rfl)) rfl) Ok.nil)) (fun period_137 => (OkB.par2 (C := CC_law P w K mg base 61) (i := 5) (j := 6) rfl rfl (by decide) rfl rfl rfl (Ok.call h__law_draw (Nat.le_of_ble_eq_true rfl) rfl (Ok.cons (Ok.var (i := 1) rfl (.inr (.inl rfl)) rfl) (Ok.cons Ok.int Ok.nil))) (Ok.frz (Ok.op o_add (Ok.view Ok.int) (Ok.view (Ok.call h__law_draw (Nat.le_of_ble_eq_true rfl) rfl (Ok.cons (Ok.var (i := 1) rfl (.inr (.inl rfl)) rfl) (Ok.cons Ok.int Ok.nil)))))) (.inl rfl) (.inl rfl) fun t_138 k_139 => (OkB.set (C := CC_law P w K mg base 61) (i := 7) rfl (.inr rfl) (.inl rfl) (Ok.call h__law_stickers (Nat.le_of_ble_eq_true rfl) rfl (Ok.cons (Ok.var (i := 3) rfl (.inr (.inl rfl)) rfl) (Ok.cons (Ok.var (i := 5) rfl (.inl rfl) rfl) (Ok.cons (Ok.var (i := 6) rfl (.inl rfl) rfl) Ok.nil)))) (fun there_140 => (OkB.set (C := CC_law P w K mg base 61) (i := 8) rfl (.inl rfl) (.inl rfl) (Ok.frz (Ok.tfun o_tuple (by decide +kernel) rfl z_tuple (Ok.cons (Ok.view (OkC.n (Ok.lc [("sticker", 20)] (OkI.val (Ok.bfun o_sorted (by decide +kernel) rfl z_sorted (Ok.cons (Ok.view (Ok.tfun o_dict (by decide +kernel) rfl z_dict (Ok.cons (Ok.view (OkC.n (Ok.lc [("sticker", 20)] (OkI.val (Ok.var (i := 7) rfl (.inr (.inl rfl)) rfl) (fun h => by first | rfl | cases h)) fun sticker_182 => (BindOk.name (i := 20) rfl (.inl rfl) (.inr rfl) (BindOk.nil ⟨_, _, OkTs.nil, (Ok.tup (Ok.cons (Ok.var (i := 20) rfl (.inl rfl) rfl) (Ok.cons Ok.int Ok.nil))), rfl⟩))))) Ok.nil))) Ok.nil)) (fun h => by first | rfl | cases h)) fun sticker_183 => (BindOk.name (i := 20) rfl (.inl rfl) (.inr rfl) (BindOk.nil ⟨_, _, OkTs.nil, (Ok.tup (Ok.cons (Ok.var (i := 20) rfl (.inl rfl) rfl) (Ok.cons (Ok.frz (Ok.mlist o_count PySem.F.slot_list_count PySem.F.type_list_count (Ok.view (Ok.var (i := 7) rfl (.inr (.inl rfl)) rfl)) (Ok.cons (Ok.view (Ok.var (i := 20) rfl (.inl rfl) rfl)) Ok.nil))) Ok.nil))), rfl⟩))))) Ok.nil))) (fun due_141 => (OkB.ite (C := CC_law P w K mg base 61) (Γj := fun (s_142 : Unit) => [none, some (.frz .box), none, some (.frz machine_136), some (.frz period_137), none, none, none, none, none, none, none, none, none, none, none, none, none, none, none, none, none]) (OkW.pt (OkW.or (OkT.cmp o_isnt (Ok.view (Ok.call h_is_machine (Nat.le_of_ble_eq_true rfl) rfl (Ok.cons (Ok.var (i := 3) rfl (.inr (.inl rfl)) rfl) Ok.nil))) (Ok.view Ok.bl)) (OkW.or (OkT.not (OkT.val (Ok.view (Ok.call h__law_same (Nat.le_of_ble_eq_true rfl) rfl (Ok.cons (Ok.call h_box_counts (Nat.le_of_ble_eq_true rfl) rfl (Ok.cons (Ok.var (i := 3) rfl (.inr (.inl rfl)) rfl) (Ok.cons (Ok.var (i := 5) rfl (.inl rfl) rfl) (Ok.cons (Ok.var (i := 6) rfl (.inl rfl) rfl) Ok.nil)))) (Ok.cons (Ok.var (i := 8) rfl (.inl rfl) rfl) Ok.nil)))))) (OkW.or1 (OkT.cmp o_ne (Ok.view (Ok.call h_box_counts (Nat.le_of_ble_eq_true rfl) rfl (Ok.cons (Ok.var (i := 3) rfl (.inr (.inl rfl)) rfl) (Ok.cons (Ok.var (i := 5) rfl (.inl rfl) rfl) (Ok.cons (Ok.var (i := 4) rfl (.inr (.inl rfl)) rfl) Ok.nil))))) (Ok.view (Ok.call h_box_counts (Nat.le_of_ble_eq_true rfl) rfl (Ok.cons (Ok.var (i := 3) rfl (.inr (.inl rfl)) rfl) (Ok.cons Ok.int (Ok.cons (Ok.var (i := 4) rfl (.inr (.inl rfl)) rfl) Ok.nil)))))))))) (OkB.ret Ok.bl) (OkB.nil (s := ()) (wk_mask (bs := [false, true, false, true, true, false, false, false, false, false, false, false, false, false, false, false, false, false, false, false, false, false]))) fun s_142 => (OkB.set (C := CC_law P w K mg base 61) (i := 9) rfl (.inl rfl) (.inl rfl) (Ok.frz (Ok.bfun o_sorted (by decide +kernel) rfl z_sorted (Ok.cons (Ok.view (Ok.tfun o_dict (by decide +kernel) rfl z_dict (Ok.cons (Ok.view (OkC.n (Ok.lc [("sticker", 20)] (OkI.val (Ok.call h__law_stickers (Nat.le_of_ble_eq_true rfl) rfl (Ok.cons (Ok.var (i := 3) rfl (.inr (.inl rfl)) rfl) (Ok.cons Ok.int (Ok.cons (Ok.var (i := 4) rfl (.inr (.inl rfl)) rfl) Ok.nil)))) (fun h => by first | rfl | cases h)) fun sticker_181 => (BindOk.name (i := 20) rfl (.inl rfl) (.inr rfl) (BindOk.nil ⟨_, _, OkTs.nil, (Ok.tup (Ok.cons (Ok.var (i := 20) rfl (.inl rfl) rfl) (Ok.cons Ok.int Ok.nil))), rfl⟩))))) Ok.nil))) Ok.nil))) (fun every_143 => (OkB.set (C := CC_law P w K mg base 61) (i := 10) rfl (.inr rfl) (.inl rfl) (Ok.frz (Ok.tfun o_tuple (by decide +kernel) rfl z_tuple (Ok.cons (Ok.view (OkC.n (Ok.lc [("sticker", 20)] (OkI.val (Ok.var (i := 9) rfl (.inl rfl) rfl) (fun h => by first | rfl | cases h)) fun sticker_180 => (BindOk.name (i := 20) rfl (.inl rfl) (.inr rfl) (BindOk.nil ⟨_, _, (OkTs.one (OkT.cmp o_eq (Ok.view (Ok.call h__law_draw (Nat.le_of_ble_eq_true rfl) rfl (Ok.cons (Ok.var (i := 1) rfl (.inr (.inl rfl)) rfl) (Ok.cons Ok.int Ok.nil)))) (Ok.view Ok.int))), (Ok.var (i := 20) rfl (.inl rfl) rfl), rfl⟩))))) Ok.nil))) (fun told_144 => (OkB.set (C := CC_law P w K mg base 61) (i := 10) rfl (.inr rfl) (.inl rfl) (Ok.ife (OkT.cmp o_gt (Ok.view (Ok.bfun o_len (by decide +kernel) rfl z_len (Ok.cons (Ok.view (Ok.var (i := 10) rfl (.inr (.inl rfl)) rfl)) Ok.nil))) (Ok.view Ok.int)) (Ok.var (i := 10) rfl (.inr (.inl rfl)) rfl) (Ok.tup (Ok.cons (Ok.ix (Ok.view (Ok.var (i := 9) rfl (.inl rfl) rfl)) (Ok.view (Ok.call h__law_draw (Nat.le_of_ble_eq_true rfl) rfl (Ok.cons (Ok.var (i := 1) rfl (.inr (.inl rfl)) rfl) (Ok.cons (Ok.frz (Ok.bfun o_len (by decide +kernel) rfl z_len (Ok.cons (Ok.view (Ok.var (i := 9) rfl (.inl rfl) rfl)) Ok.nil))) Ok.nil))))) Ok.nil))) (fun told_145 => (OkB.setO (C := CC_law P w K mg base 61) (i := 11) rfl (.inr rfl) (.inl rfl) (Ok.lst Ok.nil) (fun full_146 => (OkB.forR (C := CC_law P w K mg base 61) (Γl := fun (s_147 : D) => [none, some (.frz .box), none, some (.frz machine_136), some (.frz period_137), none, none, none, none, none, some (.frz told_145), some (.own s_147), none, none, none, none, none, none, none, none, none, none]) (s0 := full_146) (OkI.range2 (Ok.view Ok.int) (Ok.view (Ok.op o_add (Ok.view (Ok.var (i := 4) rfl (.inr (.inl rfl)) rfl)) (Ok.view Ok.int))) rfl z_range) (wk_mask (bs := [false, true, false, true, true, false, false, false, false, false, true, true, false, false, false, false, false, false, false, false, false, false])) (fun s_147 size_148 => (BindOk.name (i := 12) rfl (.inr rfl) (.inl rfl) (BindOk.nil (OkB.app (C := CC_law P w K mg base 61) (i := 11) rfl (.inr (.inl rfl)) rfl (Ok.frz (OkC.n (Ok.lc [("here", 21)] (OkI.range1 (Ok.view (Ok.var (i := 4) rfl (.inr (.inl rfl)) rfl)) rfl z_range) fun here_150 => (BindOk.name (i := 21) rfl (.inr rfl) (.inl rfl) (BindOk.nil ⟨_, _, (OkTs.one (OkT.val (Ok.view (Ok.bfun o_all (by decide +kernel) rfl z_all (Ok.cons (Ok.view (OkC.n (Ok.lc [("sticker", 20)] (OkI.val (Ok.var (i := 10) rfl (.inr (.inl rfl)) rfl) (fun h => by first | rfl | cases h)) fun sticker_151 => (BindOk.name (i := 20) rfl (.inl rfl) (.inr rfl) (BindOk.nil ⟨_, _, OkTs.nil, (Ok.frz (Ok.cmp o_in (Ok.view (Ok.var (i := 20) rfl (.inl rfl) rfl)) (Ok.view (Ok.call h__law_stickers (Nat.le_of_ble_eq_true rfl) rfl (Ok.cons (Ok.var (i := 3) rfl (.inr (.inl rfl)) rfl) (Ok.cons (Ok.var (i := 21) rfl (.inr (.inl rfl)) rfl) (Ok.cons (Ok.var (i := 12) rfl (.inr (.inl rfl)) rfl) Ok.nil))))))), rfl⟩))))) Ok.nil))))), (Ok.var (i := 21) rfl (.inr (.inl rfl)) rfl), rfl⟩))))) fun full_149 => (OkB.nil (s := full_149) (wk_mask (bs := [false, true, false, true, true, false, false, false, false, false, true, true, false, false, false, false, false, false, false, false, false, false]))))))) fun s_152 => (OkB.set (C := CC_law P w K mg base 61) (i := 13) rfl (.inl rfl) (.inl rfl) (Ok.ix (Ok.view (OkC.n (Ok.lc [("size", 12)] (OkI.range1 (Ok.view (Ok.var (i := 4) rfl (.inr (.inl rfl)) rfl)) rfl z_range) fun size_179 => (BindOk.name (i := 12) rfl (.inl rfl) (.inr rfl) (BindOk.nil ⟨_, _, (OkTs.one (OkT.cmp o_gt (Ok.view (Ok.bfun o_len (by decide +kernel) rfl z_len (Ok.cons (Ok.view (Ok.ix (Ok.own (i := 11) rfl (.inr (.inl rfl)) rfl) (Ok.view (Ok.var (i := 12) rfl (.inl rfl) rfl)))) Ok.nil))) (Ok.view Ok.int))), (Ok.var (i := 12) rfl (.inl rfl) rfl), rfl⟩))))) (Ok.view Ok.int)) (fun first_153 => (OkB.set (C := CC_law P w K mg base 61) (i := 14) rfl (.inl rfl) (.inl rfl) (Ok.ix (Ok.view (OkC.n (Ok.lc [("size", 12)] (OkI.range1 (Ok.view (Ok.var (i := 4) rfl (.inr (.inl rfl)) rfl)) rfl z_range) fun size_178 => (BindOk.name (i := 12) rfl (.inl rfl) (.inr rfl) (BindOk.nil ⟨_, _, (OkTs.one (OkT.cmp o_eq (Ok.view (Ok.bfun o_len (by decide +kernel) rfl z_len (Ok.cons (Ok.view (Ok.ix (Ok.own (i := 11) rfl (.inr (.inl rfl)) rfl) (Ok.view (Ok.var (i := 12) rfl (.inl rfl) rfl)))) Ok.nil))) (Ok.view (Ok.var (i := 4) rfl (.inr (.inl rfl)) rfl)))), (Ok.var (i := 12) rfl (.inl rfl) rfl), rfl⟩))))) (Ok.view Ok.int)) (fun sure_154 => (OkB.ite (C := CC_law P w K mg base 61) (Γj := fun (s_155 : Unit) => [none, some (.frz .box), none, some (.frz machine_136), some (.frz period_137), none, none, none, none, none, some (.frz told_145), some (.own s_152), none, none, some (.frz sure_154), none, none, none, none, none, none, none]) (OkT.not (OkT.val (Ok.view (Ok.call h__law_same (Nat.le_of_ble_eq_true rfl) rfl (Ok.cons (Ok.tup (Ok.cons (Ok.call h_least_box (Nat.le_of_ble_eq_true rfl) rfl (Ok.cons (Ok.var (i := 3) rfl (.inr (.inl rfl)) rfl) (Ok.cons (Ok.var (i := 10) rfl (.inr (.inl rfl)) rfl) Ok.nil))) (Ok.cons (Ok.call h_sure_box (Nat.le_of_ble_eq_true rfl) rfl (Ok.cons (Ok.var (i := 3) rfl (.inr (.inl rfl)) rfl) (Ok.cons (Ok.var (i := 10) rfl (.inr (.inl rfl)) rfl) Ok.nil))) Ok.nil))) (Ok.cons (Ok.tup (Ok.cons (Ok.tup (Ok.cons (Ok.ix (Ok.view (Ok.ix (Ok.own (i := 11) rfl (.inr (.inl rfl)) rfl) (Ok.view (Ok.var (i := 13) rfl (.inl rfl) rfl)))) (Ok.view Ok.int)) (Ok.cons (Ok.frz (Ok.op o_add (Ok.view (Ok.var (i := 13) rfl (.inl rfl) rfl)) (Ok.view Ok.int))) Ok.nil))) (Ok.cons (Ok.frz (Ok.op o_add (Ok.view (Ok.var (i := 14) rfl (.inl rfl) rfl)) (Ok.view Ok.int))) Ok.nil))) Ok.nil)))))) (OkB.ret Ok.bl) (OkB.nil (s := ()) (wk_mask (bs := [false, true, false, true, true, false, false, false, false, false, true, true, false, false, true, false, false, false, false, false, false, false]))) fun s_155 => (OkB.forR (C := CC_law P w K mg base 61) (Γl := fun (s_156 : Unit) => [none, some (.frz .box), none, some (.frz machine_136), some (.frz period_137), none, none, none, none, none, some (.frz told_145), some (.own s_152), none, none, some (.frz sure_154), none, none, none, none, none, none, none]) (s0 := ()) (OkI.range2 (Ok.view Ok.int) (Ok.view (Ok.op o_add (Ok.view (Ok.bfun o_min (by decide +kernel) rfl z_min (Ok.cons (Ok.view (Ok.var (i := 4) rfl (.inr (.inl rfl)) rfl)) (Ok.cons (Ok.view (Ok.op o_add (Ok.view (Ok.var (i := 14) rfl (.inl rfl) rfl)) (Ok.view Ok.int))) Ok.nil)))) (Ok.view Ok.int))) rfl z_range) (wk_mask (bs := [false, true, false, true, true, false, false, false, false, false, true, true, false, false, true, false, false, false, false, false, false, false])) (fun s_156 size_157 => (BindOk.name (i := 12) rfl (.inr rfl) (.inl rfl) (BindOk.nil (OkB.setC (C := CC_law P w K mg base 61) (i := 15) rfl rfl rfl (Ok.lc [("here", 21)] (OkI.range1 (Ok.view (Ok.var (i := 4) rfl (.inr (.inl rfl)) rfl)) rfl z_range) fun here_160 => (BindOk.name (i := 21) rfl (.inl rfl) (.inr rfl) (BindOk.nil ⟨_, _, (OkTs.one (OkT.cmp o_nin (Ok.view (Ok.var (i := 21) rfl (.inl rfl) rfl)) (Ok.view (Ok.ix (Ok.own (i := 11) rfl (.inr (.inl rfl)) rfl) (Ok.view (Ok.op o_sub (Ok.view (Ok.var (i := 12) rfl (.inr (.inl rfl)) rfl)) (Ok.view Ok.int))))))), (Ok.var (i := 21) rfl (.inl rfl) rfl), rfl⟩))) fun rows_158 => (OkB.ite (C := CC_law P w K mg base 61) (Γj := fun (s_159 : Unit) => [none, some (.frz .box), none, some (.frz machine_136), some (.frz period_137), none, none, none, none, none, some (.frz told_145), some (.own s_152), none, none, some (.frz sure_154), none, none, none, none, none, none, none]) (OkW.pt (OkW.or (OkT.not (OkT.val (Ok.view (Ok.call h__law_same (Nat.le_of_ble_eq_true rfl) rfl (Ok.cons (Ok.call h_lacking_box (Nat.le_of_ble_eq_true rfl) rfl (Ok.cons (Ok.var (i := 3) rfl (.inr (.inl rfl)) rfl) (Ok.cons (Ok.var (i := 10) rfl (.inr (.inl rfl)) rfl) (Ok.cons (Ok.var (i := 12) rfl (.inr (.inl rfl)) rfl) Ok.nil)))) (Ok.cons (Ok.ife (OkT.cmp o_gt (Ok.view (Ok.bfun o_len (by decide +kernel) rfl z_len (Ok.cons (Ok.view (Ok.var (i := 15) rfl (.inl rfl) rfl)) Ok.nil))) (Ok.view Ok.int)) (Ok.ix (Ok.view (Ok.var (i := 15) rfl (.inl rfl) rfl)) (Ok.view Ok.int)) Ok.non) Ok.nil)))))) (OkW.or1 (OkT.cmp o_ne (Ok.view (Ok.cmp o_eq (Ok.view (Ok.bfun o_len (by decide +kernel) rfl z_len (Ok.cons (Ok.view (Ok.var (i := 15) rfl (.inl rfl) rfl)) Ok.nil))) (Ok.view Ok.int))) (Ok.view (Ok.cmp o_gt (Ok.view (Ok.var (i := 12) rfl (.inr (.inl rfl)) rfl)) (Ok.view (Ok.var (i := 14) rfl (.inl rfl) rfl)))))))) (OkB.ret Ok.bl) (OkB.nil (s := ()) (wk_mask (bs := [false, true, false, true, true, false, false, false, false, false, true, true, false, false, true, false, false, false, false, false, false, false]))) fun s_159 => (OkB.nil (s := ()) (wk_mask (bs := [false, true, false, true, true, false, false, false, false, false, true, true, false, false, true, false, false, false, false, false, false, false])))))))) fun s_161 => (OkB.par2 (C := CC_law P w K mg base 61) (i := 16) (j := 17) rfl rfl (by decide) rfl rfl rfl (Ok.tup (Ok.cons (Ok.call h__law_draw (Nat.le_of_ble_eq_true rfl) rfl (Ok.cons (Ok.var (i := 1) rfl (.inr (.inl rfl)) rfl) (Ok.cons Ok.int Ok.nil))) (Ok.cons (Ok.frz (Ok.op o_add (Ok.view Ok.int) (Ok.view (Ok.call h__law_draw (Nat.le_of_ble_eq_true rfl) rfl (Ok.cons (Ok.var (i := 1) rfl (.inr (.inl rfl)) rfl) (Ok.cons Ok.int Ok.nil)))))) Ok.nil))) (Ok.tup (Ok.cons (Ok.call h__law_draw (Nat.le_of_ble_eq_true rfl) rfl (Ok.cons (Ok.var (i := 1) rfl (.inr (.inl rfl)) rfl) (Ok.cons Ok.int Ok.nil))) (Ok.cons (Ok.frz (Ok.op o_add (Ok.view Ok.int) (Ok.view (Ok.call h__law_draw (Nat.le_of_ble_eq_true rfl) rfl (Ok.cons (Ok.var (i := 1) rfl (.inr (.inl rfl)) rfl) (Ok.cons Ok.int Ok.nil)))))) Ok.nil))) (.inl rfl) (.inl rfl) fun one_162 other_163 => (OkB.set (C := CC_law P w K mg base 61) (i := 18) rfl (.inr rfl) (.inl rfl) (Ok.call h__law_stickers (Nat.le_of_ble_eq_true rfl) rfl (Ok.cons (Ok.var (i := 3) rfl (.inr (.inl rfl)) rfl) (Ok.cons (Ok.ix (Ok.view (Ok.var (i := 16) rfl (.inl rfl) rfl)) (Ok.view Ok.int)) (Ok.cons (Ok.ix (Ok.view (Ok.var (i := 16) rfl (.inl rfl) rfl)) (Ok.view Ok.int)) Ok.nil)))) (fun mine_164 => (OkB.set (C := CC_law P w K mg base 61) (i := 8) rfl (.inl rfl) (.inl rfl) (Ok.not (Ok.view (Ok.bfun o_any (by decide +kernel) rfl z_any (Ok.cons (Ok.view (OkC.n (Ok.lc [("sticker", 20)] (OkI.val (Ok.call h__law_stickers (Nat.le_of_ble_eq_true rfl) rfl (Ok.cons (Ok.var (i := 3) rfl (.inr (.inl rfl)) rfl) (Ok.cons (Ok.ix (Ok.view (Ok.var (i := 17) rfl (.inl rfl) rfl)) (Ok.view Ok.int)) (Ok.cons (Ok.ix (Ok.view (Ok.var (i := 17) rfl (.inl rfl) rfl)) (Ok.view Ok.int)) Ok.nil)))) (fun h => by first | rfl | cases h)) fun sticker_177 => (BindOk.name (i := 20) rfl (.inl rfl) (.inr rfl) (BindOk.nil ⟨_, _, OkTs.nil, (Ok.frz (Ok.cmp o_in (Ok.view (Ok.var (i := 20) rfl (.inl rfl) rfl)) (Ok.view (Ok.var (i := 18) rfl (.inr (.inl rfl)) rfl)))), rfl⟩))))) Ok.nil)))) (fun due_165 => (OkB.ite (C := CC_law P w K mg base 61) (Γj := fun (s_166 : Unit) => [none, some (.frz .box), none, some (.frz machine_136), some (.frz period_137), none, none, none, none, none, none, none, none, none, none, none, none, none, none, none, none, none]) (OkT.not (OkT.val (Ok.view (Ok.call h__law_same (Nat.le_of_ble_eq_true rfl) rfl (Ok.cons (Ok.tup (Ok.cons (Ok.call h_are_apart (Nat.le_of_ble_eq_true rfl) rfl (Ok.cons (Ok.var (i := 3) rfl (.inr (.inl rfl)) rfl) (Ok.cons (Ok.var (i := 16) rfl (.inl rfl) rfl) (Ok.cons (Ok.var (i := 17) rfl (.inl rfl) rfl) Ok.nil)))) (Ok.cons (Ok.call h_are_apart (Nat.le_of_ble_eq_true rfl) rfl (Ok.cons (Ok.var (i := 3) rfl (.inr (.inl rfl)) rfl) (Ok.cons (Ok.var (i := 17) rfl (.inl rfl) rfl) (Ok.cons (Ok.var (i := 16) rfl (.inl rfl) rfl) Ok.nil)))) Ok.nil))) (Ok.cons (Ok.tup (Ok.cons (Ok.var (i := 8) rfl (.inl rfl) rfl) (Ok.cons (Ok.var (i := 8) rfl (.inl rfl) rfl) Ok.nil))) Ok.nil)))))) (OkB.ret Ok.bl) (OkB.nil (s := ()) (wk_mask (bs := [false, true, false, true, true, false, false, false, false, false, false, false, false, false, false, false, false, false, false, false, false, false]))) fun s_166 => (OkB.set (C := CC_law P w K mg base 61) (i := 19) rfl (.inl rfl) (.inl rfl) Ok.int (fun before_167 => (OkB.forR (C := CC_law P w K mg base 61) (Γl := fun (s_168 : D) => [none, some (.frz .box), none, some (.frz machine_136), some (.frz period_137), none, none, none, none, none, none, none, none, none, none, none, none, none, none, some (.frz s_168), none, none]) (s0 := before_167) (OkI.range2 (Ok.view Ok.int) (Ok.view Ok.int) rfl z_range) (wk_mask (bs := [false, true, false, true, true, false, false, false, false, false, false, false, false, false, false, false, false, false, false, true, false, false])) (fun s_168 size_169 => (BindOk.name (i := 12) rfl (.inr rfl) (.inl rfl) (BindOk.nil (OkB.set (C := CC_law P w K mg base 61) (i := 18) rfl (.inr rfl) (.inl rfl) (Ok.call h__law_stickers (Nat.le_of_ble_eq_true rfl) rfl (Ok.cons (Ok.var (i := 3) rfl (.inr (.inl rfl)) rfl) (Ok.cons Ok.int (Ok.cons (Ok.var (i := 12) rfl (.inr (.inl rfl)) rfl) Ok.nil)))) (fun mine_170 => (OkB.setC (C := CC_law P w K mg base 61) (i := 15) rfl rfl rfl (Ok.lc [("here", 21)] (OkI.range1 (Ok.view (Ok.var (i := 4) rfl (.inr (.inl rfl)) rfl)) rfl z_range) fun here_174 => (BindOk.name (i := 21) rfl (.inl rfl) (.inr rfl) (BindOk.nil ⟨_, _, (OkTs.one (OkT.not (OkT.val (Ok.view (Ok.bfun o_any (by decide +kernel) rfl z_any (Ok.cons (Ok.view (OkC.n (Ok.lc [("sticker", 20)] (OkI.val (Ok.call h__law_stickers (Nat.le_of_ble_eq_true rfl) rfl (Ok.cons (Ok.var (i := 3) rfl (.inr (.inl rfl)) rfl) (Ok.cons (Ok.var (i := 21) rfl (.inl rfl) rfl) (Ok.cons (Ok.var (i := 12) rfl (.inr (.inl rfl)) rfl) Ok.nil)))) (fun h => by first | rfl | cases h)) fun sticker_175 => (BindOk.name (i := 20) rfl (.inl rfl) (.inr rfl) (BindOk.nil ⟨_, _, OkTs.nil, (Ok.frz (Ok.cmp o_in (Ok.view (Ok.var (i := 20) rfl (.inl rfl) rfl)) (Ok.view (Ok.var (i := 18) rfl (.inr (.inl rfl)) rfl)))), rfl⟩))))) Ok.nil)))))), (Ok.var (i := 21) rfl (.inl rfl) rfl), rfl⟩))) fun rows_171 => (OkB.ite (C := CC_law P w K mg base 61) (Γj := fun (s_172 : Unit) => [none, some (.frz .box), none, some (.frz machine_136), some (.frz period_137), none, none, none, none, none, none, none, none, none, none, some (.frz rows_171), none, none, none, none, none, none]) (OkW.pt (OkW.or (OkT.not (OkT.val (Ok.view (Ok.call h__law_same (Nat.le_of_ble_eq_true rfl) rfl (Ok.cons (Ok.call h_first_apart (Nat.le_of_ble_eq_true rfl) rfl (Ok.cons (Ok.var (i := 3) rfl (.inr (.inl rfl)) rfl) (Ok.cons (Ok.var (i := 12) rfl (.inr (.inl rfl)) rfl) Ok.nil))) (Ok.cons (Ok.ife (OkT.cmp o_gt (Ok.view (Ok.bfun o_len (by decide +kernel) rfl z_len (Ok.cons (Ok.view (Ok.var (i := 15) rfl (.inl rfl) rfl)) Ok.nil))) (Ok.view Ok.int)) (Ok.ix (Ok.view (Ok.var (i := 15) rfl (.inl rfl) rfl)) (Ok.view Ok.int)) Ok.non) Ok.nil)))))) (OkW.or1 (OkW.pt (OkW.and (OkT.cmp o_is (Ok.view (Ok.var (i := 19) rfl (.inl rfl) rfl)) (Ok.view Ok.non)) (OkW.and1 (OkT.cmp o_gt (Ok.view (Ok.bfun o_len (by decide +kernel) rfl z_len (Ok.cons (Ok.view (Ok.var (i := 15) rfl (.inl rfl) rfl)) Ok.nil))) (Ok.view Ok.int)))))))) (OkB.ret Ok.bl) (OkB.nil (s := ()) (wk_mask (bs := [false, true, false, true, true, false, false, false, false, false, false, false, false, false, false, true, false, false, false, false, false, false]))) fun s_172 => (OkB.set (C := CC_law P w K mg base 61) (i := 19) rfl (.inl rfl) (.inl rfl) (Ok.ife (OkT.cmp o_gt (Ok.view (Ok.bfun o_len (by decide +kernel) rfl z_len (Ok.cons (Ok.view (Ok.var (i := 15) rfl (.inl rfl) rfl)) Ok.nil))) (Ok.view Ok.int)) (Ok.ix (Ok.view (Ok.var (i := 15) rfl (.inl rfl) rfl)) (Ok.view Ok.int)) Ok.non) (fun before_173 => (OkB.nil (s := before_173) (wk_mask (bs := [false, true, false, true, true, false, false, false, false, false, false, false, false, false, false, false, false, false, false, true, false, false])))))))))))) fun s_176 => (OkB.nil (s := ()) (wk_mask (bs := [false, true, false, false, false, false, false, false, false, false, false, false, false, false, false, false, false, false, false, false, false, false])))))))))))))))))))))))))))))))))))))))) fun s_184 => (OkB.set (C := CC_law P w K mg base 61) (i := 3) rfl (.inr rfl) (.inl rfl) (Ok.tup (Ok.cons (Ok.tup (Ok.cons Ok.int (Ok.cons Ok.int (Ok.cons Ok.int Ok.nil)))) (Ok.cons (Ok.tup (Ok.cons Ok.int (Ok.cons Ok.int Ok.nil))) Ok.nil))) (fun machine_185 => (OkB.ret (Ok.call h__law_same (Nat.le_of_ble_eq_true rfl) rfl (Ok.cons (Ok.tup (Ok.cons (Ok.call h_least_box (Nat.le_of_ble_eq_true rfl) rfl (Ok.cons (Ok.var (i := 3) rfl (.inr (.inl rfl)) rfl) (Ok.cons (Ok.tup (Ok.cons Ok.int (Ok.cons Ok.int Ok.nil))) Ok.nil))) (Ok.cons (Ok.call h_sure_box (Nat.le_of_ble_eq_true rfl) rfl (Ok.cons (Ok.var (i := 3) rfl (.inr (.inl rfl)) rfl) (Ok.cons (Ok.tup (Ok.cons Ok.int (Ok.cons Ok.int Ok.nil))) Ok.nil))) (Ok.cons (Ok.call h_lacking_box (Nat.le_of_ble_eq_true rfl) rfl (Ok.cons (Ok.var (i := 3) rfl (.inr (.inl rfl)) rfl) (Ok.cons (Ok.tup (Ok.cons Ok.int (Ok.cons Ok.int Ok.nil))) (Ok.cons Ok.int Ok.nil)))) (Ok.cons (Ok.call h_first_apart (Nat.le_of_ble_eq_true rfl) rfl (Ok.cons (Ok.var (i := 3) rfl (.inr (.inl rfl)) rfl) (Ok.cons Ok.int Ok.nil))) Ok.nil))))) (Ok.cons (Ok.tup (Ok.cons (Ok.tup (Ok.cons Ok.int (Ok.cons Ok.int Ok.nil))) (Ok.cons Ok.int (Ok.cons Ok.int (Ok.cons Ok.non Ok.nil))))) Ok.nil)))))))
    hm
end
end Lw

namespace Lw
open PySem PySem.Spec PyProof.Rows L2 Sn
/-! ### _law_same -/
inductive Pb : Nat → D → Prop
  | non {n : Nat} : Pb n .non
  | bl {n : Nat} (b : Bool) : Pb n (.bl b)
  | int {n : Nat} (i : Int) : Pb n (.int i)
  | str {n : Nat} {x : Str} (h : PyData.strOk x = true) : Pb n (.str x)
  | tup {n : Nat} {xs : List D} (h : ∀ x ∈ xs, Pb n x) (hl : xs.length < 16777216) : Pb (n + 1) (.tup xs)
  | lst {n : Nat} {xs : List D} (h : ∀ x ∈ xs, Pb n x) (hl : xs.length < 16777216) : Pb (n + 1) (.lst xs)
theorem all_true (n : Nat) : allD [.lst (List.replicate n (.bl true))] = some (.bl true) := by
  have : List.replicate n (D.bl true) = (List.replicate n true).map D.bl := by simp
  rw [this, all_bls]
  congr 2
  simp
theorem same_non (self : List D → M Bx D) : bnd (b__law_same self .non .non) endF = ret (.bl true) := by simp [b__law_same]
theorem same_bl (self : List D → M Bx D) (b : Bool) : bnd (b__law_same self (.bl b) (.bl b)) endF = ret (.bl true) := by simp [b__law_same]
theorem same_int (self : List D → M Bx D) (b : Int) : bnd (b__law_same self (.int b) (.int b)) endF = ret (.bl true) := by simp [b__law_same]
theorem same_str (self : List D → M Bx D) {x : Str} (h : PyData.strOk x = true) : bnd (b__law_same self (.str x) (.str x)) endF = ret (.bl true) := by
  have e := eq_pl (Pl.str (n := 0) h) (Pl.str (n := 0) h) (by decide) (by decide)
  simp [b__law_same, e]
theorem same_items {self : List D → M Bx D} {n : Nat} {xs : List D} {g : D} (hg : ∀ i : Int, ixD g (.int i) = atI xs i) (ih : ∀ d, Pb n d → self [d, d] = ret (.bl true)) (h : ∀ x ∈ xs, Pb n x) (hl : xs.length < 16777216) :
    compM (rng1M (ret (.int xs.length))) (fun k => eltM (ret true) (bnd (consM (ixM (ret g) (ret k)) (consM (ixM (ret g) (ret k)) (ret []))) self)) = (ret (.lst (List.replicate xs.length (.bl true))) : M Bx D) := by
  rw [rng1_ok (by omega) (by omega), comp_ok (by rw [rng_len]; omega), compL_all (fun _ => D.bl true) fun x hx => ?_]
  · have e : (rng 0 (xs.length : Int)).map (fun _ => D.bl true) = List.replicate xs.length (.bl true) := by
      rw [List.map_const', rng_len]
      congr 1
    rw [e]; rfl
  · obtain ⟨i, rfl, h1, h2⟩ := mem_rng.mp hx
    have e := atI_ok h1 h2
    simp only [r_ixM, hg, e, r_lift, r_consM, r_bnd, r_eltT, ih _ (h _ (List.getElem_mem _))]
theorem same_tup {self : List D → M Bx D} {n : Nat} {xs : List D} (ih : ∀ d, Pb n d → self [d, d] = ret (.bl true)) (h : ∀ x ∈ xs, Pb n x) (hl : xs.length < 16777216) : bnd (b__law_same self (.tup xs) (.tup xs)) endF = ret (.bl true) := by
  have e := same_items (g := .tup xs) (fun _ => rfl) ih h hl
  unfold b__law_same
  simp only [r_isi, i_tuple_tuple, r_lift, r_valT, r_tru_bl, r_andT, Bool.and_self, r_orTt, r_iteF, if_true, r_consM, r_bcM, r_lenT, e, all_true, r_op2, r_eq, decide_true, r_andMt, r_retF, r_bnd, r_seqR, r_endR]
theorem same_lst {self : List D → M Bx D} {n : Nat} {xs : List D} (ih : ∀ d, Pb n d → self [d, d] = ret (.bl true)) (h : ∀ x ∈ xs, Pb n x) (hl : xs.length < 16777216) : bnd (b__law_same self (.lst xs) (.lst xs)) endF = ret (.bl true) := by
  have e := same_items (g := .lst xs) (fun _ => rfl) ih h hl
  unfold b__law_same
  simp only [r_isi, i_tuple_list, i_list_list, r_lift, r_valT, r_tru_bl, r_andT, Bool.and_self, r_orTf, r_orTt, r_iteF, if_true, r_consM, r_bcM, r_lenL, e, all_true, r_op2, r_eq, decide_true, r_andMt, r_retF, r_bnd, r_seqR, r_endR]
theorem same_ok : ∀ (n : Nat) (d : D), Pb n d → m__law_same (n + 1) [d, d] = ret (.bl true)
  | n, _, .non => same_non (m__law_same n)
  | n, _, .bl b => same_bl (m__law_same n) b
  | n, _, .int i => same_int (m__law_same n) i
  | n, _, .str h => same_str (m__law_same n) h
  | n + 1, _, .tup h hl => same_tup (same_ok n) h hl
  | n + 1, _, .lst h hl => same_lst (same_ok n) h hl
theorem Pb.mono {n m : Nat} {d : D} (h : Pb n d) (hm : n ≤ m) : Pb m d := by
  induction h generalizing m with
  | non => exact .non
  | bl b => exact .bl b
  | int i => exact .int i
  | str h => exact .str h
  | tup h hl ih => cases m with | zero => omega | succ m => exact .tup (fun x hx => ih x hx (by omega)) hl
  | lst h hl ih => cases m with | zero => omega | succ m => exact .lst (fun x hx => ih x hx (by omega)) hl
theorem same60 {n : Nat} {d : D} (h : Pb n d) (hn : n ≤ 59) : m__law_same 60 [d, d] = ret (.bl true) := same_ok 59 d (h.mono hn)
end Lw

namespace Lw
open PySem PySem.Spec PyProof.Rows L2 Sn
/-! ### machines: what is read -/
def rd (r : List Int) (t : Nat) : Int := r.getD (t % r.length) 0
def pk (rs : List (List Int)) (t : Nat) : List Int := rs.map fun r => rd r t
def mD (rs : List (List Int)) : D := .tup (rs.map tI)
def Good (rs : List (List Int)) : Prop := rs.length ≤ 100 ∧ ∀ r ∈ rs, 0 < r.length ∧ r.length ≤ 12
theorem rd_per (r : List Int) : PerI (rd r) r.length := fun t => by unfold rd; rw [Nat.add_mod_right]
theorem len_ok (w : List Int) : (bcM lenD (consM (ret (tI w)) (ret [])) : M Bx D) = ret (.int w.length) := by simp only [r_consM, r_bcM, len_tI, r_lift]
theorem ix_rd {r : List Int} (h : 0 < r.length) (t : Nat) : ixD (tI r) (.int ((t % r.length : Nat) : Int)) = some (.int (rd r t)) := by
  have := Nat.mod_lt t h
  rw [ix_tI (by omega) (by omega)]
  unfold rd
  rw [getD_in this]
  rfl
theorem tup_map {α : Type} (xs : List α) (h : xs.length ≤ 16777216) (g : α → D) (f : α → D) (b : D → M Bx (Option D)) (hb : ∀ x ∈ xs, b (g x) = ret (some (f x))) :
    (bcM tupleD (consM (compM (itM (ret (.tup (xs.map g)))) b) (ret [])) : M Bx D) = ret (.tup (xs.map f)) := by
  rw [r_itT, comp_ok (by rw [List.length_map]; exact h), compL_map, compL_all f hb]
  simp only [r_bnd, r_consM, r_bcM, r_tupL, r_lift]
theorem packet_at_ok {rs : List (List Int)} (h : Good rs) (t : Nat) : m_packet_at [mD rs, .int t] = ret (tI (pk rs t)) := by
  show bnd (b_packet_at (mD rs) (.int t)) endF = _
  unfold b_packet_at mD
  rw [tup_map rs (by have := h.1; omega) tI (fun r => D.int (rd r t)) _ fun r hr => ?_]
  · unfold tI pk
    rw [List.map_map]
    simp only [r_retF, r_bnd, r_endR]
    rfl
  · obtain ⟨h1, h2⟩ := h.2 r hr
    rw [len_ok, r_op2, mod_ok (by omega), r_lift, r_ixM, ← Int.natCast_emod, ix_rd h1, r_lift, r_eltT, r_bnd]
theorem law_packet_ok {rs : List (List Int)} (h : Good rs) (t : Nat) : m__law_packet [mD rs, .int t] = ret (tI (pk rs t)) := by
  show bnd (b__law_packet (mD rs) (.int t)) endF = _
  unfold b__law_packet mD
  rw [tup_map rs (by have := h.1; omega) tI (fun r => D.int (rd r t)) _ fun r hr => ?_]
  · unfold tI pk
    rw [List.map_map]
    simp only [r_retF, r_bnd, r_endR]
    rfl
  · obtain ⟨h1, h2⟩ := h.2 r hr
    rw [len_ok]
    simp only [r_op2, div_ok (by omega : (0 : Int) < r.length) (by omega), r_lift, mul_ok (i := (t : Int) / r.length) (j := (r.length : Int)) (.inr ⟨by omega, by omega⟩), r_sub, modv, r_ixM]
    rw [← Int.natCast_emod, ix_rd h1, r_lift, r_eltT, r_bnd]
/-! ### roots -/
def rootB (r : List Int) (s : Nat) : Bool := decide (r.length % s = 0) && decide ((List.replicate (r.length / s) (r.take s)).flatten = r)
theorem rep_getD {l : List Int} : ∀ (n k : Nat), k < n * l.length → (List.replicate n l).flatten.getD k 0 = l.getD (k % l.length) 0
  | 0, k, h => by omega
  | n + 1, k, h => by
    rw [List.replicate_succ, List.flatten_cons]
    rw [Nat.add_mul, Nat.one_mul] at h
    by_cases c : k < l.length
    · rw [Nat.mod_eq_of_lt c]
      simp [List.getD, List.getElem?_append_left c]
    · have e := rep_getD (l := l) n (k - l.length) (by omega)
      rw [Nat.mod_eq_sub_mod (by omega), ← e]
      simp [List.getD, List.getElem?_append_right (by omega : l.length ≤ k)]
theorem rootB_iff {r : List Int} {s : Nat} (hs : 0 < s) (h : 0 < r.length) : rootB r s = true ↔ s ∣ r.length ∧ PerI (rd r) s := by
  unfold rootB
  rw [Bool.and_eq_true, decide_eq_true_eq, decide_eq_true_eq]
  constructor
  · rintro ⟨h1, h2⟩
    have hd : s ∣ r.length := Nat.dvd_of_mod_eq_zero h1
    have hle : s ≤ r.length := Nat.le_of_dvd h hd
    have hn : r.length / s * s = r.length := Nat.div_mul_cancel hd
    have hl : (r.take s).length = s := by rw [List.length_take]; omega
    have e : ∀ t, rd r t = (r.take s).getD (t % s) 0 := fun t => by
      unfold rd
      have hm := Nat.mod_lt t h
      conv => lhs; rw [← h2]
      rw [show (List.replicate (r.length / s) (r.take s)).flatten.length = r.length by rw [h2], rep_getD _ _ (by rw [hl]; omega), hl, Nat.mod_mod_of_dvd t hd]
    exact ⟨hd, fun t => by rw [e, e, Nat.add_mod_right]⟩
  · rintro ⟨hd, hp⟩
    have hle : s ≤ r.length := Nat.le_of_dvd h hd
    have hn : r.length / s * s = r.length := Nat.div_mul_cancel hd
    have hl : (r.take s).length = s := by rw [List.length_take]; omega
    refine ⟨Nat.mod_eq_zero_of_dvd hd, ?_⟩
    have hfl : (List.replicate (r.length / s) (r.take s)).flatten.length = r.length := by
      rw [List.length_flatten, List.map_replicate, List.sum_replicate_nat, hl, hn]
    apply List.ext_getElem hfl
    intro k h1 h2
    rw [← getD_in (d := 0) h1, rep_getD _ _ (by rw [hl]; omega), hl]
    have hm := Nat.mod_lt k hs
    have e := hp.mod k
    unfold rd at e
    rw [Nat.mod_eq_of_lt h2, Nat.mod_eq_of_lt (by omega : k % s < r.length)] at e
    rw [getD_in (by omega), List.getElem_take, ← getD_in (d := 0), e, getD_in h2]
/-- the least root's length -/
def rootN (r : List Int) : Nat := (((List.range r.length).map (· + 1)).filter (rootB r)).headD 0
theorem up1 (n : Nat) : ((List.range n).map (· + 1)).Pairwise (· < ·) := by
  rw [List.pairwise_map]
  exact List.pairwise_lt_range.imp fun h => by omega
theorem mem_up1 {n k : Nat} : k ∈ (List.range n).map (· + 1) ↔ 1 ≤ k ∧ k ≤ n := by
  rw [List.mem_map]
  constructor
  · rintro ⟨a, ha, rfl⟩; rw [List.mem_range] at ha; omega
  · rintro ⟨h1, h2⟩; exact ⟨k - 1, by rw [List.mem_range]; omega, by omega⟩
theorem rootB_len {r : List Int} (h : 0 < r.length) : rootB r r.length = true := (rootB_iff h h).mpr ⟨Nat.dvd_refl _, rd_per r⟩
theorem min_head {L : List Nat} (hp : L.Pairwise (· < ·)) {t : Nat} (h : t ∈ L) : L.headD 0 ∈ L ∧ L.headD 0 ≤ t := by
  cases L with
  | nil => cases h
  | cons a L =>
    refine ⟨List.mem_cons_self, ?_⟩
    rcases List.mem_cons.mp h with rfl | h
    · exact Nat.le_refl _
    · exact Nat.le_of_lt ((List.pairwise_cons.mp hp).1 t h)
theorem rootN_spec {r : List Int} (h : 0 < r.length) : 1 ≤ rootN r ∧ rootN r ≤ r.length ∧ rootB r (rootN r) = true ∧ ∀ s, 1 ≤ s → s ≤ r.length → rootB r s = true → rootN r ≤ s := by
  have hm : r.length ∈ ((List.range r.length).map (· + 1)).filter (rootB r) := List.mem_filter.mpr ⟨mem_up1.mpr ⟨h, Nat.le_refl _⟩, rootB_len h⟩
  have hp := (up1 r.length).filter (rootB r)
  have h1 := (min_head hp hm).1
  obtain ⟨h2, h3⟩ := List.mem_filter.mp h1
  obtain ⟨h4, h5⟩ := mem_up1.mp h2
  exact ⟨h4, h5, h3, fun s s1 s2 s3 => (min_head hp (List.mem_filter.mpr ⟨mem_up1.mpr ⟨s1, s2⟩, s3⟩)).2⟩
theorem root_dvd {r : List Int} (h : 0 < r.length) (p : Nat) : PerI (rd r) p ↔ rootN r ∣ p := by
  obtain ⟨h1, h2, h3, h4⟩ := rootN_spec h
  obtain ⟨hd, hp⟩ := (rootB_iff h1 h).mp h3
  constructor
  · intro q
    have g := PerI.gcd p (rootN r) q hp
    have gd : Nat.gcd p (rootN r) ∣ rootN r := Nat.gcd_dvd_right _ _
    have g0 : 0 < Nat.gcd p (rootN r) := Nat.gcd_pos_of_pos_right _ h1
    have gl := Nat.le_of_dvd h1 gd
    have := h4 _ g0 (by omega) ((rootB_iff g0 h).mpr ⟨Nat.dvd_trans gd hd, g⟩)
    have e : Nat.gcd p (rootN r) = rootN r := by omega
    rw [← e]; exact Nat.gcd_dvd_left _ _
  · exact fun d => hp.dvd d
end Lw

namespace Lw
open PySem PySem.Spec PyProof.Rows L2 Sn
theorem mulT_ok {xs : List D} {k : Nat} (h : 1 ≤ k) (h2 : k ≤ 1000) (h3 : xs.length ≤ 1000) : mulD (.tup xs) (.int (k : Int)) = some (.tup (List.replicate k xs).flatten) := by
  unfold mulD
  simp only
  rw [if_pos ⟨by omega, by omega, by omega⟩, Int.toNat_natCast]
theorem mulI_ok {w : List Int} {k : Nat} (h : 1 ≤ k) (h2 : k ≤ 1000) (h3 : w.length ≤ 1000) : mulD (tI w) (.int (k : Int)) = some (tI (List.replicate k w).flatten) := by
  unfold tI
  rw [mulT_ok h h2 (by rw [List.length_map]; exact h3), List.map_flatten, List.map_replicate]
theorem sl_to {w : List Int} {k : Nat} : slD (tI w) none (some (k : Int)) = some (tI (w.take k)) := by
  unfold tI
  rw [r_slT, cutL_map, cutL_to (by omega), Int.toNat_natCast]
/-! ### root_of_reel -/
theorem root_list {r : List Int} (h : 0 < r.length) : ∃ rest, ((List.range r.length).map (· + 1)).filter (rootB r) = rootN r :: rest := by
  have hm : r.length ∈ ((List.range r.length).map (· + 1)).filter (rootB r) := List.mem_filter.mpr ⟨mem_up1.mpr ⟨h, Nat.le_refl _⟩, rootB_len h⟩
  unfold rootN
  cases e : ((List.range r.length).map (· + 1)).filter (rootB r) with
  | nil => rw [e] at hm; cases hm
  | cons a l => exact ⟨l, rfl⟩
theorem up_rng (n : Nat) : rng 1 ((n : Int) + 1) = ((List.range n).map (· + 1)).map fun k : Nat => D.int k := by
  rw [rng_nat1, List.map_map]; rfl
theorem root_test {r : List Int} (h2 : r.length ≤ 12) {k : Nat} (k1 : 1 ≤ k) (k2 : k ≤ r.length) :
    (cmpT eqD (op2M mulD (slM (ret (tI r)) (ret none) (ptM (ret (.int k)))) (op2M divD (bcM lenD (consM (ret (tI r)) (ret []))) (ret (.int k)))) (ret (tI r)) : M Bx Bool) = ret (decide ((List.replicate (r.length / k) (r.take k)).flatten = r)) := by
  have hd : 1 ≤ r.length / k := (Nat.le_div_iff_mul_le (by omega)).mpr (by omega)
  have hd2 : r.length / k ≤ r.length := Nat.div_le_self _ _
  rw [len_ok, r_ptM, r_slM, sl_to, r_lift, r_op2, div_ok (by omega) (by omega), r_lift, r_op2, ← Int.natCast_ediv, mulI_ok hd (by omega) (by rw [List.length_take]; omega), r_lift, r_cmpT, eq_tI, r_lift, r_bnd, r_asB]
theorem root_of_reel_ok {r : List Int} (h : 0 < r.length) (h2 : r.length ≤ 12) : m_root_of_reel [tI r] = ret (tI (r.take (rootN r))) := by
  show bnd (b_root_of_reel (tI r)) endF = _
  unfold b_root_of_reel
  rw [len_ok, r_op2, r_add, r_lift, rng2_ok (by decide) (by decide) (by omega) (by omega), r_forM, up_rng, forL_findG (fun k : Nat => D.int k) (rootB r) (fun k => tI (r.take k)) fun k hk => ?_]
  · obtain ⟨rest, e⟩ := root_list h
    rw [← List.head?_filter, e]
    rfl
  · obtain ⟨k1, k2⟩ := mem_up1.mp hk
    have e := root_test h2 k1 k2
    rw [len_ok] at e
    rw [e, r_op2, mod_ok (by omega), r_lift, r_cmpT, r_eq, r_lift, r_bnd, r_asB, r_andT, r_iteF]
    have e2 : decide ((r.length : Int) % (k : Int) = 0) = decide (r.length % k = 0) := by
      rw [← Int.natCast_emod, Bool.eq_iff_iff, decide_eq_true_eq, decide_eq_true_eq]; omega
    rw [e2]
    show (if rootB r k = true then _ else _) = _
    cases rootB r k with
    | false => rfl
    | true =>
      simp only [if_true]
      rw [r_ptM, r_slM, sl_to, r_lift, r_retF, r_bnd, r_seqR]
/-! ### common divisors and multiples -/
def cdC (s : D × D) : M Bx Bool := valT (ret s.2)
def cdF (s : D × D) : M Bx (Fl (D × D) (D × D)) := parM .E .E (ret s.2) (op2M modD (ret s.1) (ret s.2)) fun a_21 b_22 => (ret (.nx (a_21, b_22)))
theorem cdF_ok (a b : Nat) (h : 0 < b) : cdF (.int a, .int b) = ret (.nx (.int b, .int ((a % b : Nat) : Int))) := by
  unfold cdF
  simp only [r_op2, mod_ok (by omega : (0 : Int) < (b : Int)), r_lift, r_par, Int.natCast_emod]
theorem cd_loop {τ' l' : Type} (k : D × D → M Bx (Fl τ' l')) : ∀ (n a b : Nat), b < n → whileL cdC cdF k n (.int (a : Int), .int (b : Int)) = k (.int (Nat.gcd a b : Int), .int 0)
  | 0, _, _, h => by omega
  | n + 1, a, b, h => by
    by_cases hb : b = 0
    · subst hb
      rw [whileL_off (by simp [cdC]), Nat.gcd_zero_right]
      rfl
    · have hc : cdC (.int (a : Int), .int (b : Int)) = ret true := by
        show (ret ((b : Int) != 0) : M Bx Bool) = _
        rw [show ((b : Int) != 0) = true by simp [bne_iff_ne]; omega]
      rw [whileL_on hc (cdF_ok a b (by omega))]
      have hm : a % b < b := Nat.mod_lt _ (by omega)
      rw [cd_loop k n b (a % b) (by omega)]
      have : Nat.gcd b (a % b) = Nat.gcd a b := by
        rw [Nat.gcd_comm a b]
        rw [Nat.gcd_rec b a, Nat.gcd_comm]
      rw [this]
theorem common_divisor_ok (a b : Nat) (h : b < 1000000) : m_common_divisor [.int (a : Int), .int (b : Int)] = ret (.int (Nat.gcd a b : Int)) := by
  unfold m_common_divisor mb_common_divisor b_common_divisor
  show bnd (whileL cdC cdF _ fuel _) endF = _
  rw [cd_loop _ fuel a b (by rw [fuel_eq]; omega)]
  rfl
def lcmL (ns : List Nat) : Nat := ns.foldl Nat.lcm 1
def nL (ns : List Nat) : D := .lst (ns.map fun k : Nat => D.int k)
theorem lcm_loop {τ' l' : Type} (k : D → M Bx (Fl τ' l')) : ∀ (ns : List Nat) (s : Nat), (∀ n ∈ ns, 1 ≤ n ∧ n ≤ 12) →
    forL (fun (s_26 : D) number_27 => (bnd (op2M divD (op2M mulD (ret s_26) (ret number_27)) (bnd (consM (ret s_26) (consM (ret number_27) (ret []))) m_common_divisor)) fun found_28 => (ret (.nx found_28)))) k (ns.map fun k : Nat => D.int k) (.int s) = k (.int (ns.foldl Nat.lcm s : Nat))
  | [], s, _ => rfl
  | n :: ns, s, h => by
    obtain ⟨n1, n2⟩ := h n List.mem_cons_self
    have g0 : 0 < Nat.gcd s n := Nat.gcd_pos_of_pos_right _ (by omega)
    have g1 : Nat.gcd s n ≤ n := Nat.le_of_dvd (by omega) (Nat.gcd_dvd_right s n)
    rw [List.map_cons, forL_on (s1 := .int (Nat.lcm s n : Nat)) (by
      rw [r_op2, mul_ok (.inr ⟨by omega, by omega⟩), r_lift, r_consM, r_consM, r_bnd, common_divisor_ok s n (by omega), r_op2, div_ok (by omega) (by omega), r_lift, r_bnd]
      unfold Nat.lcm
      rw [Int.natCast_ediv, Int.natCast_mul])]
    exact lcm_loop k ns (Nat.lcm s n) fun m hm => h m (List.mem_cons_of_mem _ hm)
theorem common_multiple_ok (ns : List Nat) (h : ∀ n ∈ ns, 1 ≤ n ∧ n ≤ 12) : m_common_multiple [nL ns] = ret (.int (lcmL ns : Nat)) := by
  show bnd (b_common_multiple (nL ns)) endF = _
  unfold b_common_multiple nL
  rw [r_bnd, r_itL, r_forM]
  have := lcm_loop (τ' := Unit) (l' := Unit) (fun s_29 => retF (ret s_29)) ns 1 h
  rw [show ((1 : Nat) : Int) = 1 from rfl] at this
  rw [this]
  rfl
/-! ### the period -/
def Pd (rs : List (List Int)) : Nat := lcmL (rs.map rootN)
theorem period_of_ok {rs : List (List Int)} (h : Good rs) : m_period_of [mD rs] = ret (.int (Pd rs : Nat)) := by
  show bnd (b_period_of (mD rs)) endF = _
  unfold b_period_of mD
  rw [r_itT, comp_ok (by rw [List.length_map]; have := h.1; omega), compL_map, compL_all (fun r : List Int => D.int (rootN r : Nat)) fun r hr => ?_]
  · have e : D.lst (rs.map fun r : List Int => D.int (rootN r : Nat)) = nL (rs.map rootN) := by unfold nL; rw [List.map_map]; rfl
    rw [r_bnd, r_consM, r_bnd, e, common_multiple_ok _ fun n hn => ?_]
    · rfl
    · obtain ⟨r, hr, rfl⟩ := List.mem_map.mp hn
      obtain ⟨h1, h2⟩ := h.2 r hr
      have := rootN_spec h1
      omega
  · obtain ⟨h1, h2⟩ := h.2 r hr
    have := rootN_spec h1
    rw [r_consM, r_bnd, root_of_reel_ok h1 h2, len_ok, r_eltT, r_bnd, List.length_take, Nat.min_eq_left (by omega)]
theorem lcm_dvd_iff (ns : List Nat) : ∀ (s p : Nat), ns.foldl Nat.lcm s ∣ p ↔ s ∣ p ∧ ∀ n ∈ ns, n ∣ p := by
  induction ns with
  | nil => intro s p; simp
  | cons n ns ih =>
    intro s p
    rw [List.foldl_cons, ih]
    constructor
    · rintro ⟨h1, h2⟩
      refine ⟨Nat.dvd_trans (Nat.dvd_lcm_left s n) h1, fun m hm => ?_⟩
      rcases List.mem_cons.mp hm with rfl | hm
      · exact Nat.dvd_trans (Nat.dvd_lcm_right s m) h1
      · exact h2 m hm
    · rintro ⟨h1, h2⟩
      exact ⟨Nat.lcm_dvd h1 (h2 n List.mem_cons_self), fun m hm => h2 m (List.mem_cons_of_mem _ hm)⟩
theorem lcmL_dvd (ns : List Nat) (p : Nat) : lcmL ns ∣ p ↔ ∀ n ∈ ns, n ∣ p := by
  unfold lcmL
  rw [lcm_dvd_iff]
  exact ⟨fun h => h.2, fun h => ⟨Nat.one_dvd _, h⟩⟩
theorem lcm_le (ns : List Nat) (h : ∀ n ∈ ns, 1 ≤ n ∧ n ≤ 12) : ∀ s, 0 < s → 0 < ns.foldl Nat.lcm s ∧ ns.foldl Nat.lcm s ≤ s * 12 ^ ns.length := by
  induction ns with
  | nil => intro s hs; simpa using hs
  | cons n ns ih =>
    intro s hs
    obtain ⟨n1, n2⟩ := h n List.mem_cons_self
    have hl : Nat.lcm s n ≤ s * n := Nat.le_of_dvd (Nat.mul_pos hs (by omega)) (Nat.lcm_dvd (Nat.dvd_mul_right _ _) (Nat.dvd_mul_left _ _))
    have hp : 0 < Nat.lcm s n := Nat.lcm_pos hs (by omega)
    obtain ⟨i1, i2⟩ := ih (fun m hm => h m (List.mem_cons_of_mem _ hm)) _ hp
    refine ⟨i1, Nat.le_trans i2 ?_⟩
    rw [List.length_cons, Nat.pow_succ, Nat.mul_comm (12 ^ ns.length) 12, ← Nat.mul_assoc]
    exact Nat.mul_le_mul_right _ (Nat.le_trans hl (Nat.mul_le_mul_left _ n2))
theorem lcmL_le {ns : List Nat} (h : ∀ n ∈ ns, 1 ≤ n ∧ n ≤ 12) (hl : ns.length ≤ 3) : 0 < lcmL ns ∧ lcmL ns ≤ 1728 := by
  obtain ⟨h1, h2⟩ := lcm_le ns h 1 (by decide)
  have : 12 ^ ns.length ≤ 12 ^ 3 := Nat.pow_le_pow_right (by decide) hl
  exact ⟨h1, by unfold lcmL; omega⟩
theorem pk_per {rs : List (List Int)} (h : Good rs) (p : Nat) : PerI (pk rs) p ↔ Pd rs ∣ p := by
  unfold Pd
  rw [lcmL_dvd]
  constructor
  · intro q n hn
    obtain ⟨r, hr, rfl⟩ := List.mem_map.mp hn
    refine (root_dvd (h.2 r hr).1 p).mp fun t => ?_
    have e := q t
    unfold pk at e
    obtain ⟨i, hi, e2⟩ := List.mem_iff_getElem.mp hr
    have e3 : (rs.map fun r => rd r (t + p))[i]? = (rs.map fun r => rd r t)[i]? := by rw [e]
    rw [List.getElem?_map, List.getElem?_map, List.getElem?_eq_getElem hi, e2] at e3
    exact Option.some.inj e3
  · intro q t
    unfold pk
    apply List.map_congr_left
    intro r hr
    exact (root_dvd (h.2 r hr).1 p).mpr (q _ (List.mem_map.mpr ⟨r, hr, rfl⟩)) t
end Lw

namespace Lw
open PySem PySem.Spec PyProof.Rows L2 Sn
/-! ### _law_period -/
def topB (s n k : Nat) : Bool := decide (s * k / n * n = s * k)
theorem topB_iff {s n k : Nat} (h : 0 < n) : topB s n k = true ↔ n ∣ s * k := by
  unfold topB
  rw [decide_eq_true_eq]
  exact ⟨fun e => ⟨s * k / n, e.symm.trans (Nat.mul_comm _ _)⟩, fun d => Nat.div_mul_cancel d⟩
theorem top_list {s n : Nat} (hs : 0 < s) (h : 0 < n) : ∃ rest, ((List.range n).map (· + 1)).filter (topB s n) = Nat.lcm s n / s :: rest := by
  have hd : s ∣ Nat.lcm s n := Nat.dvd_lcm_left s n
  have e : s * (Nat.lcm s n / s) = Nat.lcm s n := Nat.mul_div_cancel' hd
  have hp : 0 < Nat.lcm s n := Nat.lcm_pos hs h
  have hl : Nat.lcm s n ≤ s * n := Nat.le_of_dvd (Nat.mul_pos hs h) (Nat.lcm_dvd (Nat.dvd_mul_right _ _) (Nat.dvd_mul_left _ _))
  have k1 : 1 ≤ Nat.lcm s n / s := (Nat.le_div_iff_mul_le hs).mpr (by rw [Nat.one_mul]; exact Nat.le_of_dvd hp hd)
  have k2 : Nat.lcm s n / s ≤ n := Nat.div_le_of_le_mul hl
  refine hd_filter (up1 n) (mem_up1.mpr ⟨k1, k2⟩) ((topB_iff h).mpr (by rw [e]; exact Nat.dvd_lcm_right s n)) fun k hk hlt => ?_
  cases c : topB s n k with
  | false => rfl
  | true =>
    obtain ⟨q1, q2⟩ := mem_up1.mp hk
    have d := Nat.lcm_dvd (Nat.dvd_mul_right s k) ((topB_iff h).mp c)
    have := Nat.le_of_dvd (Nat.mul_pos hs (by omega)) d
    rw [← e] at this
    have := Nat.le_of_mul_le_mul_left this hs
    omega
theorem top_step {s : Nat} {r : List Int} (hs : 0 < s) (h : 0 < r.length) (h2 : r.length ≤ 12) :
    (ixM (compM (rng2M (ret (.int 1)) (op2M addD (bcM lenD (consM (ret (tI r)) (ret []))) (ret (.int 1)))) fun k_68 => (eltM (cmpT eqD (op2M mulD (op2M divD (op2M mulD (ret (.int s)) (ret k_68)) (bcM lenD (consM (ret (tI r)) (ret [])))) (bcM lenD (consM (ret (tI r)) (ret [])))) (op2M mulD (ret (.int s)) (ret k_68))) (op2M mulD (ret (.int s)) (ret k_68)))) (ret (.int 0)) : M Bx D) = ret (.int (Nat.lcm s r.length : Nat)) := by
  rw [len_ok, r_op2, r_add, r_lift, rng2_ok (by decide) (by decide) (by omega) (by omega), up_rng, comp_ok (by simp; omega), compL_map, compL_if (topB s r.length) (fun k : Nat => D.int ((s * k : Nat) : Int)) fun k hk => ?_]
  · obtain ⟨rest, e⟩ := top_list hs h
    rw [e, r_bnd, List.map_cons, r_ixM, r_ixL, ix_hd, r_lift, Nat.mul_div_cancel' (Nat.dvd_lcm_left _ _)]
  · obtain ⟨k1, k2⟩ := mem_up1.mp hk
    have em : (op2M mulD (ret (.int (s : Int))) (ret (.int (k : Int))) : M Bx D) = ret (.int ((s * k : Nat) : Int)) := by
      rw [r_op2, mul_ok (.inr ⟨by omega, by omega⟩), r_lift, Int.natCast_mul]
    rw [em, r_op2, div_ok (by omega) (by omega), r_lift, r_op2, mul_ok (.inr ⟨by omega, by omega⟩), r_lift, r_cmpT, r_eq, r_lift, r_bnd, r_asB, r_elt]
    have e2 : decide (((s * k : Nat) : Int) / (r.length : Int) * (r.length : Int) = ((s * k : Nat) : Int)) = topB s r.length k := by
      unfold topB
      rw [Bool.eq_iff_iff, decide_eq_true_eq, decide_eq_true_eq, ← Int.natCast_ediv, ← Int.natCast_mul]
      exact Int.natCast_inj
    rw [e2]
theorem top_loop {τ' l' : Type} (k : D → M Bx (Fl τ' l')) : ∀ (rs : List (List Int)) (s : Nat), 0 < s → (∀ r ∈ rs, 0 < r.length ∧ r.length ≤ 12) →
    forL (fun (s_65 : D) reel_66 => (bnd (ixM (compM (rng2M (ret (.int 1)) (op2M addD (bcM lenD (consM (ret reel_66) (ret []))) (ret (.int 1)))) fun k_68 => (eltM (cmpT eqD (op2M mulD (op2M divD (op2M mulD (ret s_65) (ret k_68)) (bcM lenD (consM (ret reel_66) (ret [])))) (bcM lenD (consM (ret reel_66) (ret [])))) (op2M mulD (ret s_65) (ret k_68))) (op2M mulD (ret s_65) (ret k_68)))) (ret (.int 0))) fun top_67 => (ret (.nx top_67)))) k (rs.map tI) (.int s) = k (.int ((rs.map List.length).foldl Nat.lcm s : Nat))
  | [], s, _, _ => rfl
  | r :: rs, s, hs, h => by
    obtain ⟨h1, h2⟩ := h r List.mem_cons_self
    rw [List.map_cons, forL_on (s1 := .int (Nat.lcm s r.length : Nat)) (by rw [top_step hs h1 h2, r_bnd])]
    exact top_loop k rs _ (Nat.lcm_pos hs h1) fun q hq => h q (List.mem_cons_of_mem _ hq)
theorem cutL_at {α : Type} {xs : List α} {p n : Nat} (h : p + n ≤ xs.length) : cutL xs (some (p : Int)) (some ((p : Int) + (n : Int))) = (xs.drop p).take n := by
  unfold cutL
  rw [show (p : Int) + (n : Int) = ((p + n : Nat) : Int) by omega, HT.sIx_nat, HT.sIx_nat, Nat.min_eq_left h, Nat.min_eq_left (show p ≤ xs.length by omega), show p + n - p = n by omega]
theorem pl_tIs {α : Type} (f : α → List Int) (xs : List α) : ∀ y ∈ xs.map (fun x => tI (f x)), Pl 1 y := fun y hy => by
  obtain ⟨x, _, rfl⟩ := List.mem_map.mp hy
  exact pl_tI _
theorem eq_lst {n : Nat} {xs ys : List D} (h : ∀ x ∈ xs, Pl n x) (g : ∀ y ∈ ys, Pl n y) (hn : n < 64) : eqD (.lst xs) (.lst ys) = some (.bl (decide (xs = ys))) := by
  rw [eq_pl (Pl.lst h) (Pl.lst g) (by omega) (by omega)]
  congr 2
  rw [Bool.eq_iff_iff, decide_eq_true_eq, decide_eq_true_eq, D.lst.injEq]
def perB (rs : List (List Int)) (T p : Nat) : Bool := (List.range T).all fun t => decide (pk rs (t + p) = pk rs t)
theorem tI_map_inj {α : Type} {f g : α → List Int} {xs : List α} : xs.map (fun x => tI (f x)) = xs.map (fun x => tI (g x)) ↔ ∀ x ∈ xs, f x = g x := by
  rw [List.map_inj_left]
  exact ⟨fun h x hx => tI_inj.mp (h x hx), fun h x hx => by rw [h x hx]⟩
theorem rows_cut (rs : List (List Int)) (T p : Nat) (h : p ≤ T) : (((List.range (2 * T)).map fun t => tI (pk rs t)).drop p).take T = (List.range T).map fun t => tI (pk rs (t + p)) := by
  apply List.ext_getElem
  · simp; omega
  · intro k h1 h2
    simp
    rw [Nat.add_comm]
theorem rows_eq (rs : List (List Int)) (T p : Nat) (h : p ≤ T) (hT : T ≤ 100000) :
    (cmpT eqD (slM (ret (.lst ((List.range (2 * T)).map fun t => tI (pk rs t)))) (ptM (ret (.int (p : Int)))) (ptM (op2M addD (ret (.int (p : Int))) (ret (.int (T : Int)))))) (slM (ret (.lst ((List.range (2 * T)).map fun t => tI (pk rs t)))) (ret none) (ptM (ret (.int (T : Int))))) : M Bx Bool) = ret (perB rs T p) := by
  have e0 : ((List.range (2 * T)).map fun t => tI (pk rs t)).take T = (List.range T).map fun t => tI (pk rs t) := by
    have := rows_cut rs T 0 (Nat.zero_le _)
    simpa using this
  rw [r_op2, r_add, r_lift, r_ptM, r_ptM, r_slM, r_slL, cutL_at (by simp; omega), rows_cut rs T p h, r_lift, r_ptM, r_slM, r_slL, cutL_to (by omega), Int.toNat_natCast, e0, r_lift, r_cmpT, eq_lst (pl_tIs _ _) (pl_tIs _ _) (by decide), r_lift, r_bnd, r_asB]
  congr 1
  unfold perB
  rw [Bool.eq_iff_iff, decide_eq_true_eq, List.all_eq_true, tI_map_inj]
  constructor
  · intro g t ht; exact decide_eq_true (g t ht)
  · intro g t ht; exact of_decide_eq_true (g t ht)
theorem perB_iff {rs : List (List Int)} {T p : Nat} (hT : 0 < T) (h : PerI (pk rs) T) : perB rs T p = true ↔ PerI (pk rs) p := by
  unfold perB
  rw [List.all_eq_true]
  constructor
  · intro g t
    have e := of_decide_eq_true (g (t % T) (List.mem_range.mpr (Nat.mod_lt t hT)))
    rw [h.mod] at e
    rw [← e]
    have := h.mul (t / T) (t % T + p)
    rw [← this]
    congr 1
    have := Nat.mod_add_div t T
    rw [Nat.mul_comm (t / T)]; omega
  · intro g t _
    exact decide_eq_true (g t)
theorem per_list {rs : List (List Int)} (h : Good rs) {T : Nat} (hT : 0 < T) (hp : PerI (pk rs) T) : ∃ rest, ((List.range T).map (· + 1)).filter (perB rs T) = Pd rs :: rest := by
  have hd := (pk_per h T).mp hp
  have hle := Nat.le_of_dvd hT hd
  have h0 : 0 < Pd rs := Nat.pos_of_ne_zero fun e => by rw [e] at hd; have := Nat.eq_zero_of_zero_dvd hd; omega
  refine hd_filter (up1 T) (mem_up1.mpr ⟨h0, hle⟩) ((perB_iff hT hp).mpr ((pk_per h _).mpr (Nat.dvd_refl _))) fun k hk hlt => ?_
  cases c : perB rs T k with
  | false => rfl
  | true =>
    obtain ⟨k1, k2⟩ := mem_up1.mp hk
    have := Nat.le_of_dvd (by omega) ((pk_per h k).mp ((perB_iff hT hp).mp c))
    omega
theorem lens_le {rs : List (List Int)} (h : Good rs) : ∀ n ∈ rs.map List.length, 1 ≤ n ∧ n ≤ 12 := fun n hn => by
  obtain ⟨r, hr, rfl⟩ := List.mem_map.mp hn
  have := h.2 r hr
  omega
theorem top_per {rs : List (List Int)} (h : Good rs) : PerI (pk rs) (lcmL (rs.map List.length)) := by
  intro t
  unfold pk
  apply List.map_congr_left
  intro r hr
  exact (rd_per r).dvd ((lcmL_dvd _ _).mp (Nat.dvd_refl _) _ (List.mem_map.mpr ⟨r, hr, rfl⟩)) t
theorem law_period_ok {rs : List (List Int)} (h : Good rs) (h3 : rs.length ≤ 3) : m__law_period [mD rs] = ret (.int (Pd rs : Nat)) := by
  show bnd (b__law_period (mD rs)) endF = _
  unfold b__law_period
  have e0 := top_loop (τ' := Unit) (l' := Unit) (fun s_69 => (bnd (compM (rng1M (op2M mulD (ret (.int 2)) (ret s_69))) fun t_72 => (eltM (ret true) (bnd (consM (ret (mD rs)) (consM (ret t_72) (ret []))) m__law_packet))) fun rows_70 => (retF (ixM (compM (rng2M (ret (.int 1)) (op2M addD (ret s_69) (ret (.int 1)))) fun p_71 => (eltM (cmpT eqD (slM (ret rows_70) (ptM (ret p_71)) (ptM (op2M addD (ret p_71) (ret s_69)))) (slM (ret rows_70) (ret none) (ptM (ret s_69)))) (ret p_71))) (ret (.int 0)))))) rs 1 (by decide) h.2
  have e1 : itM (ret (mD rs)) = (ret (rs.map tI) : M Bx (List D)) := rfl
  rw [r_bnd, e1, r_forM]
  refine (congrArg (fun m => bnd m endF) e0).trans ?_
  obtain ⟨T0, T1⟩ := lcmL_le (lens_le h) (by rw [List.length_map]; exact h3)
  have hp := top_per h
  unfold lcmL at T0 T1 hp
  revert T0 T1 hp
  generalize (rs.map List.length).foldl Nat.lcm 1 = T
  intro T0 T1 hp
  rw [r_op2, mul_ok (.inl ⟨by decide, by decide⟩), r_lift, show (2 : Int) * (T : Int) = ((2 * T : Nat) : Int) by omega, rng1_ok (by omega) (by omega), rng_nat, comp_ok (by simp; omega), compL_map, compL_all (fun t : Nat => tI (pk rs t)) fun t _ => by
    rw [r_consM, r_consM, r_bnd, law_packet_ok h, r_eltT, r_bnd]]
  rw [r_bnd, r_bnd, r_op2, r_add, r_lift, rng2_ok (by decide) (by decide) (by omega) (by omega), up_rng, comp_ok (by simp; omega), compL_map, compL_if (perB rs T) (fun k : Nat => D.int k) fun p hp' => by
    rw [rows_eq rs T p (mem_up1.mp hp').2 (by omega), r_elt]]
  obtain ⟨rest, e⟩ := per_list h T0 hp
  rw [e, r_bnd, List.map_cons, r_ixM, r_ixL, ix_hd]
  rfl
end Lw

namespace Sn
open PySem PySem.Spec PyProof.Rows L2
/-! ### plain library, third part -/
section
variable {S : Type} {α β : Type}
theorem compLL_cons {f : α → M S (List β)} (x : α) (xs : List α) : compLL f (x :: xs) = bnd (f x) fun l => bnd (compLL f xs) fun ys => ret (l ++ ys) := rfl
theorem compLL_all {f : α → M S (List β)} (g : α → List β) : ∀ {xs : List α}, (∀ x ∈ xs, f x = ret (g x)) → compLL f xs = ret (xs.flatMap g)
  | [], _ => rfl
  | x :: xs, h => by
    rw [compLL_cons, h x List.mem_cons_self, r_bnd, compLL_all g fun y hy => h y (List.mem_cons_of_mem _ hy), r_bnd, List.flatMap_cons]
theorem compLL_map {γ : Type} {f : α → M S (List β)} (g : γ → α) : ∀ xs : List γ, compLL f (xs.map g) = compLL (fun c => f (g c)) xs
  | [] => rfl
  | x :: xs => by rw [List.map_cons, compLL_cons, compLL_cons, compLL_map g xs]
theorem comp2_ok {xs : List D} {f : D → M S (List D)} {ys : List D} (h : compLL f xs = ret ys) (hl : ys.length ≤ 16777216) : comp2M (ret xs) f = ret (.lst ys) := by
  unfold comp2M
  rw [r_bnd, h, r_bnd, if_pos (by rw [sizeLine_eq]; exact hl)]
theorem elt2_ok {m : M S (List D)} {f : D → M S (Option D)} : elt2M (ret true) m f = bnd m fun xs => compL f xs := rfl
end
theorem extT_ok {S τ l : Type} {xs ys : List D} {k : D → M S (Fl τ l)} (h : xs.length + ys.length ≤ 16777216) : extM (.lst xs) (ret (.tup ys)) k = k (.lst (xs ++ ys)) := by
  show bnd (lift (if xs.length + ys.length ≤ sizeLine then some (D.lst (xs ++ ys)) else none)) k = _
  rw [if_pos (by rw [sizeLine_eq]; exact h)]; rfl
end Sn

namespace Lw
open PySem PySem.Spec PyProof.Rows L2 Sn
/-! ### the stickers of a box -/
def stk (rs : List (List Int)) (t k : Nat) : List Int := (List.range k).flatMap fun i => pk rs (t + i)
theorem rng_from (t k : Nat) : rng (t : Int) ((t : Int) + (k : Int)) = (List.range k).map fun i : Nat => D.int ((t + i : Nat) : Int) := by
  unfold rng
  rw [show ((t : Int) + (k : Int) - (t : Int)).toNat = k by omega]
  exact List.map_congr_left fun i _ => by congr 1
theorem stk_len (rs : List (List Int)) (t k : Nat) : (stk rs t k).length = k * rs.length := by
  unfold stk
  induction k with
  | zero => simp
  | succ k ih => rw [List.range_succ, List.flatMap_append, List.length_append, ih]; simp [pk, Nat.succ_mul]
theorem flat_ints (rs : List (List Int)) (t : Nat) (is : List Nat) : is.flatMap (fun i => (pk rs (t + i)).map D.int) = (is.flatMap fun i => pk rs (t + i)).map D.int := by rw [List.map_flatMap]
theorem all_stickers_ok {rs : List (List Int)} (h : Good rs) (t k : Nat) (ht : t < 1000000) (hk : k < 100000) : m_all_stickers_in [mD rs, .int t, .int k] = ret (lI (stk rs t k)) := by
  show bnd (b_all_stickers_in (mD rs) (.int t) (.int k)) endF = _
  unfold b_all_stickers_in
  have hl := h.1
  rw [r_op2, r_add, r_lift, rng2_ok (by omega) (by omega) (by omega) (by omega), rng_from, comp2_ok (ys := (stk rs t k).map D.int) ?_ ?_]
  · rfl
  · rw [compLL_map, compLL_all (fun i : Nat => (pk rs (t + i)).map D.int) fun i _ => ?_, flat_ints]
    · rfl
    · rw [r_consM, r_consM, r_bnd, packet_at_ok h, elt2_ok]
      show bnd (ret ((pk rs (t + i)).map D.int)) _ = _
      rw [r_bnd, compL_all (fun d : D => d) fun d _ => by rw [r_eltT, r_bnd], List.map_id']
  · rw [List.length_map, stk_len]
    have : k * rs.length ≤ 100000 * 100 := Nat.mul_le_mul (by omega) hl
    omega
theorem law_stickers_loop {τ' l' : Type} {rs : List (List Int)} (h : Good rs) (t : Nat) (K : D → M Bx (Fl τ' l')) : ∀ (is : List Nat) (acc : List Int), acc.length + is.length * 100 ≤ 16777216 →
    forL (fun (s_129 : D) here_130 => (extM s_129 (bnd (consM (ret (mD rs)) (consM (ret here_130) (ret []))) m__law_packet) fun found_131 => (ret (.nx found_131)))) K (is.map fun i : Nat => D.int ((t + i : Nat) : Int)) (lI acc) = K (lI (acc ++ is.flatMap fun i => pk rs (t + i)))
  | [], acc, _ => by rw [List.map_nil, r_forN, List.flatMap_nil, List.append_nil]
  | i :: is, acc, hl => by
    have h1 := h.1
    have hp : (pk rs (t + i)).length ≤ 100 := by unfold pk; rw [List.length_map]; exact h1
    rw [List.length_cons] at hl
    rw [List.map_cons, forL_on (s1 := lI (acc ++ pk rs (t + i))) (by
      rw [r_consM, r_consM, r_bnd, law_packet_ok h]
      unfold lI tI
      rw [extT_ok (by rw [List.length_map, List.length_map]; omega), List.map_append])]
    rw [law_stickers_loop h t K is _ (by rw [List.length_append]; omega), List.flatMap_cons, List.append_assoc]
theorem law_stickers_ok {rs : List (List Int)} (h : Good rs) (t k : Nat) (ht : t < 1000000) (hk : k < 100000) : m__law_stickers [mD rs, .int t, .int k] = ret (lI (stk rs t k)) := by
  show bnd (b__law_stickers (mD rs) (.int t) (.int k)) endF = _
  unfold b__law_stickers
  have e0 : (lstM (ret []) : M Bx D) = ret (.lst []) := by simp [lstM, lstD_le]
  have e1 := law_stickers_loop (τ' := Unit) (l' := Unit) h t (fun s_132 => (retF (ret s_132))) (List.range k) [] (by simp; omega)
  rw [e0, r_own, r_op2, r_add, r_lift, rng2_ok (by omega) (by omega) (by omega) (by omega), rng_from, r_forM]
  refine (congrArg (fun m => bnd m endF) e1).trans ?_
  rfl
end Lw

namespace Lw
open PySem PySem.Spec PyProof.Rows L2 Sn
theorem in_lI (x : Int) (ys : List Int) : inD (.int x) (lI ys) = some (.bl (decide (x ∈ ys))) := by
  unfold lI
  rw [inL_pl (n := 1) (.int _) (pl_ints _) (by decide)]
  congr 2
  rw [decide_eq_decide, List.mem_map]
  constructor
  · rintro ⟨y, hy, e⟩; cases e; exact hy
  · intro h; exact ⟨x, h, rfl⟩
def toldB (rs : List (List Int)) (told : List Int) (t k : Nat) : Bool := told.all fun x => decide (x ∈ stk rs t k)
theorem has_told_ok {rs : List (List Int)} (h : Good rs) (told : List Int) (hl : told.length ≤ 1000) (t k : Nat) (ht : t < 1000000) (hk : k < 100000) : m_has_told [mD rs, tI told, .int t, .int k] = ret (.bl (toldB rs told t k)) := by
  show bnd (b_has_told (mD rs) (tI told) (.int t) (.int k)) endF = _
  unfold b_has_told
  rw [r_consM, r_consM, r_consM, r_bnd, all_stickers_ok h t k ht hk, r_bnd]
  unfold tI
  rw [r_itT, comp_ok (by rw [List.length_map]; omega), compL_map, compL_all (fun x : Int => D.bl (decide (x ∈ stk rs t k))) fun x _ => by rw [r_op2, in_lI, r_lift, r_eltT, r_bnd]]
  have e : (told.map fun x => D.bl (decide (x ∈ stk rs t k))) = (told.map fun x => decide (x ∈ stk rs t k)).map D.bl := by rw [List.map_map]; rfl
  simp only [r_bnd, r_consM, r_bcM, e, all_bls, r_lift, List.all_map, r_retF, r_endR]
  rfl
end Lw

namespace Lw
open PySem PySem.Spec PyProof.Rows L2 Sn
def oN : Option Nat → D
  | some k => .int k
  | none => .non
theorem roots_le {rs : List (List Int)} (h : Good rs) : ∀ n ∈ rs.map rootN, 1 ≤ n ∧ n ≤ 12 := fun n hn => by
  obtain ⟨r, hr, rfl⟩ := List.mem_map.mp hn
  obtain ⟨h1, h2⟩ := h.2 r hr
  have := rootN_spec h1
  omega
theorem Pd_le {rs : List (List Int)} (h : Good rs) (h3 : rs.length ≤ 3) : 0 < Pd rs ∧ Pd rs ≤ 1728 := lcmL_le (roots_le h) (by rw [List.length_map]; exact h3)
theorem lacking_box_ok {rs : List (List Int)} (h : Good rs) (h3 : rs.length ≤ 3) (told : List Int) (hl : told.length ≤ 1000) (k : Nat) (hk : k < 100000) : m_lacking_box [mD rs, tI told, .int k] = ret (oN ((List.range (Pd rs)).find? fun t => !toldB rs told t k)) := by
  show bnd (b_lacking_box (mD rs) (tI told) (.int k)) endF = _
  unfold b_lacking_box
  obtain ⟨P0, P1⟩ := Pd_le h h3
  have ep : (bnd (consM (ret (mD rs)) (ret [])) m_period_of : M Bx D) = ret (.int (Pd rs : Nat)) := by rw [r_consM, r_bnd, period_of_ok h]
  rw [ep, rng1_ok (by omega) (by omega), r_forM, rng_nat, forL_findG (fun t : Nat => D.int t) (fun t => !toldB rs told t k) (fun t => D.int t) fun t ht => ?_]
  · cases (List.range (Pd rs)).find? fun t => !toldB rs told t k <;> rfl
  · rw [List.mem_range] at ht
    rw [r_consM, r_consM, r_consM, r_consM, r_bnd, has_told_ok h told hl t k (by omega) hk, r_valT, r_tru_bl, r_notT, r_iteF]
    cases toldB rs told t k <;> rfl
end Lw

namespace Lw
open PySem PySem.Spec PyProof.Rows L2 Sn
def apartB (rs : List (List Int)) (a k b l : Nat) : Bool := !(stk rs b l).any fun x => decide (x ∈ stk rs a k)
theorem ix_two0 (a b : D) : ixD (.tup [a, b]) (.int 0) = some a := by rw [r_ixT, ix_hd]
theorem ix_two1 (a b : D) : ixD (.tup [a, b]) (.int 1) = some b := by
  rw [r_ixT, atI_ok (by decide) (by simp)]
  rfl
theorem are_apart_ok {rs : List (List Int)} (h : Good rs) (a k b l : Nat) (ha : a < 1000000) (hk : k < 10000) (hb : b < 1000000) (hl : l < 10000) : m_are_apart [mD rs, .tup [.int a, .int k], .tup [.int b, .int l]] = ret (.bl (apartB rs a k b l)) := by
  show bnd (b_are_apart (mD rs) (.tup [.int a, .int k]) (.tup [.int b, .int l])) endF = _
  unfold b_are_apart
  have hg := h.1
  have hlen : (stk rs b l).length ≤ 10000 * 100 := by rw [stk_len]; exact Nat.mul_le_mul (by omega) hg
  rw [r_ixM, ix_two0, r_lift, r_ixM, ix_two1, r_lift, r_ixM, ix_two0, r_lift, r_ixM, ix_two1, r_lift]
  have e1 : (bnd (consM (ret (mD rs)) (consM (ret (.int (a : Int))) (consM (ret (.int (k : Int))) (ret [])))) m_all_stickers_in : M Bx D) = ret (lI (stk rs a k)) := by rw [r_consM, r_consM, r_consM, r_bnd, all_stickers_ok h a k ha (by omega)]
  have e2 : (bnd (consM (ret (mD rs)) (consM (ret (.int (b : Int))) (consM (ret (.int (l : Int))) (ret [])))) m_all_stickers_in : M Bx D) = ret (lI (stk rs b l)) := by rw [r_consM, r_consM, r_consM, r_bnd, all_stickers_ok h b l hb (by omega)]
  rw [e1, r_bnd, e2]
  have e3 : (itM (ret (lI (stk rs b l))) : M Bx (List D)) = ret ((stk rs b l).map .int) := rfl
  rw [e3, comp_ok (by rw [List.length_map]; omega), compL_map, compL_all (fun x : Int => D.bl (decide (x ∈ stk rs a k))) fun x _ => by rw [r_op2, in_lI, r_lift, r_eltT, r_bnd]]
  have e : ((stk rs b l).map fun x => D.bl (decide (x ∈ stk rs a k))) = ((stk rs b l).map fun x => decide (x ∈ stk rs a k)).map D.bl := by rw [List.map_map]; rfl
  simp only [r_bnd, r_consM, r_bcM, e, any_bls, r_lift, r_notM, r_tru_bl, List.any_map, r_retF, r_endR]
  rfl
theorem first_apart_ok {rs : List (List Int)} (h : Good rs) (h3 : rs.length ≤ 3) (k : Nat) (hk : k < 10000) : m_first_apart [mD rs, .int k] = ret (oN ((List.range (Pd rs)).find? fun t => apartB rs 0 k t k)) := by
  show bnd (b_first_apart (mD rs) (.int k)) endF = _
  unfold b_first_apart
  obtain ⟨P0, P1⟩ := Pd_le h h3
  have ep : (bnd (consM (ret (mD rs)) (ret [])) m_period_of : M Bx D) = ret (.int (Pd rs : Nat)) := by rw [r_consM, r_bnd, period_of_ok h]
  rw [ep, rng1_ok (by omega) (by omega), r_forM, rng_nat, forL_findG (fun t : Nat => D.int t) (fun t => apartB rs 0 k t k) (fun t => D.int t) fun t ht => ?_]
  · cases (List.range (Pd rs)).find? fun t => apartB rs 0 k t k <;> rfl
  · rw [List.mem_range] at ht
    have ea := are_apart_ok h 0 k t k (by decide) hk (by omega) hk
    rw [show ((0 : Nat) : Int) = 0 from rfl] at ea
    simp only [tupM, r_consM, r_bnd, r_tup2, r_lift, ea, r_valT, r_tru_bl, r_iteF]
    cases apartB rs 0 k t k <;> rfl
end Lw

namespace Sn
open PySem PySem.Spec PyProof.Rows L2
/-! ### plain dicts -/
theorem dget_none {ds : List (D × D)} {k : Key} : dget ds k = none ↔ (ds.any fun p => decide (kq p.1 = some k)) = false := by
  unfold dget
  rw [Option.map_eq_none_iff, List.find?_eq_none, List.any_eq_false]
theorem keys_dput {ds : List (D × D)} {k : Key} {v : D} : (dput ds k v).map (·.1) = if (dget ds k).isSome = true then ds.map (·.1) else ds.map (·.1) ++ [keyD k] := by
  unfold dput
  cases e : dget ds k with
  | none =>
    rw [dget_none.mp e, if_neg Bool.false_ne_true, if_neg (by simp), List.map_append]
    rfl
  | some w =>
    have h : (ds.any fun p => decide (kq p.1 = some k)) = true := by
      cases q : (ds.any fun p => decide (kq p.1 = some k)) with
      | true => rfl
      | false => rw [dget_none.mpr q] at e; cases e
    rw [h, if_pos rfl, if_pos (by simp), List.map_map]
    apply List.map_congr_left
    intro p _
    show (if kq p.1 = some k then (p.1, v) else p).1 = p.1
    split <;> rfl
theorem dget_app {ds : List (D × D)} {k j : Key} {v : D} : dget (ds ++ [(keyD k, v)]) j = (dget ds j).or (if k = j then some v else none) := by
  unfold dget
  rw [List.find?_append]
  cases (ds.find? fun p => decide (kq p.1 = some j)) with
  | some p => rfl
  | none =>
    rw [List.find?_cons, kq_same]
    by_cases e : k = j
    · rw [decide_eq_true e, if_pos e]; rfl
    · rw [decide_eq_false e, if_neg e]; rfl
theorem dget_repl {k j : Key} {v : D} : ∀ {ds : List (D × D)}, dget (ds.map fun p => if kq p.1 = some k then (p.1, v) else p) j = if k = j then (dget ds j).map (fun _ => v) else dget ds j
  | [] => by simp [dget]
  | p :: ds => by
    have ih := dget_repl (k := k) (j := j) (v := v) (ds := ds)
    unfold dget at ih ⊢
    rw [List.map_cons, List.find?_cons, List.find?_cons]
    by_cases e : kq p.1 = some k
    · rw [if_pos e]
      by_cases e2 : k = j
      · subst e2
        rw [decide_eq_true e, if_pos rfl]
        rfl
      · have e3 : ¬ kq p.1 = some j := fun q => e2 (Option.some.inj (e.symm.trans q))
        rw [decide_eq_false e3, if_neg e2]
        rw [if_neg e2] at ih
        exact ih
    · rw [if_neg e]
      by_cases e2 : kq p.1 = some j
      · rw [decide_eq_true e2]
        have : ¬ k = j := fun q => e (q ▸ e2)
        rw [if_neg this]
      · rw [decide_eq_false e2]
        exact ih
theorem dget_dput {ds : List (D × D)} {k j : Key} {v : D} : dget (dput ds k v) j = if k = j then some v else dget ds j := by
  unfold dput
  by_cases h : (ds.any fun p => decide (kq p.1 = some k)) = true
  · rw [if_pos h, dget_repl]
    by_cases e : k = j
    · subst e
      rw [if_pos rfl, if_pos rfl]
      cases q : dget ds k with
      | none => rw [dget_none] at q; rw [q] at h; cases h
      | some w => rfl
    · rw [if_neg e, if_neg e]
  · rw [if_neg h, dget_app]
    have hn : dget ds k = none := dget_none.mpr (by simpa using h)
    by_cases e : k = j
    · subst e
      rw [hn, if_pos rfl]; rfl
    · rw [if_neg e, if_neg e]
      cases dget ds j <;> rfl
theorem sortI_ext {a b : List Int} (ha : a.Nodup) (hb : b.Nodup) (h : ∀ x, x ∈ a ↔ x ∈ b) : sortI a = sortI b :=
  sortI_of ((sortI_perm a).trans ((List.perm_ext_iff_of_nodup ha hb).mpr h)) (sortI_le a)
theorem mem_sortI {a : List Int} {x : Int} : x ∈ sortI a ↔ x ∈ a := (sortI_perm a).mem_iff
end Sn

namespace Lw
open PySem PySem.Spec PyProof.Rows L2 Sn
/-! ### counting -/
/-- the dict of counts behind a row of ints -/
def cntF (ds : List (D × D)) (x : Int) : List (D × D) :=
  match dget ds (.inl x) with
  | some (.int n) => dput ds (.inl x) (.int (n + 1))
  | _ => dput ds (.inl x) (.int (0 + 1))
/-- keys ks without doubles, their counts in pre -/
structure CntI (ds : List (D × D)) (ks pre : List Int) : Prop where
  keys : ds.map (·.1) = ks.map D.int
  nodup : ks.Nodup
  mem : ∀ x, x ∈ ks ↔ x ∈ pre
  get : ∀ x, dget ds (.inl x) = if x ∈ pre then some (.int (pre.count x : Nat)) else none
theorem CntI.nil : CntI [] [] [] := ⟨rfl, .nil, fun _ => Iff.rfl, fun x => by simp [dget]⟩
theorem CntI.step {ds : List (D × D)} {ks pre : List Int} (h : CntI ds ks pre) (x : Int) : ∃ ks', CntI (dput ds (.inl x) (.int ((pre.count x : Nat) + 1 : Int))) ks' (pre ++ [x]) := by
  have hget : ∀ y, dget (dput ds (.inl x) (.int ((pre.count x : Nat) + 1 : Int))) (.inl y) = if y ∈ pre ++ [x] then some (.int ((pre ++ [x]).count y : Nat)) else none := fun y => by
    rw [dget_dput, h.get]
    by_cases e : x = y
    · subst e
      rw [if_pos rfl, if_pos (by simp)]
      simp [List.count_append]
    · rw [if_neg (fun q => e (Sum.inl.inj q))]
      have e2 : ¬ y = x := fun q => e q.symm
      have : (y ∈ pre ++ [x]) ↔ y ∈ pre := by simp [e2]
      simp only [this]
      have ec : (pre ++ [x]).count y = pre.count y := by simp [List.count_append, List.count_cons, e]
      rw [ec]
  by_cases hx : x ∈ pre
  · refine ⟨ks, ⟨?_, h.nodup, fun y => ?_, hget⟩⟩
    · rw [keys_dput, h.get, if_pos hx, if_pos (by simp), h.keys]
    · rw [h.mem]; simp
      intro e; subst e; exact hx
  · refine ⟨ks ++ [x], ⟨?_, ?_, fun y => ?_, hget⟩⟩
    · rw [keys_dput, h.get, if_neg hx, if_neg (by simp), h.keys, List.map_append]; rfl
    · rw [List.nodup_append]
      refine ⟨h.nodup, by simp, fun a ha b hb => ?_⟩
      rw [List.mem_singleton.mp hb]
      intro e; subst e; exact hx ((h.mem _).mp ha)
    · simp [h.mem]
end Lw

namespace Lw
open PySem PySem.Spec PyProof.Rows L2 Sn
theorem CntI.len {ds : List (D × D)} {ks pre : List Int} (h : CntI ds ks pre) : ds.length = ks.length := by
  have := congrArg List.length h.keys
  simpa using this
theorem cnt_loop {τ' l' : Type} (K : D → M Bx (Fl τ' l')) : ∀ (post pre : List Int) (ds : List (D × D)) (ks : List Int), CntI ds ks pre → ks.length + post.length ≤ 1000000 →
    ∃ ds' ks', CntI ds' ks' (pre ++ post) ∧ forL (fun (s_41 : D) sticker_42 => (dsetM s_41 (op2M addD (get2M (ret s_41) (ret sticker_42) (ret (.int 0))) (ret (.int 1))) (ret sticker_42) fun counts_43 => (ret (.nx counts_43)))) K (post.map .int) (.dct ds) = K (.dct ds')
  | [], pre, ds, ks, h, _ => ⟨ds, ks, by rw [List.append_nil]; exact h, rfl⟩
  | x :: post, pre, ds, ks, h, hl => by
    rw [List.length_cons] at hl
    have hlen := h.len
    have eg : (get2M (ret (.dct ds)) (ret (.int x)) (ret (.int 0)) : M Bx D) = ret (.int (pre.count x : Nat)) := by
      show lift (some ((dget ds (.inl x)).getD (.int 0))) = _
      rw [h.get, r_lift]
      by_cases hx : x ∈ pre
      · rw [if_pos hx]; rfl
      · rw [if_neg hx, List.count_eq_zero_of_not_mem hx]; rfl
    obtain ⟨ks', h'⟩ := h.step x
    have hk' : ks'.length ≤ ks.length + 1 := by
      have e1 := h'.len
      have e2 := congrArg List.length (keys_dput (ds := ds) (k := .inl x) (v := .int ((pre.count x : Nat) + 1 : Int)))
      rw [List.length_map] at e2
      split at e2
      · rw [List.length_map] at e2; omega
      · rw [List.length_append, List.length_map, List.length_singleton] at e2; omega
    obtain ⟨ds2, ks2, h2, e2⟩ := cnt_loop K post (pre ++ [x]) _ ks' h' (by omega)
    refine ⟨ds2, ks2, by rw [List.append_assoc] at h2; exact h2, ?_⟩
    rw [List.map_cons, forL_on (s1 := .dct (dput ds (.inl x) (.int ((pre.count x : Nat) + 1 : Int)))) (by
      rw [eg, r_op2, r_add, r_lift]
      show bnd (lift (if ds.length < sizeLine then some (D.dct (dput ds (.inl x) (.int ((pre.count x : Nat) + 1 : Int)))) else none)) _ = _
      rw [if_pos (by rw [sizeLine_eq]; omega), r_lift, r_bnd])]
    exact e2
end Lw

namespace Lw
open PySem PySem.Spec PyProof.Rows L2 Sn
theorem asInts_ints (ks : List Int) : asInts (ks.map D.int) = some ks := asInts_map ks
theorem box_counts_ok {rs : List (List Int)} (h : Good rs) (t k : Nat) (ht : t < 1000000) (hk : k < 10000) (h64 : ∀ ks : List Int, ks.Nodup → (∀ x, x ∈ ks ↔ x ∈ stk rs t k) → ks.length < 64) :
    ∃ ks : List Int, ks.Nodup ∧ (∀ x, x ∈ ks ↔ x ∈ stk rs t k) ∧ m_box_counts [mD rs, .int t, .int k] = ret (.tup ((sortI ks).map fun x => .tup [.int x, .int ((stk rs t k).count x : Nat)])) := by
  have hlen : (stk rs t k).length ≤ 10000 * 100 := by rw [stk_len]; exact Nat.mul_le_mul (by omega) h.1
  obtain ⟨ds, ks, hc, e⟩ := cnt_loop (τ' := Unit) (l' := Unit) (fun s_44 => (retF (bcM tupleD (consM (compM (itM (bcM sortedD (consM (ret s_44) (ret [])))) fun sticker_45 => (eltM (ret true) (tupM (consM (ret sticker_45) (consM (ix2M (ret s_44) (ret sticker_45)) (ret [])))))) (ret []))))) (stk rs t k) [] [] [] CntI.nil (by simpa using hlen)
  rw [List.nil_append] at hc
  have hl := h64 ks hc.nodup hc.mem
  refine ⟨ks, hc.nodup, hc.mem, ?_⟩
  show bnd (b_box_counts (mD rs) (.int t) (.int k)) endF = _
  unfold b_box_counts
  have e1 : (itM (bnd (consM (ret (mD rs)) (consM (ret (.int (t : Int))) (consM (ret (.int (k : Int))) (ret [])))) m_all_stickers_in) : M Bx (List D)) = ret ((stk rs t k).map .int) := by
    rw [r_consM, r_consM, r_consM, r_bnd, all_stickers_ok h t k ht (by omega)]; rfl
  rw [r_ownd, e1, r_forM]
  refine (congrArg (fun m => bnd m endF) e).trans ?_
  have es : (itM (bcM sortedD (consM (ret (.dct ds)) (ret []))) : M Bx (List D)) = ret ((sortI ks).map .int) := by
    rw [r_consM, r_bcM]
    have : sortedD [.dct ds] = some (.lst ((sortI ks).map .int)) := by
      show (asInts (ds.map (·.1))).bind _ = _
      rw [hc.keys, asInts_ints, Option.bind_some, if_pos hl]
    rw [this, r_lift, r_itL]
  show bnd (retF (bcM tupleD (consM (compM (itM (bcM sortedD (consM (ret (.dct ds)) (ret [])))) _) (ret [])))) endF = _
  rw [es, comp_ok (by rw [List.length_map, (sortI_perm ks).length_eq]; omega), compL_map, compL_all (fun x : Int => .tup [.int x, .int ((stk rs t k).count x : Nat)]) fun x hx => ?_]
  · simp only [r_bnd, r_consM, r_bcM, r_tupL, r_lift, r_retF, r_endR]
  · have hx' := (hc.mem x).mp (mem_sortI.mp hx)
    have ei : (ix2M (ret (.dct ds)) (ret (.int x)) : M Bx D) = ret (.int ((stk rs t k).count x : Nat)) := by
      show lift (dget ds (.inl x)) = _
      rw [hc.get, if_pos hx', r_lift]
    rw [ei]
    simp only [tupM, r_consM, r_bnd, r_tup2, r_lift, r_eltT]
end Lw

namespace Sn
open PySem PySem.Spec PyProof.Rows L2
/-! ### stepping mirrors by simp: `sym` -/
section
variable {S : Type} {α β γ : Type} {τ l τ' l' : Type}
theorem compL_congr {f g : α → M S (Option β)} {xs ys : List α} (h : xs = ys) (hf : ∀ x ∈ ys, f x = g x) : compL f xs = compL g ys := by
  subst h
  induction xs with
  | nil => rfl
  | cons x xs ih => rw [compL_cons, compL_cons, hf x List.mem_cons_self, ih fun y hy => hf y (List.mem_cons_of_mem _ hy)]
/-- a comprehension, a loop, each turn told that its item is one of the list (a plain `if`, so that simp knows it in the turn) -/
def InP (xs : List α) (x : α) : Prop := x ∈ xs
theorem InP.mem {xs : List α} {x : α} (h : InP xs x) : x ∈ xs := h
noncomputable instance (xs : List α) (x : α) : Decidable (InP xs x) := Classical.propDecidable _
def compG (f : α → M S (Option β)) (xs : List α) : M S (List β) := compL f xs
theorem compG_of (f : α → M S (Option β)) (xs : List α) : compG (fun x => if InP xs x then f x else stuck) xs = compL f xs := compL_congr rfl fun x hx => if_pos hx
theorem compG_ret (g : α → β) (xs : List α) : compG (S := S) (fun x => if InP xs x then ret (some (g x)) else stuck) xs = ret (xs.map g) := (compG_of _ xs).trans (compL_all g fun _ _ => rfl)
theorem compG_none (xs : List α) : compG (S := S) (β := β) (fun x => if InP xs x then ret none else stuck) xs = ret [] := by
  refine (compG_of _ xs).trans ?_
  induction xs with
  | nil => rfl
  | cons x xs ih => rw [compL_cons, ih]; rfl
theorem compG_retIf (p : α → Bool) (g : α → β) (xs : List α) : compG (S := S) (fun x => if InP xs x then ret (if p x = true then some (g x) else none) else stuck) xs = ret ((xs.filter p).map g) := (compG_of _ xs).trans (compL_if p g fun x _ => by split <;> rfl)
theorem compL_filt (p : α → Bool) (m : α → M S (Option β)) (xs : List α) : compL (S := S) (fun x => if p x = true then m x else ret none) xs = compL m (xs.filter p) := by
  induction xs with
  | nil => rfl
  | cons x xs ih =>
    rw [compL_cons, List.filter_cons]
    cases p x
    · simp only [Bool.false_eq_true, if_false, r_bnd, ih]
      exact bnd_id _
    · simp only [if_true]
      rw [compL_cons, ih]
theorem compG_filt (p : α → Bool) (m : α → M S (Option β)) (xs : List α) : compG (S := S) (fun x => if InP xs x then (if p x = true then m x else ret none) else stuck) xs = compG (fun x => if InP (xs.filter p) x then m x else stuck) (xs.filter p) := by
  rw [compG_of, compG_of, compL_filt]
theorem eltM_ret (b : Bool) (m : M S D) : eltM (ret b) m = if b = true then bnd m fun y => ret (some y) else ret none := (rfl)
/-- a loop over items told by others -/
def forE (f : τ → α → M S (Fl τ τ)) (k : τ → M S (Fl τ' l')) : List α → τ → M S (Fl τ' l')
  | [], s => k s
  | x :: xs, s => bnd (f s x) fun fl => match fl with
    | .nx s' => forE f k xs s'
    | .ct s' => forE f k xs s'
    | .bk s' => k s'
    | .rt d => Sn.ret (.rt d)
theorem forL_E (e : α → D) (f : τ → D → M S (Fl τ τ)) (k : τ → M S (Fl τ' l')) : ∀ (xs : List α) (s : τ), forL f k (xs.map e) s = forE (fun s x => f s (e x)) k xs s
  | [], _ => rfl
  | x :: xs, s => by
    rw [List.map_cons, forL_cons]
    show _ = bnd _ _
    congr 1
    funext fl
    cases fl with
    | nx s => exact forL_E e f k xs s
    | ct s => exact forL_E e f k xs s
    | bk s => rfl
    | rt d => rfl
theorem forE_congr {f g : τ → α → M S (Fl τ τ)} {k k' : τ → M S (Fl τ' l')} {xs ys : List α} {s s' : τ} (h : xs = ys) (hf : ∀ s, ∀ x ∈ ys, f s x = g s x) (hk : ∀ s, k s = k' s) (hs : s = s') : forE f k xs s = forE g k' ys s' := by
  subst h hs
  induction xs generalizing s with
  | nil => exact hk s
  | cons x xs ih =>
    show bnd _ _ = bnd _ _
    rw [hf s x List.mem_cons_self]
    congr 1
    funext fl
    cases fl with
    | nx s => exact ih fun s y hy => hf s y (List.mem_cons_of_mem _ hy)
    | ct s => exact ih fun s y hy => hf s y (List.mem_cons_of_mem _ hy)
    | bk s => exact hk s
    | rt d => rfl
def forG (f : τ → α → M S (Fl τ τ)) (k : τ → M S (Fl τ' l')) (xs : List α) (s : τ) : M S (Fl τ' l') := forE f k xs s
theorem forG_E (f : τ → α → M S (Fl τ τ)) (k : τ → M S (Fl τ' l')) (xs : List α) (s : τ) : forG (fun s x => if InP xs x then f s x else stuck) k xs s = forE f k xs s := forE_congr rfl (fun _ x hx => if_pos hx) (fun _ => rfl) rfl
theorem forL_G (e : α → D) (f : τ → D → M S (Fl τ τ)) (k : τ → M S (Fl τ' l')) (xs : List α) (s : τ) : forL f k (xs.map e) s = forG (fun s x => if InP xs x then f s (e x) else stuck) k xs s := by rw [forG_E, forL_E]
theorem forG_unit (k : Unit → M S (Fl τ' l')) (xs : List α) : forG (fun _ x => if InP xs x then ret (.nx ()) else stuck) k xs () = k () := by
  rw [forG_E]
  induction xs with
  | nil => rfl
  | cons x xs ih => exact ih
theorem forE_find (p : α → Bool) (r : α → D) (k : Unit → M S (Fl τ' l')) (xs : List α) : forE (fun _ x => if p x = true then ret (.rt (r x)) else ret (.nx ())) k xs () = match xs.find? p with | some x => ret (.rt (r x)) | none => k () := by
  induction xs with
  | nil => rfl
  | cons x xs ih =>
    show bnd (if p x = true then ret (Fl.rt (r x)) else ret (Fl.nx ())) _ = _
    rw [List.find?_cons]
    cases p x
    · exact ih
    · rfl
theorem forG_find (p : α → Bool) (r : α → D) (k : Unit → M S (Fl τ' l')) (xs : List α) : forG (fun _ x => if InP xs x then (if p x = true then ret (.rt (r x)) else ret (.nx ())) else stuck) k xs () = match xs.find? p with | some x => ret (.rt (r x)) | none => k () := by rw [forG_E, forE_find]
/-- a loop whose state is told by a plain one -/
theorem forE_fold {σ : Type} (e : σ → τ) (g : σ → α → σ) (I : σ → Prop) {f : τ → α → M S (Fl τ τ)} {k : τ → M S (Fl τ' l')} : ∀ {xs : List α} {s : σ}, I s → (∀ s, I s → ∀ x ∈ xs, f (e s) x = ret (.nx (e (g s x))) ∧ I (g s x)) → forE f k xs (e s) = k (e (xs.foldl g s))
  | [], _, _, _ => rfl
  | x :: xs, s, hi, h => by
    obtain ⟨h1, h2⟩ := h s hi x List.mem_cons_self
    show bnd _ _ = _
    rw [h1, r_bnd, List.foldl_cons]
    exact forE_fold e g I h2 fun s hs y hy => h s hs y (List.mem_cons_of_mem _ hy)
theorem iteF_ret (b : Bool) (mA mB : M S (Fl τ' l)) (k : τ' → M S (Fl τ l)) : iteF (ret b) mA mB k = if b = true then bnd mA (fun f => seqF f k) else bnd mB (fun f => seqF f k) := r_iteF b mA mB k
theorem bcM_bnd (g : List D → Option D) (d : D) : bcM (S := S) g (ret [d]) = lift (g [d]) := (rfl)
theorem chainM_ret (g g' : D → D → Option D) (a b c : D) : chainM (S := S) g g' (ret a) (ret b) (ret c) = bnd (bnd (lift (g a b)) asB) fun t => if t = true then lift (g' b c) else ret (.bl false) := (rfl)
theorem chainT_ret (g g' : D → D → Option D) (a b c : D) : chainT (S := S) g g' (ret a) (ret b) (ret c) = bnd (bnd (lift (g a b)) asB) fun t => if t = true then bnd (lift (g' b c)) asB else ret false := (rfl)
theorem s_iteB (b c : Bool) : (if b = true then ret (.bl c) else ret (.bl false) : M S D) = ret (.bl (b && c)) := by cases b <;> rfl
theorem s_iteT (b c : Bool) : (if b = true then ret c else ret false : M S Bool) = ret (b && c) := by cases b <;> rfl
theorem lstD_map (f : α → D) (xs : List α) (h : xs.length ≤ 16777216) : lstD (xs.map f) = some (.lst (xs.map f)) := lstD_le (by rw [List.length_map]; exact h)
theorem lenT_map (f : α → D) (xs : List α) : lenD [.tup (xs.map f)] = some (.int xs.length) := by rw [r_lenT, List.length_map]
theorem lenL_map (f : α → D) (xs : List α) : lenD [.lst (xs.map f)] = some (.int xs.length) := by rw [r_lenL, List.length_map]
theorem s_comp {e : α → D} {xs : List α} {f : D → M S (Option D)} (h : xs.length ≤ 16777216) : compM (ret (xs.map e)) f = bnd (compG (fun x => if InP xs x then f (e x) else stuck) xs) fun ys => ret (.lst ys) := by
  rw [comp_ok (by rw [List.length_map]; exact h), compL_map, compG_of]
theorem s_all (p : α → Bool) (xs : List α) : allD [.lst (xs.map fun x => .bl (p x))] = some (.bl (xs.all p)) := by
  have : (xs.map fun x => D.bl (p x)) = (xs.map p).map D.bl := by rw [List.map_map]; rfl
  rw [this, all_bls, List.all_map]; rfl
theorem s_any (p : α → Bool) (xs : List α) : anyD [.lst (xs.map fun x => .bl (p x))] = some (.bl (xs.any p)) := by
  have : (xs.map fun x => D.bl (p x)) = (xs.map p).map D.bl := by rw [List.map_map]; rfl
  rw [this, any_bls, List.any_map]; rfl
theorem s_sum (p : α → Int) (xs : List α) : sumD [.lst (xs.map fun x => .int (p x))] = some (.int (xs.map p).sum) := by
  have : (xs.map fun x => D.int (p x)) = (xs.map p).map D.int := by rw [List.map_map]; rfl
  rw [this, sum_ints]
/-- the greatest, the least of a list that is not empty -/
def maxL : List Int → Int
  | [] => 0
  | i :: is => is.foldl (fun a b => if a < b then b else a) i
def minL : List Int → Int
  | [] => 0
  | i :: is => is.foldl (fun a b => if b < a then b else a) i
theorem s_max (p : α → Int) (xs : List α) (h : xs ≠ []) : maxD [.lst (xs.map fun x => .int (p x))] = some (.int (maxL (xs.map p))) := by
  have : (xs.map fun x => D.int (p x)) = (xs.map p).map D.int := by rw [List.map_map]; rfl
  rw [this]
  show ((asInts ((xs.map p).map D.int)).bind maxI).map D.int = _
  rw [asInts_map]
  cases xs with
  | nil => exact absurd rfl h
  | cons x xs => rfl
theorem s_min (p : α → Int) (xs : List α) (h : xs ≠ []) : minD [.lst (xs.map fun x => .int (p x))] = some (.int (minL (xs.map p))) := by
  have : (xs.map fun x => D.int (p x)) = (xs.map p).map D.int := by rw [List.map_map]; rfl
  rw [this]
  show ((asInts ((xs.map p).map D.int)).bind minI).map D.int = _
  rw [asInts_map]
  cases xs with
  | nil => exact absurd rfl h
  | cons x xs => rfl
theorem max2_ok (i j : Int) : maxD [.int i, .int j] = some (.int (max i j)) := by
  show some (D.int (if j > i then j else i)) = _
  congr 2
  split <;> omega
theorem min2_ok (i j : Int) : minD [.int i, .int j] = some (.int (min i j)) := by
  show some (D.int (if j < i then j else i)) = _
  congr 2
  split <;> omega
theorem maxL_spec : ∀ {xs : List Int}, xs ≠ [] → maxL xs ∈ xs ∧ ∀ y ∈ xs, y ≤ maxL xs := by
  intro xs h
  cases xs with
  | nil => exact absurd rfl h
  | cons i is =>
    show is.foldl (fun a b => if a < b then b else a) i ∈ i :: is ∧ ∀ y ∈ i :: is, y ≤ is.foldl (fun a b => if a < b then b else a) i
    clear h
    induction is generalizing i with
    | nil => exact ⟨by simp, fun y hy => by simp at hy; subst hy; exact Int.le_refl _⟩
    | cons j js ih =>
      rw [List.foldl_cons]
      obtain ⟨h1, h2⟩ := ih (if i < j then j else i)
      constructor
      · rcases List.mem_cons.mp h1 with e | e
        · rw [e]; split <;> simp
        · exact List.mem_cons_of_mem _ (List.mem_cons_of_mem _ e)
      · intro y hy
        have h3 := h2 (if i < j then j else i) List.mem_cons_self
        have h4 : i ≤ (if i < j then j else i) ∧ j ≤ (if i < j then j else i) := by split <;> omega
        rcases List.mem_cons.mp hy with e | hy
        · rw [e]; exact Int.le_trans h4.1 h3
        · rcases List.mem_cons.mp hy with e | hy
          · rw [e]; exact Int.le_trans h4.2 h3
          · exact h2 y (List.mem_cons_of_mem _ hy)
theorem minL_spec : ∀ {xs : List Int}, xs ≠ [] → minL xs ∈ xs ∧ ∀ y ∈ xs, minL xs ≤ y := by
  intro xs h
  cases xs with
  | nil => exact absurd rfl h
  | cons i is =>
    show is.foldl (fun a b => if b < a then b else a) i ∈ i :: is ∧ ∀ y ∈ i :: is, is.foldl (fun a b => if b < a then b else a) i ≤ y
    clear h
    induction is generalizing i with
    | nil => exact ⟨by simp, fun y hy => by simp at hy; subst hy; exact Int.le_refl _⟩
    | cons j js ih =>
      rw [List.foldl_cons]
      obtain ⟨h1, h2⟩ := ih (if j < i then j else i)
      constructor
      · rcases List.mem_cons.mp h1 with e | e
        · rw [e]; split <;> simp
        · exact List.mem_cons_of_mem _ (List.mem_cons_of_mem _ e)
      · intro y hy
        have h3 := h2 (if j < i then j else i) List.mem_cons_self
        have h4 : (if j < i then j else i) ≤ i ∧ (if j < i then j else i) ≤ j := by split <;> omega
        rcases List.mem_cons.mp hy with e | hy
        · rw [e]; exact Int.le_trans h3 h4.1
        · rcases List.mem_cons.mp hy with e | hy
          · rw [e]; exact Int.le_trans h3 h4.2
          · exact h2 y (List.mem_cons_of_mem _ hy)
theorem maxL_iff {xs : List Int} (h : xs ≠ []) (k : Int) : maxL xs ≤ k ↔ ∀ x ∈ xs, x ≤ k := ⟨fun q x hx => Int.le_trans ((maxL_spec h).2 x hx) q, fun q => q _ (maxL_spec h).1⟩
theorem in_ints {α : Type} (x : Int) (xs : List α) (p : α → Int) : inD (.int x) (.lst (xs.map fun y => .int (p y))) = some (.bl (decide (x ∈ xs.map p))) := by
  have e : (xs.map fun y => D.int (p y)) = (xs.map p).map D.int := by rw [List.map_map]; rfl
  rw [e, inL_pl (n := 1) (.int _) (pl_ints _) (by decide)]
  congr 2
  rw [decide_eq_decide, List.mem_map]
  constructor
  · rintro ⟨y, hy, e⟩; cases e; exact hy
  · intro h; exact ⟨x, h, rfl⟩
theorem s_zipL (xs ys : List D) : zipM2 (S := S) (ret (.lst xs)) (ret (.lst ys)) = ret (zipT xs ys) := (rfl)
theorem s_zipT (xs ys : List D) : zipM2 (S := S) (ret (.tup xs)) (ret (.tup ys)) = ret (zipT xs ys) := (rfl)
theorem zipT_map {β : Type} (f : α → D) (g : β → D) : ∀ (xs : List α) (ys : List β), zipT (xs.map f) (ys.map g) = (xs.zip ys).map fun p => .tup [f p.1, g p.2]
  | [], _ => by cases ‹List β› <;> rfl
  | _ :: _, [] => rfl
  | x :: xs, y :: ys => by
    rw [List.map_cons, List.map_cons, List.zip_cons_cons, List.map_cons, ← zipT_map f g xs ys]
    rfl
theorem s_count (x : Int) (xs : List Int) : mlM (S := S) countD (ret (.lst (xs.map .int))) (ret [.int x]) = ret (.int (xs.count x : Nat)) := by
  show lift (countD (xs.map .int) [.int x]) = _
  unfold countD
  rw [asInts_map]
  rfl
theorem s_atR {α : Type} (g : Nat → α) {n s : Nat} (h : s < n) : atI ((List.range n).map g) (s : Int) = some (g s) := by
  rw [atI_ok (by omega) (by rw [List.length_map, List.length_range]; omega)]
  simp
theorem s_atC0 {α : Type} (x : α) (xs : List α) : atI (x :: xs) 0 = some x := by
  rw [atI_ok (by decide) (by rw [List.length_cons]; omega)]
  rfl
theorem s_atC1 {α : Type} (x y : α) (xs : List α) : atI (x :: y :: xs) 1 = some y := by
  rw [atI_ok (by decide) (by rw [List.length_cons, List.length_cons]; omega)]
  rfl
theorem s_atC2 {α : Type} (x y z : α) (xs : List α) : atI (x :: y :: z :: xs) 2 = some z := by
  rw [atI_ok (by decide) (by rw [List.length_cons, List.length_cons, List.length_cons]; omega)]
  rfl
theorem s_in_nats (x : Nat) (xs : List Nat) : inD (.int (x : Int)) (.lst (xs.map fun k : Nat => .int (k : Int))) = some (.bl (decide (x ∈ xs))) := by
  have e : (xs.map fun k : Nat => D.int (k : Int)) = (xs.map fun k : Nat => (k : Int)).map D.int := by rw [List.map_map]; rfl
  rw [e, inL_pl (n := 1) (.int _) (pl_ints _) (by decide)]
  congr 2
  rw [decide_eq_decide, List.mem_map]
  constructor
  · rintro ⟨y, hy, e⟩
    obtain ⟨z, hz, rfl⟩ := List.mem_map.mp hy
    cases e; exact hz
  · intro h; exact ⟨x, List.mem_map.mpr ⟨x, h, rfl⟩, rfl⟩
theorem s_nin_nats (x : Nat) (xs : List Nat) : ninD (.int (x : Int)) (.lst (xs.map fun k : Nat => .int (k : Int))) = some (.bl (!decide (x ∈ xs))) := by
  have e : (xs.map fun k : Nat => D.int (k : Int)) = (xs.map fun k : Nat => (k : Int)).map D.int := by rw [List.map_map]; rfl
  rw [e, ninL_pl (n := 1) (.int _) (pl_ints _) (by decide)]
  congr 3
  rw [decide_eq_decide, List.mem_map]
  constructor
  · rintro ⟨y, hy, e⟩
    obtain ⟨z, hz, rfl⟩ := List.mem_map.mp hy
    cases e; exact hz
  · intro h; exact ⟨x, List.mem_map.mpr ⟨x, h, rfl⟩, rfl⟩
theorem s_app {xs : List D} {y : D} {k : D → M S (Fl τ l)} (h : xs.length < 16777216) : appM (.lst xs) (ret y) k = k (.lst (xs ++ [y])) := Sn.app_ok h
theorem s_extL {xs ys : List D} {k : D → M S (Fl τ l)} (h : xs.length + ys.length ≤ 16777216) : extM (.lst xs) (ret (.lst ys)) k = k (.lst (xs ++ ys)) := Sn.ext_ok h
theorem s_extT {xs ys : List D} {k : D → M S (Fl τ l)} (h : xs.length + ys.length ≤ 16777216) : extM (.lst xs) (ret (.tup ys)) k = k (.lst (xs ++ ys)) := Sn.extT_ok h
theorem s_pat2 {γ : Type} (f : D → D → M S γ) (a b : D) : pat2 f (.tup [a, b]) = f a b := (rfl)
theorem s_pat3 {γ : Type} (f : D → D → D → M S γ) (a b c : D) : pat3 f (.tup [a, b, c]) = f a b c := (rfl)
end
end Sn

namespace Lw
open PySem PySem.Spec PyProof.Rows L2 Sn
theorem in_tI (x : Int) (ys : List Int) : inD (.int x) (tI ys) = some (.bl (decide (x ∈ ys))) := by
  have h := in_lI x ys
  unfold lI at h
  unfold inD at h
  simp only at h
  unfold tI inD
  simp only
  have hx : shD (.int x) = true := (Pl.int (n := 0) x).sh (by decide)
  have h1 : shD (.lst (ys.map .int)) = true := (Pl.lst (pl_ints (n := 0) ys)).sh (by decide)
  have h2 : shD (.tup (ys.map .int)) = true := (Pl.tup (pl_ints (n := 0) ys)).sh (by decide)
  rw [if_pos ⟨hx, h1⟩] at h
  rw [if_pos ⟨hx, h2⟩]
  exact h
def moms (rs : List (List Int)) (x : Int) : List Nat := (List.range (Pd rs)).filter fun t => decide (x ∈ pk rs t)
theorem moments_of_ok {rs : List (List Int)} (h : Good rs) (h3 : rs.length ≤ 3) (x : Int) : m_moments_of [mD rs, .int x] = ret (nL (moms rs x)) := by
  show bnd (b_moments_of (mD rs) (.int x)) endF = _
  unfold b_moments_of
  obtain ⟨P0, P1⟩ := Pd_le h h3
  simp (disch := (first | assumption | (refine InP.mem ?_; assumption) | omega | solve_by_elim | (simp only [InP, decide_eq_true_eq, List.map_id', List.length_map, List.length_cons, List.length_nil, List.length_append, List.length_range, List.length_zip, List.length_tail, List.length_take, List.length_drop, rI_len, rng_len, mem_rI, List.mem_range] at *; omega) | (simp only [List.map_id']; assumption) | simp)) only [r_bnd, r_lift, r_op2, r_cmpT, r_asB, r_asI, r_valT, r_tru_bl, r_tru_int, r_tru_lst, r_tru_tup, r_tru_non, r_notT, r_andTt, r_andTf, r_andT, r_orTt, r_orTf, r_orT, r_andMt, r_andMf, r_andM, r_orMt, r_orMf, r_orM, r_notM, r_negM, r_negD, r_ifM, r_consM, r_tupM, r_lstM, r_tup0, r_tup1, r_tup2, r_tup3, r_tup4, r_tup5, r_tup6, r_lst0, r_lst1, r_lst2, r_lst3, r_lst4, r_lst5, r_bcM, r_lenT, r_lenL, List.length_map, r_tupT, r_tupL, r_lstT, r_lstL, r_int, r_ixM, r_ixT, r_ixL, r_ptM, r_slM, r_slT, r_slL, r_itT, r_itL, r_isi, r_add, r_sub, r_lt, r_le, r_gt, r_ge, r_isN, r_isntN, r_isB, r_isntB, nonNon, nonI, nonT, nonL, nonB, nonS, r_retF, r_endR, r_endN, r_iteF, r_seqN, r_seqR, r_seqB, r_seqC, r_forM, r_own, r_ownd, r_par, r_parN, r_parNN, r_eltT, r_eltF, r_elt, r_eq, r_ne, r_eqb, r_neb, compG_ret, compG_none, compG_retIf, compG_filt, eltM_ret, forL_G, forG_unit, forG_find, chainM_ret, chainT_ret, s_iteB, s_iteT, s_comp, s_all, s_any, s_sum, max2_ok, min2_ok, s_zipL, s_zipT, zipT_map, s_pat2, s_pat3, s_app, s_extL, s_extT, s_count, s_atR, s_atC0, s_atC1, s_atC2, s_in_nats, s_nin_nats, List.map_map, Function.comp_apply, Bool.false_eq_true, if_true, if_false, ↓reduceIte, Bool.not_true, Bool.not_false, Bool.and_true, Bool.true_and, Bool.or_false, Bool.false_or, Bool.and_false, Bool.false_and, Bool.or_true, Bool.true_or, decide_true, decide_false, period_of_ok h, rng1_ok, rng_nat, packet_at_ok h, in_tI]
  rfl
def gaps (rs : List (List Int)) (x : Int) : List Int := ((moms rs x).zip ((moms rs x).tail ++ [(moms rs x).headD 0 + Pd rs])).map fun p => (p.2 : Int) - (p.1 : Int)
def lw (rs : List (List Int)) (x : Int) : Int := maxL (gaps rs x)
theorem moms_len (rs : List (List Int)) (x : Int) : (moms rs x).length ≤ Pd rs := by
  have := List.length_filter_le (fun t => decide (x ∈ pk rs t)) (List.range (Pd rs))
  rw [List.length_range] at this
  exact this
theorem longest_way_ok {rs : List (List Int)} (h : Good rs) (h3 : rs.length ≤ 3) (x : Int) (hx : moms rs x ≠ []) : m_longest_way [mD rs, .int x] = ret (.int (lw rs x)) := by
  show bnd (b_longest_way (mD rs) (.int x)) endF = _
  unfold b_longest_way
  obtain ⟨P0, P1⟩ := Pd_le h h3
  have hl := moms_len rs x
  unfold lw gaps
  cases e : moms rs x with
  | nil => exact absurd e hx
  | cons a r =>
    rw [e] at hl
    have e1 : slD (nL (a :: r)) (some 1) none = some (nL r) := by
      unfold nL
      rw [r_slL, cutL_from (by decide)]
      rfl
    have e2 : ixD (nL (a :: r)) (.int 0) = some (.int (a : Int)) := ix_hd
    have e3 : addD (nL r) (.lst [.int ((a : Int) + (Pd rs : Int))]) = some (nL (r ++ [a + Pd rs])) := by
      unfold nL
      rw [addL_ok (by simp at hl ⊢; omega), List.map_append]
      rfl
    simp (disch := (first | assumption | (refine InP.mem ?_; assumption) | omega | solve_by_elim | (simp only [InP, decide_eq_true_eq, List.map_id', List.length_map, List.length_cons, List.length_nil, List.length_append, List.length_range, List.length_zip, List.length_tail, List.length_take, List.length_drop, rI_len, rng_len, mem_rI, List.mem_range] at *; omega) | (simp only [List.map_id']; assumption) | simp)) only [r_bnd, r_lift, r_op2, r_cmpT, r_asB, r_asI, r_valT, r_tru_bl, r_tru_int, r_tru_lst, r_tru_tup, r_tru_non, r_notT, r_andTt, r_andTf, r_andT, r_orTt, r_orTf, r_orT, r_andMt, r_andMf, r_andM, r_orMt, r_orMf, r_orM, r_notM, r_negM, r_negD, r_ifM, r_consM, r_tupM, r_lstM, r_tup0, r_tup1, r_tup2, r_tup3, r_tup4, r_tup5, r_tup6, r_lst0, r_lst1, r_lst2, r_lst3, r_lst4, r_lst5, r_bcM, r_lenT, r_lenL, List.length_map, r_tupT, r_tupL, r_lstT, r_lstL, r_int, r_ixM, r_ixT, r_ixL, r_ptM, r_slM, r_slT, r_slL, r_itT, r_itL, r_isi, r_add, r_sub, r_lt, r_le, r_gt, r_ge, r_isN, r_isntN, r_isB, r_isntB, nonNon, nonI, nonT, nonL, nonB, nonS, r_retF, r_endR, r_endN, r_iteF, r_seqN, r_seqR, r_seqB, r_seqC, r_forM, r_own, r_ownd, r_par, r_parN, r_parNN, r_eltT, r_eltF, r_elt, r_eq, r_ne, r_eqb, r_neb, compG_ret, compG_none, compG_retIf, compG_filt, eltM_ret, forL_G, forG_unit, forG_find, chainM_ret, chainT_ret, s_iteB, s_iteT, s_comp, s_all, s_any, s_sum, max2_ok, min2_ok, s_zipL, s_zipT, zipT_map, s_pat2, s_pat3, s_app, s_extL, s_extT, s_count, s_atR, s_atC0, s_atC1, s_atC2, s_in_nats, s_nin_nats, List.map_map, Function.comp_apply, Bool.false_eq_true, if_true, if_false, ↓reduceIte, Bool.not_true, Bool.not_false, Bool.and_true, Bool.true_and, Bool.or_false, Bool.false_or, Bool.and_false, Bool.false_and, Bool.or_true, Bool.true_or, decide_true, decide_false, moments_of_ok h h3, e, period_of_ok h, e1, e2, e3]
    simp (disch := (first | assumption | (refine InP.mem ?_; assumption) | omega | solve_by_elim | (simp only [InP, decide_eq_true_eq, List.map_id', List.length_map, List.length_cons, List.length_nil, List.length_append, List.length_range, List.length_zip, List.length_tail, List.length_take, List.length_drop, rI_len, rng_len, mem_rI, List.mem_range] at *; omega) | (simp only [List.map_id']; assumption) | simp)) only [r_bnd, r_lift, r_op2, r_cmpT, r_asB, r_asI, r_valT, r_tru_bl, r_tru_int, r_tru_lst, r_tru_tup, r_tru_non, r_notT, r_andTt, r_andTf, r_andT, r_orTt, r_orTf, r_orT, r_andMt, r_andMf, r_andM, r_orMt, r_orMf, r_orM, r_notM, r_negM, r_negD, r_ifM, r_consM, r_tupM, r_lstM, r_tup0, r_tup1, r_tup2, r_tup3, r_tup4, r_tup5, r_tup6, r_lst0, r_lst1, r_lst2, r_lst3, r_lst4, r_lst5, r_bcM, r_lenT, r_lenL, List.length_map, r_tupT, r_tupL, r_lstT, r_lstL, r_int, r_ixM, r_ixT, r_ixL, r_ptM, r_slM, r_slT, r_slL, r_itT, r_itL, r_isi, r_add, r_sub, r_lt, r_le, r_gt, r_ge, r_isN, r_isntN, r_isB, r_isntB, nonNon, nonI, nonT, nonL, nonB, nonS, r_retF, r_endR, r_endN, r_iteF, r_seqN, r_seqR, r_seqB, r_seqC, r_forM, r_own, r_ownd, r_par, r_parN, r_parNN, r_eltT, r_eltF, r_elt, r_eq, r_ne, r_eqb, r_neb, compG_ret, compG_none, compG_retIf, compG_filt, eltM_ret, forL_G, forG_unit, forG_find, chainM_ret, chainT_ret, s_iteB, s_iteT, s_comp, s_all, s_any, s_sum, max2_ok, min2_ok, s_zipL, s_zipT, zipT_map, s_pat2, s_pat3, s_app, s_extL, s_extT, s_count, s_atR, s_atC0, s_atC1, s_atC2, s_in_nats, s_nin_nats, List.map_map, Function.comp_apply, Bool.false_eq_true, if_true, if_false, ↓reduceIte, Bool.not_true, Bool.not_false, Bool.and_true, Bool.true_and, Bool.or_false, Bool.false_or, Bool.and_false, Bool.false_and, Bool.or_true, Bool.true_or, decide_true, decide_false, nL, s_max]
    rfl
end Lw

namespace Lw
open PySem PySem.Spec PyProof.Rows L2 Sn
/-! ### the judges, for any plain value -/
def okN (hi : Int) : D → Bool
  | .int i => decide (1 ≤ i ∧ i ≤ hi)
  | _ => false
def okR : D → Bool
  | .tup xs => decide (1 ≤ xs.length ∧ xs.length ≤ 12) && xs.all (okN 200)
  | _ => false
def okM : D → Bool
  | .tup xs => decide (1 ≤ xs.length ∧ xs.length ≤ 4) && xs.all okR
  | _ => false
theorem okR_tup (xs : List D) : okR (.tup xs) = (decide (1 ≤ xs.length ∧ xs.length ≤ 12) && xs.all (okN 200)) := rfl
theorem okM_tup (xs : List D) : okM (.tup xs) = (decide (1 ≤ xs.length ∧ xs.length ≤ 4) && xs.all okR) := rfl
theorem chM (i lo hi : Int) : (chainM leD leD (ret (.int lo)) (ret (.int i)) (ret (.int hi)) : M Bx D) = ret (.bl (decide (lo ≤ i ∧ i ≤ hi))) := by
  unfold chainM
  simp only [r_bnd, r_le, r_lift, r_asB]
  by_cases h : lo ≤ i
  · simp [h]
  · simp [h]
theorem chT (i lo hi : Int) : (chainT leD leD (ret (.int lo)) (ret (.int i)) (ret (.int hi)) : M Bx Bool) = ret (decide (lo ≤ i ∧ i ≤ hi)) := by
  unfold chainT
  simp only [r_bnd, r_le, r_lift, r_asB]
  by_cases h : lo ≤ i
  · simp [h]
  · simp [h]
theorem is_number_ok {n : Nat} {d : D} (h : Pb n d) (hi : Int) : m_is_number [d, .int 1, .int hi] = ret (.bl (okN hi d)) := by
  show bnd (b_is_number d (.int 1) (.int hi)) endF = _
  unfold b_is_number
  cases h with
  | non => simp [okN]
  | bl b => simp [okN]
  | int i => simp [okN, chM]
  | str h => simp [okN]
  | tup h hl => simp [okN]
  | lst h hl => simp [okN]
theorem law_number_ok {n : Nat} {d : D} (h : Pb n d) (hi : Int) : (andM (isiM "int" (ret d)) (andM (notM (isiM "bool" (ret d))) (chainM leD leD (ret (.int 1)) (ret d) (ret (.int hi)))) : M Bx D) = ret (.bl (okN hi d)) := by
  cases h with
  | non => simp [okN]
  | bl b => simp [okN]
  | int i => simp [okN, chM]
  | str h => simp [okN]
  | tup h hl => simp [okN]
  | lst h hl => simp [okN]
theorem all_items {xs : List D} (hl : xs.length < 16777216) (p : D → Bool) (f : D → M Bx (Option D)) (h : ∀ x ∈ xs, f x = ret (some (.bl (p x)))) (d : D) (hd : d = .tup xs) :
    (bcM allD (consM (compM (itM (ret d)) f) (ret [])) : M Bx D) = ret (.bl (xs.all p)) := by
  subst hd
  rw [r_itT, comp_ok (by omega), compL_all (fun x => D.bl (p x)) h]
  have e : (xs.map fun x => D.bl (p x)) = (xs.map p).map D.bl := by rw [List.map_map]; rfl
  simp only [r_bnd, r_consM, r_bcM, e, all_bls, r_lift, List.all_map]
  rfl
theorem is_reel_ok {n : Nat} {d : D} (h : Pb n d) : m_is_reel [d] = ret (.bl (okR d)) := by
  show bnd (b_is_reel d) endF = _
  unfold b_is_reel
  cases h with
  | non => simp [okR]
  | bl b => simp [okR]
  | int i => simp [okR]
  | str h => simp [okR]
  | lst h hl => simp [okR]
  | @tup n xs h hl =>
    simp only [r_isi, i_tuple_tuple, r_lift, r_valT, r_tru_bl, r_notT, r_consM, r_bcM, r_lenT, chT, Bool.not_true, r_orTf, r_iteF]
    have e := all_items hl (okN 200) (fun sticker_6 => (eltM (ret true) (bnd (consM (ret sticker_6) (consM (ret (.int 1)) (consM (ret (.int 200)) (ret [])))) m_is_number))) (fun x hx => by rw [r_consM, r_consM, r_consM, r_bnd, is_number_ok (h x hx), r_eltT, r_bnd]) _ rfl
    simp only [r_consM, r_bcM] at e
    rw [e, okR_tup]
    by_cases c : 1 ≤ xs.length ∧ xs.length ≤ 12
    · have c2 : (1 : Int) ≤ (xs.length : Int) ∧ (xs.length : Int) ≤ 12 := by omega
      simp [c, c2]
    · have c2 : ¬ ((1 : Int) ≤ (xs.length : Int) ∧ (xs.length : Int) ≤ 12) := by omega
      rw [decide_eq_false c2, decide_eq_false c]; simp
theorem is_machine_ok {n : Nat} {d : D} (h : Pb n d) : m_is_machine [d] = ret (.bl (okM d)) := by
  show bnd (b_is_machine d) endF = _
  unfold b_is_machine
  cases h with
  | non => simp [okM]
  | bl b => simp [okM]
  | int i => simp [okM]
  | str h => simp [okM]
  | lst h hl => simp [okM]
  | @tup n xs h hl =>
    simp only [r_isi, i_tuple_tuple, r_lift, r_valT, r_tru_bl, r_notT, r_consM, r_bcM, r_lenT, chT, Bool.not_true, r_orTf, r_iteF]
    have e := all_items hl okR (fun reel_9 => (eltM (ret true) (bnd (consM (ret reel_9) (ret [])) m_is_reel))) (fun x hx => by rw [r_consM, r_bnd, is_reel_ok (h x hx), r_eltT, r_bnd]) _ rfl
    simp only [r_consM, r_bcM] at e
    rw [e, okM_tup]
    by_cases c : 1 ≤ xs.length ∧ xs.length ≤ 4
    · have c2 : (1 : Int) ≤ (xs.length : Int) ∧ (xs.length : Int) ≤ 4 := by omega
      simp [c, c2]
    · have c2 : ¬ ((1 : Int) ≤ (xs.length : Int) ∧ (xs.length : Int) ≤ 4) := by omega
      rw [decide_eq_false c2, decide_eq_false c]; simp
theorem wp_andT {n k : M Bx Bool} {P : Bool → Prop} (h : Wp n fun t => Wp (if t = true then k else ret false) P) : Wp (andT n k) P := Wp.bnd h
/-! ### _law_machine -/
def ReelI (r : List Int) : Prop := 1 ≤ r.length ∧ r.length ≤ 12 ∧ ∀ x ∈ r, 1 ≤ x ∧ x ≤ 40
def MachI (rs : List (List Int)) : Prop := 1 ≤ rs.length ∧ rs.length ≤ 3 ∧ ∀ r ∈ rs, ReelI r
theorem MachI.good {rs : List (List Int)} (h : MachI rs) : Good rs := ⟨by have := h.2.1; omega, fun r hr => by have := h.2.2 r hr; exact ⟨by have := this.1; omega, this.2.1⟩⟩
/-- data that are ints of a kind -/
theorem ints_of {Q : Int → Prop} : ∀ {ys : List D}, (∀ y ∈ ys, ∃ i : Int, y = .int i ∧ Q i) → ∃ w : List Int, ys = w.map .int ∧ ∀ x ∈ w, Q x
  | [], _ => ⟨[], rfl, fun _ h => by cases h⟩
  | y :: ys, h => by
    obtain ⟨w, e, hw⟩ := ints_of fun z hz => h z (List.mem_cons_of_mem _ hz)
    obtain ⟨i, e2, hi⟩ := h y List.mem_cons_self
    refine ⟨i :: w, by rw [e, e2]; rfl, fun x hx => ?_⟩
    rcases List.mem_cons.mp hx with rfl | hx
    · exact hi
    · exact hw x hx
theorem reel_wp (j : Int) (j1 : 0 ≤ j) (j2 : j < 3) : Wp (bcM tupleD (consM (compM (rng1M (op2M addD (ret (.int 1)) (bnd (consM (ret .box) (consM (ret (.int 4)) (ret []))) m_draw))) fun k_58 => (eltM (ret true) (op2M addD (op2M addD (op2M mulD (ret (.int 10)) (ret (.int j))) (ret (.int 1))) (bnd (consM (ret .box) (consM (ret (.int 4)) (ret []))) m_draw)))) (ret []))) fun d => ∃ w, d = tI w ∧ 1 ≤ w.length ∧ w.length ≤ 6 ∧ ∀ x ∈ w, 1 ≤ x ∧ x ≤ 40 := by
  refine Wp.bc (Wp.cons (Wp.compM (Wp.rng1 (Wp.op2 (Wp.ret (Wp.drawc (by decide) (by decide) fun n n1 n2 => ⟨_, r_add _ _, _, rfl, ⟨by omega, by omega⟩, by rw [rng_len]; omega, ?_⟩))))))
  have em : (op2M addD (op2M mulD (ret (.int 10)) (ret (.int j))) (ret (.int 1)) : M Bx D) = ret (.int (10 * j + 1)) := by
    rw [r_op2, mul_ok (.inr ⟨by omega, by omega⟩), r_lift, r_op2, r_add, r_lift]
  rw [em]
  refine Wp.comp (R := fun _ y => ∃ i : Int, y = .int i ∧ (1 ≤ i ∧ i ≤ 40)) (fun x _ => Wp.elt (Wp.op2 (Wp.ret (Wp.drawc (by decide) (by decide) fun n n1 n2 => ⟨_, r_add _ _, _, rfl, _, rfl, by omega⟩)))) fun ys hl hr => ?_
  rw [rng_len] at hl
  obtain ⟨w, e, hw⟩ := ints_of (ys := ys) (Q := fun i => 1 ≤ i ∧ i ≤ 40) fun y hy => by
    obtain ⟨i, hi, rfl⟩ := List.mem_iff_getElem.mp hy
    exact hr i _ _ (List.getElem?_eq_getElem (by rw [rng_len]; omega)) (List.getElem?_eq_getElem hi)
  subst e
  rw [List.length_map] at hl
  exact Wp.ret ⟨_, rfl, w, rfl, by omega, by omega, hw⟩
theorem law_machine_wp : Wp (m__law_machine [.box, .int 3, .int 4, .int 4]) fun d => ∃ rs, d = mD rs ∧ MachI rs := by
  show Wp (bnd (b__law_machine .box (.int 3) (.int 4) (.int 4)) endF) _
  unfold b__law_machine
  have e0 : (lstM (ret []) : M Bx D) = ret (.lst ([].map tI)) := by simp [lstM, lstD_le]
  rw [e0]
  refine Wp.bnd (Wp.own (Wp.ret ⟨rfl, Wp.bnd (Wp.rng1 (Wp.op2 (Wp.ret (Wp.drawc (by decide) (by decide) fun n n1 n2 => ⟨_, r_add _ _, _, rfl, ⟨by omega, by omega⟩, ?_⟩))))⟩))
  refine Wp.forI (fun pre s => ∃ rs : List (List Int), s = .lst (rs.map tI) ∧ rs.length = pre.length ∧ ∀ r ∈ rs, ReelI r) ⟨[], rfl, rfl, fun _ h => by cases h⟩ (fun pre x post s hx hI => ?_) fun s hI => ?_
  · obtain ⟨rs, rfl, hl, hr⟩ := hI
    have hm : x ∈ rng 0 (1 + n) := by rw [hx]; simp
    have hpl : pre.length ≤ 3 := by
      have := congrArg List.length hx
      rw [rng_len, List.length_append] at this
      omega
    obtain ⟨j, rfl, j1, j2⟩ := mem_rng.mp hm
    refine Wp.bnd ((reel_wp j j1 (by omega)).mono fun d ⟨w, e, w1, w2, w3⟩ => ?_)
    subst e
    have fin : ∀ w' : List Int, ReelI w' → Wp (appM (.lst (rs.map tI)) (ret (tI w')) fun found_57 => (ret (.nx found_57) : M Bx (Fl D D))) fun fl => ∃ s', fl = .nx s' ∧ ∃ rs' : List (List Int), s' = .lst (rs'.map tI) ∧ rs'.length = (pre ++ [D.int j]).length ∧ ∀ r ∈ rs', ReelI r := fun w' hw' =>
      Wp.eq (Sn.app_ok (by rw [List.length_map]; omega)) (Wp.ret ⟨_, rfl, rs ++ [w'], by rw [List.map_append]; rfl, by simp [hl], fun r hr' => by
        rcases List.mem_append.mp hr' with h | h
        · exact hr r h
        · rw [List.mem_singleton.mp h]; exact hw'⟩)
    refine Wp.iteN (wp_andT (Wp.cmp (Wp.drawc (by decide) (by decide) fun c _ _ => Wp.ret ⟨_, r_eq _ _, ?_⟩)))
    have same : Wp (ret (.nx (tI w)) : M Bx (Fl D D)) fun f => ∃ s, f = .nx s ∧ Wp (appM (.lst (rs.map tI)) (ret s) fun found_57 => (ret (.nx found_57) : M Bx (Fl D D))) fun fl => ∃ s', fl = .nx s' ∧ ∃ rs' : List (List Int), s' = .lst (rs'.map tI) ∧ rs'.length = (pre ++ [D.int j]).length ∧ ∀ r ∈ rs', ReelI r := Wp.ret ⟨_, rfl, fin w ⟨w1, by omega, w3⟩⟩
    cases decide (c = 0) with
    | false => exact Wp.ret same
    | true =>
      have ec : (cmpT leD (op2M mulD (ret (.int 2)) (bcM lenD (consM (ret (tI w)) (ret [])))) (ret (.int 12)) : M Bx Bool) = ret (decide ((2 : Int) * w.length ≤ 12)) := by
        rw [len_ok, r_op2, mul_ok (.inr ⟨by omega, by omega⟩), r_lift, r_cmpT, r_le, r_lift, r_bnd, r_asB]
      rw [if_pos rfl, ec]
      refine Wp.ret ?_
      by_cases c2 : (2 : Int) * w.length ≤ 12
      · rw [decide_eq_true c2, if_pos rfl]
        have ea : (op2M addD (ret (tI w)) (ret (tI w)) : M Bx D) = ret (tI (w ++ w)) := by
          unfold tI
          rw [r_op2, addT_ok (by rw [List.length_map]; omega), r_lift, List.map_append]
        rw [ea]
        exact Wp.bnd (Wp.ret (Wp.ret ⟨_, rfl, fin (w ++ w) ⟨by rw [List.length_append]; omega, by rw [List.length_append]; omega, fun x hx => by
          rcases List.mem_append.mp hx with h | h <;> exact w3 x h⟩⟩))
      · rw [decide_eq_false c2]
        exact same
  · obtain ⟨rs, rfl, hl, hr⟩ := hI
    rw [rng_len] at hl
    refine Wp.retF (Wp.bc (Wp.cons (Wp.ret (Wp.ret ⟨_, rfl, Wp.ret ⟨rs, rfl, by omega, by omega, hr⟩⟩))))
theorem pb_mD {rs : List (List Int)} (h : Good rs) : Pb 2 (mD rs) := .tup (fun x hx => by
  obtain ⟨r, hr, rfl⟩ := List.mem_map.mp hx
  exact .tup (fun y hy => by obtain ⟨i, _, rfl⟩ := List.mem_map.mp hy; exact .int i) (by rw [List.length_map]; have := (h.2 r hr).2; omega)) (by rw [List.length_map]; have := h.1; omega)
theorem pb_tI {n : Nat} (w : List Int) (h : w.length < 1000000) : Pb (n + 1) (tI w) := .tup (fun y hy => by obtain ⟨i, _, rfl⟩ := List.mem_map.mp hy; exact .int i) (by rw [List.length_map]; omega)
theorem okM_mD {rs : List (List Int)} (h : MachI rs) : okM (mD rs) = true := by
  unfold mD
  rw [okM_tup, Bool.and_eq_true, decide_eq_true_eq, List.length_map, List.all_eq_true]
  refine ⟨⟨h.1, by have := h.2.1; omega⟩, fun x hx => ?_⟩
  obtain ⟨r, hr, rfl⟩ := List.mem_map.mp hx
  obtain ⟨h1, h2, h3⟩ := h.2.2 r hr
  unfold tI
  rw [okR_tup, Bool.and_eq_true, decide_eq_true_eq, List.length_map, List.all_eq_true]
  refine ⟨⟨h1, h2⟩, fun y hy => ?_⟩
  obtain ⟨i, hi, rfl⟩ := List.mem_map.mp hy
  have := h3 i hi
  exact decide_eq_true (by omega)
end Lw

namespace Sn
open PySem PySem.Spec PyProof.Rows L2
/-! ### sorted(dict([(x, ..) for x in xs])): the members once each, in order -/
/-- the members, once each -/
def dedI {α : Type} [DecidableEq α] (xs : List α) : List α := xs.foldr (fun x acc => if x ∈ acc then acc else x :: acc) []
theorem dedI_cons {α : Type} [DecidableEq α] (x : α) (xs : List α) : dedI (x :: xs) = if x ∈ dedI xs then dedI xs else x :: dedI xs := rfl
theorem mem_dedI {α : Type} [DecidableEq α] {xs : List α} {x : α} : x ∈ dedI xs ↔ x ∈ xs := by
  induction xs with
  | nil => exact Iff.rfl
  | cons y xs ih =>
    rw [dedI_cons]
    split
    · rename_i h
      rw [ih, List.mem_cons]
      constructor
      · exact .inr
      · rintro (rfl | h2)
        · exact ih.mp h
        · exact h2
    · rw [List.mem_cons, List.mem_cons, ih]
theorem nodup_dedI {α : Type} [DecidableEq α] (xs : List α) : (dedI xs).Nodup := by
  induction xs with
  | nil => exact .nil
  | cons y xs ih =>
    rw [dedI_cons]
    split
    · exact ih
    · rename_i h
      exact List.nodup_cons.mpr ⟨h, ih⟩
/-- .. ascending -/
def uniqI (xs : List Int) : List Int := sortI (dedI xs)
theorem mem_uniqI {xs : List Int} {x : Int} : x ∈ uniqI xs ↔ x ∈ xs := by unfold uniqI; rw [mem_sortI, mem_dedI]
theorem uniqI_lt (xs : List Int) : (uniqI xs).Pairwise (· < ·) := by
  have h1 := sortI_le (dedI xs)
  have h2 : (sortI (dedI xs)).Nodup := (sortI_perm (dedI xs)).nodup_iff.mpr (nodup_dedI xs)
  unfold uniqI
  exact (h1.and h2).imp fun ⟨a, b⟩ => by omega
theorem uniqI_of {ks xs : List Int} (h : ks.Nodup) (m : ∀ x, x ∈ ks ↔ x ∈ xs) : sortI ks = uniqI xs := sortI_ext h (nodup_dedI xs) fun x => by rw [m, mem_dedI]
theorem asKV_map {α : Type} (k : α → Int) (v : α → D) : ∀ xs : List α, asKV (xs.map fun x => .tup [.int (k x), v x]) = some (xs.map fun x => (.inl (k x), v x))
  | [] => rfl
  | x :: xs => by
    rw [List.map_cons]
    show (kq (.int (k x))).bind (fun q => (asKV (xs.map fun x => .tup [.int (k x), v x])).map fun r => (q, v x) :: r) = _
    rw [asKV_map k v xs]
    rfl
theorem dput_keys {α : Type} (k : α → Int) (v : α → D) : ∀ (xs : List α) (ds : List (D × D)) (ks pre : List Int), ds.map (·.1) = ks.map D.int → ks.Nodup → (∀ x, x ∈ ks ↔ x ∈ pre) →
    ∃ (ds' : List (D × D)) (ks' : List Int), ((xs.map fun x => ((.inl (k x) : Key), v x)).foldl (fun acc p => dput acc p.1 p.2) ds) = ds' ∧ ds'.map (·.1) = ks'.map D.int ∧ ks'.Nodup ∧ (∀ x, x ∈ ks' ↔ x ∈ pre ++ xs.map k)
  | [], ds, ks, pre, h1, h2, h3 => ⟨ds, ks, rfl, h1, h2, by simpa using h3⟩
  | x :: xs, ds, ks, pre, h1, h2, h3 => by
    rw [List.map_cons, List.foldl_cons]
    have hk := keys_dput (ds := ds) (k := .inl (k x)) (v := v x)
    by_cases hx : k x ∈ ks
    · have : (dget ds (.inl (k x))).isSome = true := by
        cases q : dget ds (.inl (k x)) with
        | some _ => rfl
        | none =>
          rw [dget_none, List.any_eq_false] at q
          have : D.int (k x) ∈ ds.map (·.1) := by rw [h1]; exact List.mem_map.mpr ⟨_, hx, rfl⟩
          obtain ⟨p, hp, e⟩ := List.mem_map.mp this
          have := q p hp
          rw [e] at this
          exact absurd (decide_eq_true (rfl : kq (D.int (k x)) = some (Sum.inl (k x)))) this
      rw [if_pos this] at hk
      have hm : ∀ y, y ∈ ks ↔ y ∈ pre ++ [k x] := fun y => by
        rw [h3 y, List.mem_append, List.mem_singleton]
        constructor
        · exact .inl
        · rintro (h | rfl)
          · exact h
          · exact (h3 _).mp hx
      obtain ⟨ds', ks', e1, e2, e3, e4⟩ := dput_keys k v xs (dput ds (.inl (k x)) (v x)) ks (pre ++ [k x]) (hk.trans h1) h2 hm
      exact ⟨ds', ks', e1, e2, e3, fun y => by rw [e4 y, List.append_assoc]; rfl⟩
    · have : ¬ (dget ds (.inl (k x))).isSome = true := by
        intro q
        cases q2 : dget ds (.inl (k x)) with
        | none => rw [q2] at q; cases q
        | some w =>
          unfold dget at q2
          obtain ⟨p, hp, _⟩ := Option.map_eq_some_iff.mp q2
          have hm := List.mem_of_find?_eq_some hp
          have hq : kq p.1 = some (Sum.inl (k x)) := by simpa using List.find?_some hp
          have he := keyD_of hq
          have : p.1 ∈ ds.map (·.1) := List.mem_map.mpr ⟨p, hm, rfl⟩
          rw [h1] at this
          obtain ⟨z, hz, ez⟩ := List.mem_map.mp this
          rw [← ez] at hq
          have : z = k x := by simpa [kq] using hq
          exact hx (this ▸ hz)
      rw [if_neg this] at hk
      obtain ⟨ds', ks', e1, e2, e3, e4⟩ := dput_keys k v xs (dput ds (.inl (k x)) (v x)) (ks ++ [k x]) (pre ++ [k x]) (by rw [hk, h1, List.map_append]; rfl) (by
        rw [List.nodup_append]
        exact ⟨h2, by simp, fun a ha b hb e => by rw [List.mem_singleton] at hb; subst hb; subst e; exact hx ha⟩) (fun y => by rw [List.mem_append, List.mem_append, h3 y])
      exact ⟨ds', ks', e1, e2, e3, fun y => by rw [e4 y, List.append_assoc]; rfl⟩
/-- dict([(k x, v x) for x in xs]) -/
def dctI {α : Type} (k : α → Int) (v : α → D) (xs : List α) : List (D × D) := (xs.map fun x => ((.inl (k x) : Key), v x)).foldl (fun acc p => dput acc p.1 p.2) []
theorem dict_map {α : Type} (k : α → Int) (v : α → D) (xs : List α) : dictD [.lst (xs.map fun x => .tup [.int (k x), v x])] = some (.dct (dctI k v xs)) := by
  show (asKV _).map _ = _
  rw [asKV_map, Option.map_some]
  rfl
theorem sorted_dctI {α : Type} (k : α → Int) (v : α → D) (xs : List α) (h : (uniqI (xs.map k)).length < 64) : sortedD [.dct (dctI k v xs)] = some (.lst ((uniqI (xs.map k)).map .int)) := by
  obtain ⟨ds', ks', e1, e2, e3, e4⟩ := dput_keys k v xs [] [] [] rfl .nil fun _ => Iff.rfl
  rw [List.nil_append] at e4
  have eu := uniqI_of e3 e4
  show (asInts ((dctI k v xs).map (·.1))).bind _ = _
  rw [show dctI k v xs = ds' from e1, e2, asInts_map, Option.bind_some, if_pos (by
    have h1 := congrArg List.length eu
    rw [(sortI_perm ks').length_eq] at h1
    omega), eu]
/-! ### rules for whatever the box gives -/
section
variable {S : Type} {α β : Type} {τ l τ' l' : Type}
theorem Wp.val {m : M S α} {v : α} {k : α → M S β} {P : β → Prop} (h : m = Sn.ret v) (q : Wp (k v) P) : Wp (Sn.bnd m k) P := Wp.bnd (Wp.eq h (Wp.ret q))
theorem Wp.off {n : M S Bool} {mA : M S (Fl τ' l)} {s : τ'} {k : τ' → M S (Fl τ l)} {P : Fl τ l → Prop} (h : n = Sn.ret false) (q : Wp (k s) P) : Wp (iteF n mA (Sn.ret (.nx s)) k) P := by
  subst h
  exact q
theorem Wp.ownV {m : M S D} {d : D} {k : D → M S (Fl τ l)} {P : Fl τ l → Prop} (h : m = Sn.ret d) (e : isMut d = true) (q : Wp (k d) P) : Wp (ownM m k) P := Wp.own (Wp.eq h (Wp.ret ⟨e, q⟩))
theorem Wp.parE {mu mv : M S D} {k : D → D → M S (Fl τ l)} {P : Fl τ l → Prop} (h : Wp mu fun d => Wp mv fun e => Wp (k d e) P) : Wp (parM .E .E mu mv k) P :=
  Wp.bnd (h.mono fun _ h => Wp.bnd (h.mono fun _ h => by rw [if_pos ⟨rfl, rfl⟩]; exact h))
theorem Wp.forN {f : Unit → D → M S (Fl Unit Unit)} {k : Unit → M S (Fl τ' l')} {mi : M S (List D)} {xs : List D} {P : Fl τ' l' → Prop} (hi : mi = Sn.ret xs) (h : ∀ x ∈ xs, Wp (f () x) fun fl => fl = .nx ()) (hk : Wp (k ()) P) : Wp (forM' mi f () k) P := by
  subst hi
  exact Wp.forU h hk
/-- .. some items of a comprehension, as draws have it -/
theorem Wp.compS {f : α → M S (Option β)} {R : β → Prop} : ∀ {xs : List α} {P : List β → Prop}, (∀ x ∈ xs, Wp (f x) fun o => ∀ y, o = some y → R y) → (∀ ys, ys.length ≤ xs.length → (∀ y ∈ ys, R y) → P ys) → Wp (compL f xs) P
  | [], P, _, q => Wp.ret (q [] (Nat.le_refl _) fun _ h => by cases h)
  | x :: xs, P, h, q => by
    rw [compL_cons]
    refine Wp.bnd (Wp.mono (h x List.mem_cons_self) fun o ho => ?_)
    refine Wp.bnd (Wp.compS (R := R) (fun z hz => h z (List.mem_cons_of_mem _ hz)) fun ys hl hr => Wp.ret ?_)
    cases o with
    | none => exact q ys (by rw [List.length_cons]; omega) hr
    | some y =>
      refine q (y :: ys) (by rw [List.length_cons, List.length_cons]; omega) fun z hz => ?_
      rcases List.mem_cons.mp hz with e | hz
      · rw [e]; exact ho _ rfl
      · exact hr z hz
theorem Wp.eltC {n : M S Bool} {m : M S D} {P : Option D → Prop} (h : Wp n fun b => if b = true then Wp m fun y => P (some y) else P none) : Wp (eltM n m) P :=
  Wp.bnd (h.mono fun b h => by
    cases b with
    | true => exact Wp.bnd ((show Wp m _ from h).mono fun _ p => Wp.ret p)
    | false => exact Wp.ret h)
theorem Wp.drawn {k : Int} {P : D → Prop} (h : 0 < k) (h2 : k < 1073741824) (q : ∀ d : Nat, (d : Int) < k → P (.int (d : Int))) : Wp (Sn.bnd (consM (Sn.ret .box) (consM (Sn.ret (.int k)) (Sn.ret []))) m_draw) P :=
  Wp.drawc h h2 fun d d1 d2 => by
    have := q d.toNat (by omega)
    rwa [Int.toNat_of_nonneg d1] at this
end
theorem nodup_len {α : Type} [DecidableEq α] : ∀ {a b : List α}, a.Nodup → (∀ x ∈ a, x ∈ b) → a.length ≤ b.length
  | [], _, _, _ => Nat.zero_le _
  | x :: a, b, h, m => by
    rw [List.nodup_cons] at h
    have hx := m x List.mem_cons_self
    have := nodup_len (a := a) (b := b.erase x) h.2 fun y hy => (List.mem_erase_of_ne (fun e : y = x => h.1 (by rw [← e]; exact hy))).mpr (m y (List.mem_cons_of_mem _ hy))
    rw [List.length_erase_of_mem hx] at this
    have := List.length_pos_of_mem hx
    rw [List.length_cons]
    omega
/-- a loop that appends -/
theorem forE_app {S α γ : Type} {τ' l' : Type} {enc : γ → D} (g : α → γ) {f : D → α → M S (Fl D D)} {k : D → M S (Fl τ' l')} : ∀ {xs : List α} (acc : List γ), acc.length + xs.length ≤ 16777216 →
    (∀ ls : List γ, ls.length < 16777216 → ∀ x ∈ xs, f (.lst (ls.map enc)) x = ret (.nx (.lst (ls.map enc ++ [enc (g x)])))) → forE f k xs (.lst (acc.map enc)) = k (.lst ((acc ++ xs.map g).map enc))
  | [], acc, _, _ => by rw [List.map_nil, List.append_nil]; rfl
  | x :: xs, acc, hl, h => by
    rw [List.length_cons] at hl
    show bnd (f (.lst (acc.map enc)) x) _ = _
    rw [h acc (by omega) x List.mem_cons_self, r_bnd]
    have := forE_app (k := k) g (xs := xs) (acc ++ [g x]) (by rw [List.length_append]; simp; omega) fun ls hls y hy => h ls hls y (List.mem_cons_of_mem _ hy)
    rw [List.map_append] at this
    rw [List.map_cons, show acc ++ g x :: xs.map g = acc ++ [g x] ++ xs.map g by simp]
    exact this
theorem Wp.pure {S τ l τ' l' : Type} {s : τ'} {m : (τ' → M S (Fl τ l)) → M S (Fl τ l)} {k : τ' → M S (Fl τ l)} {P : Fl τ l → Prop} (h : ∀ k, m k = k s) (q : Wp (k s) P) : Wp (m k) P := Wp.eq (h k) q
theorem Wp.forP {S τ τ' l' : Type} {mi : M S (List D)} {f : τ → D → M S (Fl τ τ)} {s0 s1 : τ} {k : τ → M S (Fl τ' l')} {P : Fl τ' l' → Prop} (h : ∀ k' : τ → M S (Fl τ' l'), forM' mi f s0 k' = k' s1) (q : Wp (k s1) P) : Wp (forM' mi f s0 k) P := Wp.eq (h k) q
/-- a search that finds at the first that does -/
def hitF {S τ l : Type} (k : τ) (o : Option D) : M S (Fl τ l) := match o with
  | some d => ret (.rt d)
  | none => ret (.nx k)
theorem forE_hit {S α : Type} {τ' l' : Type} (g : α → Option D) (k : Unit → M S (Fl τ' l')) (xs : List α) : forE (fun (_ : Unit) x => hitF () (g x)) k xs () = match xs.findSome? g with | some d => ret (.rt d) | none => k () := by
  induction xs with
  | nil => rfl
  | cons x xs ih =>
    show bnd (hitF () (g x)) _ = _
    rw [List.findSome?_cons]
    cases g x
    · exact ih
    · rfl
end Sn

namespace Lw
open PySem PySem.Spec PyProof.Rows L2 Sn
theorem gap_iff (e k : Nat) : ∀ (rest : List Nat) (a : Nat), (a :: rest).Pairwise (· < ·) → (∀ x ∈ a :: rest, x < e) →
    ((∀ t, a < t → t ≤ e → ∃ s ∈ rest ++ [e], t ≤ s ∧ s < t + k) ↔ ∀ p ∈ (a :: rest).zip (rest ++ [e]), p.2 ≤ p.1 + k)
  | [], a, hp, he => by
    have ha := he a List.mem_cons_self
    constructor
    · intro h p hm
      simp at hm
      subst hm
      obtain ⟨s, hs, h1, h2⟩ := h (a + 1) (by omega) (by omega)
      simp at hs
      subst hs
      show s ≤ a + k
      omega
    · intro h t h1 h2
      have := h (a, e) (by simp)
      exact ⟨e, by simp, h2, by simp at this; omega⟩
  | b :: r, a, hp, he => by
    have ha := he a List.mem_cons_self
    have hb := he b (by simp)
    rw [List.pairwise_cons] at hp
    have hab := hp.1 b List.mem_cons_self
    have ih := gap_iff e k r b hp.2 fun x hx => he x (List.mem_cons_of_mem _ hx)
    have hbr := (List.pairwise_cons.mp hp.2).1
    constructor
    · intro h
      have h1 : b ≤ a + k := by
        obtain ⟨s, hs, q1, q2⟩ := h (a + 1) (by omega) (by omega)
        have : b ≤ s := by
          simp only [List.cons_append, List.mem_cons, List.mem_append, List.not_mem_nil, or_false] at hs
          rcases hs with rfl | hs | rfl
          · omega
          · exact Nat.le_of_lt (hbr s hs)
          · omega
        omega
      have h2 := ih.mp fun t t1 t2 => by
        obtain ⟨s, hs, q1, q2⟩ := h t (by omega) t2
        refine ⟨s, ?_, q1, q2⟩
        rw [List.cons_append, List.mem_cons] at hs
        rcases hs with rfl | hs
        · omega
        · exact hs
      intro p hm
      rw [List.cons_append, List.zip_cons_cons, List.mem_cons] at hm
      rcases hm with rfl | hm
      · exact h1
      · exact h2 p hm
    · intro h t t1 t2
      have hm : (a, b) ∈ (a :: b :: r).zip (b :: r ++ [e]) := by rw [List.cons_append, List.zip_cons_cons]; exact List.mem_cons_self
      have h1 := h _ hm
      simp only at h1
      by_cases q : t ≤ b
      · exact ⟨b, by simp, q, by omega⟩
      · obtain ⟨s, hs, q1, q2⟩ := ih.mpr (fun p hp => h p (by rw [List.cons_append, List.zip_cons_cons]; exact List.mem_cons_of_mem _ hp)) t (by omega) t2
        exact ⟨s, List.mem_cons_of_mem _ hs, q1, q2⟩
theorem mem_stk {rs : List (List Int)} {t k : Nat} {x : Int} : x ∈ stk rs t k ↔ ∃ i, i < k ∧ x ∈ pk rs (t + i) := by
  unfold stk
  rw [List.mem_flatMap]
  constructor
  · rintro ⟨i, hi, h⟩; exact ⟨i, List.mem_range.mp hi, h⟩
  · rintro ⟨i, hi, h⟩; exact ⟨i, List.mem_range.mpr hi, h⟩
theorem mem_moms {rs : List (List Int)} {x : Int} {t : Nat} : t ∈ moms rs x ↔ t < Pd rs ∧ x ∈ pk rs t := by
  unfold moms
  rw [List.mem_filter, List.mem_range, decide_eq_true_eq]
theorem moms_lt (rs : List (List Int)) (x : Int) : (moms rs x).Pairwise (· < ·) := List.Pairwise.filter _ List.pairwise_lt_range
theorem pk_P {rs : List (List Int)} (h : Good rs) : PerI (pk rs) (Pd rs) := (pk_per h _).mpr (Nat.dvd_refl _)
theorem moms_ne {rs : List (List Int)} (h : Good rs) (h3 : rs.length ≤ 3) {x : Int} {t : Nat} (hx : x ∈ pk rs t) : moms rs x ≠ [] := by
  have : t % Pd rs ∈ moms rs x := mem_moms.mpr ⟨Nat.mod_lt _ (Pd_le h h3).1, by rw [(pk_P h).mod]; exact hx⟩
  intro e
  rw [e] at this
  cases this
/-- what comes again is there in each window of the length -/
theorem _root_.Sn.PerI.window {α : Type} {f : Nat → α} {p : Nat} (h : PerI f p) (hp : 0 < p) (t w : Nat) : ∃ u, w ≤ u ∧ u < w + p ∧ f u = f t := by
  have h1 : f (t + w * p) = f t := h.mul w t
  have hw : w ≤ t + w * p := by have := Nat.le_mul_of_pos_right w hp; omega
  have h2 : PerI (fun j => f (w + j)) p := fun j => by show f (w + (j + p)) = f (w + j); rw [← Nat.add_assoc, h]
  have h3 := h2.mod (t + w * p - w)
  refine ⟨w + (t + w * p - w) % p, by omega, by have := Nat.mod_lt (t + w * p - w) hp; omega, ?_⟩
  rw [← h1]
  have h4 : f (w + (t + w * p - w) % p) = f (w + (t + w * p - w)) := h3
  rw [h4]
  congr 1
  omega
theorem lw_iff {rs : List (List Int)} (h : Good rs) (h3 : rs.length ≤ 3) {x : Int} {t0 : Nat} (hx : x ∈ pk rs t0) (k : Nat) : (∀ t, x ∈ stk rs t k) ↔ lw rs x ≤ (k : Int) := by
  have hne := moms_ne h h3 hx
  obtain ⟨P0, P1⟩ := Pd_le h h3
  have hP := pk_P h
  have hp := moms_lt rs x
  unfold lw gaps
  cases e : moms rs x with
  | nil => exact absurd e hne
  | cons a rest =>
    rw [e] at hp
    have hm : ∀ t, t ∈ a :: rest ↔ t < Pd rs ∧ x ∈ pk rs t := fun t => by rw [← e]; exact mem_moms
    have ha := (hm a).mp List.mem_cons_self
    have hlt : ∀ y ∈ a :: rest, y < a + Pd rs := fun y hy => by have := ((hm y).mp hy).1; omega
    have g := gap_iff (a + Pd rs) k rest a hp hlt
    rw [maxL_iff (by
      have : ((a :: rest).zip ((a :: rest).tail ++ [(a :: rest).headD 0 + Pd rs])).length = rest.length + 1 := by simp
      intro q
      have := congrArg List.length q
      simp at this)]
    have e1 : (∀ y ∈ ((a :: rest).zip ((a :: rest).tail ++ [(a :: rest).headD 0 + Pd rs])).map (fun p => (p.2 : Int) - (p.1 : Int)), y ≤ (k : Int)) ↔ ∀ p ∈ (a :: rest).zip (rest ++ [a + Pd rs]), p.2 ≤ p.1 + k := by
      constructor
      · intro q p hp'
        have := q _ (List.mem_map.mpr ⟨p, hp', rfl⟩)
        omega
      · intro q y hy
        obtain ⟨p, hp', rfl⟩ := List.mem_map.mp hy
        have := q p hp'
        omega
    rw [e1, ← g]
    have hS : ∀ s, s ∈ rest ++ [a + Pd rs] → x ∈ pk rs s := fun s hs => by
      rcases List.mem_append.mp hs with hs | hs
      · exact ((hm s).mp (List.mem_cons_of_mem _ hs)).2
      · rw [List.mem_singleton] at hs
        rw [hs, hP]
        exact ha.2
    have hS2 : ∀ s, a < s → s ≤ a + Pd rs → x ∈ pk rs s → s ∈ rest ++ [a + Pd rs] := fun s s1 s2 s3 => by
      by_cases q : s < Pd rs
      · have := (hm s).mpr ⟨q, s3⟩
        rcases List.mem_cons.mp this with q2 | q2
        · omega
        · exact List.mem_append_left _ q2
      · have q3 : x ∈ pk rs (s - Pd rs) := by
          have := hP (s - Pd rs)
          rw [Nat.sub_add_cancel (by omega)] at this
          rw [← this]; exact s3
        have := (hm (s - Pd rs)).mpr ⟨by have := ha.1; omega, q3⟩
        have hle : a ≤ s - Pd rs := by
          rcases List.mem_cons.mp this with q2 | q2
          · omega
          · exact Nat.le_of_lt ((List.pairwise_cons.mp hp).1 _ q2)
        have : s = a + Pd rs := by omega
        rw [this]; simp
    constructor
    · intro q t t1 t2
      obtain ⟨i, hi, hxi⟩ := mem_stk.mp (q t)
      by_cases c : t + i ≤ a + Pd rs
      · exact ⟨t + i, hS2 _ (by omega) c hxi, by omega, by omega⟩
      · exact ⟨a + Pd rs, by simp, t2, by omega⟩
    · intro q t
      have hper : PerI (fun t => stk rs t k) (Pd rs) := fun t => by
        show stk rs (t + Pd rs) k = stk rs t k
        unfold stk
        congr 1
        funext i
        rw [show t + Pd rs + i = t + i + Pd rs by omega, hP]
      obtain ⟨u, u1, u2, u3⟩ := hper.window P0 t (a + 1)
      have u3' : stk rs u k = stk rs t k := u3
      rw [← u3']
      obtain ⟨s, s1, s2, s4⟩ := q u (by omega) (by omega)
      exact mem_stk.mpr ⟨s - u, by omega, by rw [show u + (s - u) = s by omega]; exact hS s s1⟩
/-- .. of told ones -/
def sure (rs : List (List Int)) (told : List Int) : Int := maxL (told.map (lw rs))
def There (rs : List (List Int)) (told : List Int) : Prop := told ≠ [] ∧ told.length ≤ 1000 ∧ ∀ x ∈ told, ∃ t, x ∈ pk rs t
theorem sure_iff {rs : List (List Int)} (h : Good rs) (h3 : rs.length ≤ 3) {told : List Int} (ht : There rs told) (k : Nat) : (∀ t, toldB rs told t k = true) ↔ sure rs told ≤ (k : Int) := by
  unfold sure
  rw [maxL_iff (by simpa using ht.1)]
  constructor
  · intro q y hy
    obtain ⟨x, hx, rfl⟩ := List.mem_map.mp hy
    obtain ⟨t0, h0⟩ := ht.2.2 x hx
    refine (lw_iff h h3 h0 k).mp fun t => ?_
    have := List.all_eq_true.mp (q t) x hx
    exact of_decide_eq_true this
  · intro q t
    refine List.all_eq_true.mpr fun x hx => decide_eq_true ?_
    obtain ⟨t0, h0⟩ := ht.2.2 x hx
    exact (lw_iff h h3 h0 k).mpr (q _ (List.mem_map.mpr ⟨x, hx, rfl⟩)) t
theorem sure_box_ok {rs : List (List Int)} (h : Good rs) (h3 : rs.length ≤ 3) {told : List Int} (ht : There rs told) : m_sure_box [mD rs, tI told] = ret (.int (sure rs told)) := by
  show bnd (b_sure_box (mD rs) (tI told)) endF = _
  unfold b_sure_box tI
  have hl := ht.2.1
  have hw : ∀ x ∈ told, m_longest_way [mD rs, .int x] = ret (.int (lw rs x)) := fun x hx => by
    obtain ⟨t, q⟩ := ht.2.2 x hx
    exact longest_way_ok h h3 x (moms_ne h h3 q)
  have hne := ht.1
  simp (disch := (first | assumption | (refine InP.mem ?_; assumption) | omega | solve_by_elim | (simp only [InP, decide_eq_true_eq, List.map_id', List.length_map, List.length_cons, List.length_nil, List.length_append, List.length_range, List.length_zip, List.length_tail, List.length_take, List.length_drop, rI_len, rng_len, mem_rI, List.mem_range] at *; omega) | (simp only [List.map_id']; assumption) | simp)) only [r_bnd, r_lift, r_op2, r_cmpT, r_asB, r_asI, r_valT, r_tru_bl, r_tru_int, r_tru_lst, r_tru_tup, r_tru_non, r_notT, r_andTt, r_andTf, r_andT, r_orTt, r_orTf, r_orT, r_andMt, r_andMf, r_andM, r_orMt, r_orMf, r_orM, r_notM, r_negM, r_negD, r_ifM, r_consM, r_tupM, r_lstM, r_tup0, r_tup1, r_tup2, r_tup3, r_tup4, r_tup5, r_tup6, r_lst0, r_lst1, r_lst2, r_lst3, r_lst4, r_lst5, r_bcM, r_lenT, r_lenL, List.length_map, r_tupT, r_tupL, r_lstT, r_lstL, r_int, r_ixM, r_ixT, r_ixL, r_ptM, r_slM, r_slT, r_slL, r_itT, r_itL, r_isi, r_add, r_sub, r_lt, r_le, r_gt, r_ge, r_isN, r_isntN, r_isB, r_isntB, nonNon, nonI, nonT, nonL, nonB, nonS, r_retF, r_endR, r_endN, r_iteF, r_seqN, r_seqR, r_seqB, r_seqC, r_forM, r_own, r_ownd, r_par, r_parN, r_parNN, r_eltT, r_eltF, r_elt, r_eq, r_ne, r_eqb, r_neb, compG_ret, compG_none, compG_retIf, compG_filt, eltM_ret, forL_G, forG_unit, forG_find, chainM_ret, chainT_ret, s_iteB, s_iteT, s_comp, s_all, s_any, s_sum, max2_ok, min2_ok, s_zipL, s_zipT, zipT_map, s_pat2, s_pat3, s_app, s_extL, s_extT, s_count, s_atR, s_atC0, s_atC1, s_atC2, s_in_nats, s_nin_nats, List.map_map, Function.comp_apply, Bool.false_eq_true, if_true, if_false, ↓reduceIte, Bool.not_true, Bool.not_false, Bool.and_true, Bool.true_and, Bool.or_false, Bool.false_or, Bool.and_false, Bool.false_and, Bool.or_true, Bool.true_or, decide_true, decide_false, hw, s_max]
  rfl
theorem sure_range {rs : List (List Int)} (h : Good rs) (h3 : rs.length ≤ 3) {told : List Int} (ht : There rs told) : 1 ≤ sure rs told ∧ sure rs told ≤ (Pd rs : Int) := by
  obtain ⟨P0, P1⟩ := Pd_le h h3
  constructor
  · have := (sure_iff h h3 ht 0)
    by_cases c : sure rs told ≤ 0
    · have q := this.mpr c 0
      cases e : told with
      | nil => exact absurd e ht.1
      | cons x r =>
        rw [e] at q
        have := List.all_eq_true.mp q x List.mem_cons_self
        simp [stk] at this
    · omega
  · refine (sure_iff h h3 ht _).mp fun t => List.all_eq_true.mpr fun x hx => decide_eq_true ?_
    obtain ⟨t0, h0⟩ := ht.2.2 x hx
    have hper : PerI (fun t => decide (x ∈ pk rs t)) (Pd rs) := fun t => by
      show decide (x ∈ pk rs (t + Pd rs)) = _
      rw [pk_P h]
    obtain ⟨u, u1, u2, u3⟩ := hper.window P0 t0 t
    have u4 : decide (x ∈ pk rs u) = decide (x ∈ pk rs t0) := u3
    rw [decide_eq_true h0] at u4
    exact mem_stk.mpr ⟨u - t, by omega, by rw [show t + (u - t) = u by omega]; exact of_decide_eq_true u4⟩
end Lw

namespace Lw
open PySem PySem.Spec PyProof.Rows L2 Sn
def full (rs : List (List Int)) (told : List Int) (k : Nat) : List Nat := (List.range (Pd rs)).filter fun t => toldB rs told t k
theorem find_head {α : Type} (p : α → Bool) : ∀ xs : List α, xs.find? p = (xs.filter p).head?
  | [] => rfl
  | x :: xs => by
    rw [List.find?_cons, List.filter_cons]
    cases p x
    · exact find_head p xs
    · rfl
theorem least_box_ok {rs : List (List Int)} (h : Good rs) (h3 : rs.length ≤ 3) {told : List Int} (ht : There rs told) {f t0 : Nat} {r : List Nat} (hf : (f : Int) < sure rs told) (h0 : full rs told (f + 1) = t0 :: r) (hm : ∀ s, s < f → full rs told (s + 1) = []) :
    m_least_box [mD rs, tI told] = ret (.tup [.int t0, .int ((f : Int) + 1)]) := by
  show bnd (b_least_box (mD rs) (tI told)) endF = _
  unfold b_least_box
  obtain ⟨P0, P1⟩ := Pd_le h h3
  obtain ⟨s1, s2⟩ := sure_range h h3 ht
  obtain ⟨n, hn⟩ : ∃ n : Nat, sure rs told = (n : Int) := ⟨_, (Int.toNat_of_nonneg (by omega)).symm⟩
  have hl := ht.2.1
  have hh : ∀ (t k : Nat), t < Pd rs → k ≤ n → m_has_told [mD rs, tI told, .int t, .int k] = ret (.bl (toldB rs told t k)) := fun t k q1 q2 => has_told_ok h told hl t k (by omega) (by omega)
  have hu : ∀ k ∈ (List.range n).map (· + 1), k ≤ n := fun k hk => (mem_up1.mp hk).2
  simp (disch := (first | assumption | (refine InP.mem ?_; assumption) | omega | solve_by_elim | (simp only [InP, decide_eq_true_eq, List.map_id', List.length_map, List.length_cons, List.length_nil, List.length_append, List.length_range, List.length_zip, List.length_tail, List.length_take, List.length_drop, rI_len, rng_len, mem_rI, List.mem_range] at *; omega) | (simp only [List.map_id']; assumption) | simp)) only [r_bnd, r_lift, r_op2, r_cmpT, r_asB, r_asI, r_valT, r_tru_bl, r_tru_int, r_tru_lst, r_tru_tup, r_tru_non, r_notT, r_andTt, r_andTf, r_andT, r_orTt, r_orTf, r_orT, r_andMt, r_andMf, r_andM, r_orMt, r_orMf, r_orM, r_notM, r_negM, r_negD, r_ifM, r_consM, r_tupM, r_lstM, r_tup0, r_tup1, r_tup2, r_tup3, r_tup4, r_tup5, r_tup6, r_lst0, r_lst1, r_lst2, r_lst3, r_lst4, r_lst5, r_bcM, r_lenT, r_lenL, List.length_map, r_tupT, r_tupL, r_lstT, r_lstL, r_int, r_ixM, r_ixT, r_ixL, r_ptM, r_slM, r_slT, r_slL, r_itT, r_itL, r_isi, r_add, r_sub, r_lt, r_le, r_gt, r_ge, r_isN, r_isntN, r_isB, r_isntB, nonNon, nonI, nonT, nonL, nonB, nonS, r_retF, r_endR, r_endN, r_iteF, r_seqN, r_seqR, r_seqB, r_seqC, r_forM, r_own, r_ownd, r_par, r_parN, r_parNN, r_eltT, r_eltF, r_elt, r_eq, r_ne, r_eqb, r_neb, compG_ret, compG_none, compG_retIf, compG_filt, eltM_ret, forL_G, forG_unit, forG_find, chainM_ret, chainT_ret, s_iteB, s_iteT, s_comp, s_all, s_any, s_sum, max2_ok, min2_ok, s_zipL, s_zipT, zipT_map, s_pat2, s_pat3, s_app, s_extL, s_extT, s_count, s_atR, s_atC0, s_atC1, s_atC2, s_in_nats, s_nin_nats, List.map_map, Function.comp_apply, Bool.false_eq_true, if_true, if_false, ↓reduceIte, Bool.not_true, Bool.not_false, Bool.and_true, Bool.true_and, Bool.or_false, Bool.false_or, Bool.and_false, Bool.false_and, Bool.or_true, Bool.true_or, decide_true, decide_false, sure_box_ok h h3 ht, hn, rng2_ok, up_rng, period_of_ok h, rng1_ok, rng_nat]
  rw [forG_E, forE_congr (g := fun (_ : Unit) (k : Nat) => hitF () (((List.range (Pd rs)).find? fun t => toldB rs told t (k + 1)).map (fun t : Nat => D.tup [.int (t : Int), .int ((k + 1 : Nat) : Int)]))) rfl (fun _ k hk => by
    have hk := List.mem_range.mp hk
    simp (disch := (first | assumption | (refine InP.mem ?_; assumption) | omega | solve_by_elim | (simp only [InP, decide_eq_true_eq, List.map_id', List.length_map, List.length_cons, List.length_nil, List.length_append, List.length_range, List.length_zip, List.length_tail, List.length_take, List.length_drop, rI_len, rng_len, mem_rI, List.mem_range] at *; omega) | (simp only [List.map_id']; assumption) | simp)) only [r_bnd, r_lift, r_op2, r_cmpT, r_asB, r_asI, r_valT, r_tru_bl, r_tru_int, r_tru_lst, r_tru_tup, r_tru_non, r_notT, r_andTt, r_andTf, r_andT, r_orTt, r_orTf, r_orT, r_andMt, r_andMf, r_andM, r_orMt, r_orMf, r_orM, r_notM, r_negM, r_negD, r_ifM, r_consM, r_tupM, r_lstM, r_tup0, r_tup1, r_tup2, r_tup3, r_tup4, r_tup5, r_tup6, r_lst0, r_lst1, r_lst2, r_lst3, r_lst4, r_lst5, r_bcM, r_lenT, r_lenL, List.length_map, r_tupT, r_tupL, r_lstT, r_lstL, r_int, r_ixM, r_ixT, r_ixL, r_ptM, r_slM, r_slT, r_slL, r_itT, r_itL, r_isi, r_add, r_sub, r_lt, r_le, r_gt, r_ge, r_isN, r_isntN, r_isB, r_isntB, nonNon, nonI, nonT, nonL, nonB, nonS, r_retF, r_endR, r_endN, r_iteF, r_seqN, r_seqR, r_seqB, r_seqC, r_forM, r_own, r_ownd, r_par, r_parN, r_parNN, r_eltT, r_eltF, r_elt, r_eq, r_ne, r_eqb, r_neb, compG_ret, compG_none, compG_retIf, compG_filt, eltM_ret, forL_G, forG_unit, forG_find, chainM_ret, chainT_ret, s_iteB, s_iteT, s_comp, s_all, s_any, s_sum, max2_ok, min2_ok, s_zipL, s_zipT, zipT_map, s_pat2, s_pat3, s_app, s_extL, s_extT, s_count, s_atR, s_atC0, s_atC1, s_atC2, s_in_nats, s_nin_nats, List.map_map, Function.comp_apply, Bool.false_eq_true, if_true, if_false, ↓reduceIte, Bool.not_true, Bool.not_false, Bool.and_true, Bool.true_and, Bool.or_false, Bool.false_or, Bool.and_false, Bool.false_and, Bool.or_true, Bool.true_or, decide_true, decide_false, hh]
    cases (List.range (Pd rs)).find? fun t => toldB rs told t (k + 1) <;> rfl) (fun _ => rfl) rfl, forE_hit]
  have e : (List.range n).findSome? (fun k => ((List.range (Pd rs)).find? fun t => toldB rs told t (k + 1)).map fun t : Nat => D.tup [.int (t : Int), .int ((k + 1 : Nat) : Int)]) = some (.tup [.int t0, .int ((f : Int) + 1)]) := by
    rw [List.findSome?_eq_some_iff]
    refine ⟨List.range f, f, (List.range (n - f - 1)).map (f + 1 + ·), ?_, ?_, fun s hs => ?_⟩
    · have : List.range n = List.range (f + 1) ++ (List.range (n - f - 1)).map (f + 1 + ·) := by rw [← List.range_add]; congr 1; omega
      rw [this, List.range_succ, List.append_assoc]; rfl
    · rw [find_head]
      show (((full rs told (f + 1)).head?).map _) = _
      rw [h0]
      rfl
    · rw [find_head]
      show (((full rs told (s + 1)).head?).map _) = _
      rw [hm s (List.mem_range.mp hs)]
      rfl
  rw [e]
  rfl
/-- the first number of packets for which some box does, and the first for which all do -/
theorem full_all {rs : List (List Int)} (h : Good rs) (h3 : rs.length ≤ 3) {told : List Int} (ht : There rs told) (k : Nat) : (full rs told k).length = Pd rs ↔ sure rs told ≤ (k : Int) := by
  rw [← sure_iff h h3 ht]
  obtain ⟨P0, P1⟩ := Pd_le h h3
  have hl : (List.range (Pd rs)).length = Pd rs := List.length_range
  unfold full
  constructor
  · intro q t
    have q := List.length_filter_eq_length_iff.mp (q.trans hl.symm)
    have hper : PerI (fun t => toldB rs told t k) (Pd rs) := fun t => by
      show toldB rs told (t + Pd rs) k = toldB rs told t k
      unfold toldB
      congr 1
      funext x
      have : stk rs (t + Pd rs) k = stk rs t k := by
        unfold stk
        congr 1
        funext i
        rw [show t + Pd rs + i = t + i + Pd rs by omega, pk_P h]
      rw [this]
    have := hper.mod t
    have h2 : toldB rs told (t % Pd rs) k = toldB rs told t k := this
    rw [← h2]
    exact q _ (List.mem_range.mpr (Nat.mod_lt _ P0))
  · intro q
    rw [List.filter_eq_self.mpr fun t _ => q t, hl]
theorem first_is {rs : List (List Int)} (h : Good rs) (h3 : rs.length ≤ 3) {told : List Int} (ht : There rs told) : ∃ f t0 r r2, (List.range (Pd rs)).filter (fun s => decide (0 < (full rs told (s + 1)).length)) = f :: r2 ∧ (f : Int) < sure rs told ∧ full rs told (f + 1) = t0 :: r ∧ ∀ s, s < f → full rs told (s + 1) = [] := by
  obtain ⟨P0, P1⟩ := Pd_le h h3
  obtain ⟨s1, s2⟩ := sure_range h h3 ht
  obtain ⟨n, hn⟩ : ∃ n : Nat, sure rs told = (n : Int) := ⟨_, (Int.toNat_of_nonneg (by omega)).symm⟩
  have hs : (n - 1) ∈ (List.range (Pd rs)).filter (fun s => decide (0 < (full rs told (s + 1)).length)) := by
    rw [List.mem_filter, List.mem_range, decide_eq_true_eq]
    exact ⟨by omega, by rw [(full_all h h3 ht _).mpr (by omega)]; exact P0⟩
  have hp : ((List.range (Pd rs)).filter (fun s => decide (0 < (full rs told (s + 1)).length))).Pairwise (· < ·) := List.Pairwise.filter _ List.pairwise_lt_range
  cases e : (List.range (Pd rs)).filter (fun s => decide (0 < (full rs told (s + 1)).length)) with
  | nil => rw [e] at hs; cases hs
  | cons f r2 =>
    have hf : f ∈ (List.range (Pd rs)).filter (fun s => decide (0 < (full rs told (s + 1)).length)) := by rw [e]; exact List.mem_cons_self
    rw [List.mem_filter, List.mem_range, decide_eq_true_eq] at hf
    rw [e] at hs hp
    have hle : f ≤ n - 1 := by
      rcases List.mem_cons.mp hs with q | q
      · omega
      · exact Nat.le_of_lt ((List.pairwise_cons.mp hp).1 _ q)
    cases e2 : full rs told (f + 1) with
    | nil => rw [e2] at hf; exact absurd hf.2 (by simp)
    | cons t0 r =>
      refine ⟨f, t0, r, r2, rfl, by omega, e2, fun s hs' => ?_⟩
      cases e3 : full rs told (s + 1) with
      | nil => rfl
      | cons y ys =>
        have : s ∈ (List.range (Pd rs)).filter (fun s => decide (0 < (full rs told (s + 1)).length)) := by
          rw [List.mem_filter, List.mem_range, decide_eq_true_eq]
          exact ⟨by omega, by rw [e3]; simp⟩
        rw [e] at this
        rcases List.mem_cons.mp this with q | q
        · omega
        · have := (List.pairwise_cons.mp hp).1 _ q
          omega
theorem sure_is {rs : List (List Int)} (h : Good rs) (h3 : rs.length ≤ 3) {told : List Int} (ht : There rs told) : ∃ (n : Nat) (r : List Nat), sure rs told = (n : Int) + 1 ∧ n < Pd rs ∧ (List.range (Pd rs)).filter (fun s => decide ((full rs told (s + 1)).length = Pd rs)) = n :: r := by
  obtain ⟨P0, P1⟩ := Pd_le h h3
  obtain ⟨s1, s2⟩ := sure_range h h3 ht
  obtain ⟨n, hn⟩ : ∃ n : Nat, sure rs told = (n : Int) + 1 := ⟨(sure rs told - 1).toNat, by omega⟩
  obtain ⟨r, hr⟩ := hd_filter (c := fun s => decide ((full rs told (s + 1)).length = Pd rs)) (L := List.range (Pd rs)) (t := n) List.pairwise_lt_range (List.mem_range.mpr (by omega)) (decide_eq_true ((full_all h h3 ht _).mpr (by omega))) fun s _ hs => decide_eq_false fun q => by
    have := (full_all h h3 ht _).mp q
    omega
  exact ⟨n, r, hn, by omega, hr⟩
/-- as often wherever a box as long as the period begins -/
theorem count_stk (rs : List (List Int)) (x : Int) (t k : Nat) : (stk rs t k).count x = ((List.range k).map fun i => (pk rs (t + i)).count x).sum := by
  unfold stk
  rw [List.count_flatMap]
  rfl
theorem shift_sum {g : Nat → Nat} {p : Nat} (h : PerI g p) : ∀ t, ((List.range p).map fun i => g (t + i)).sum = ((List.range p).map g).sum
  | 0 => by simp
  | t + 1 => by
    rw [← shift_sum h t]
    cases p with
    | zero => rfl
    | succ p =>
      have e1 : ((List.range (p + 1)).map fun i => g (t + 1 + i)).sum = ((List.range p).map fun i => g (t + 1 + i)).sum + g (t + 1 + p) := by
        rw [List.range_succ, List.map_append, List.sum_append]; simp
      have e2 : ((List.range (p + 1)).map fun i => g (t + i)).sum = g t + ((List.range p).map fun i => g (t + 1 + i)).sum := by
        rw [List.range_succ_eq_map, List.map_cons, List.sum_cons, List.map_map]
        congr 2
        apply List.map_congr_left
        intro i _
        show g (t + (i + 1)) = _
        congr 1; omega
      rw [e1, e2, show t + 1 + p = t + (p + 1) by omega, h]
      omega
theorem count_per {rs : List (List Int)} (h : Good rs) (x : Int) (t : Nat) : (stk rs t (Pd rs)).count x = (stk rs 0 (Pd rs)).count x := by
  have hper : PerI (fun t => (pk rs t).count x) (Pd rs) := fun t => by
    show (pk rs (t + Pd rs)).count x = _
    rw [pk_P h]
  rw [count_stk, count_stk, shift_sum hper t, shift_sum hper 0]
end Lw

namespace Lw
open PySem PySem.Spec PyProof.Rows L2 Sn
/-- a machine's stickers are few -/
theorem pk_mem {rs : List (List Int)} (h : MachI rs) {t : Nat} {x : Int} (hx : x ∈ pk rs t) : 1 ≤ x ∧ x ≤ 40 := by
  unfold pk at hx
  obtain ⟨r, hr, rfl⟩ := List.mem_map.mp hx
  obtain ⟨h1, h2, h3⟩ := h.2.2 r hr
  unfold rd
  rw [getD_in (Nat.mod_lt _ (by omega))]
  exact h3 _ (List.getElem_mem _)
theorem stk_mem {rs : List (List Int)} (h : MachI rs) {t k : Nat} {x : Int} (hx : x ∈ stk rs t k) : 1 ≤ x ∧ x ≤ 40 := by
  obtain ⟨i, _, hi⟩ := mem_stk.mp hx
  exact pk_mem h hi
theorem few {ks : List Int} (h : ks.Nodup) (m : ∀ x ∈ ks, 1 ≤ x ∧ x ≤ 40) : ks.length < 64 := by
  have h1 : (ks.map Int.toNat).Nodup := by
    refine (List.pairwise_map).mpr (h.imp_of_mem fun {a b} ha hb ne e => ne ?_)
    have := m a ha
    have := m b hb
    omega
  have h2 : ∀ y ∈ ks.map Int.toNat, y ∈ List.range 41 := fun y hy => by
    obtain ⟨x, hx, rfl⟩ := List.mem_map.mp hy
    have := m x hx
    exact List.mem_range.mpr (by omega)
  have := nodup_len h1 h2
  rw [List.length_map, List.length_range] at this
  omega
theorem uniq_few {rs : List (List Int)} (h : MachI rs) (t k : Nat) : (uniqI (stk rs t k)).length < 64 :=
  few ((uniqI_lt _).imp fun {a b} h => by omega) fun x hx => stk_mem h (mem_uniqI.mp hx)
def cntD (rs : List (List Int)) (t k : Nat) : D := .tup ((uniqI (stk rs t k)).map fun x => .tup [.int x, .int ((stk rs t k).count x : Nat)])
theorem box_counts_is {rs : List (List Int)} (h : MachI rs) (t k : Nat) (ht : t < 1000000) (hk : k < 10000) : m_box_counts [mD rs, .int t, .int k] = ret (cntD rs t k) := by
  obtain ⟨ks, h1, h2, e⟩ := box_counts_ok h.good t k ht hk fun ks h1 h2 => few h1 fun x hx => stk_mem h ((h2 x).mp hx)
  rw [e]
  unfold cntD
  rw [uniqI_of h1 h2]
theorem cnt_per {rs : List (List Int)} (h : MachI rs) (t : Nat) : cntD rs t (Pd rs) = cntD rs 0 (Pd rs) := by
  have hc := fun x => count_per h.good x t
  have hm : ∀ x, x ∈ stk rs t (Pd rs) ↔ x ∈ stk rs 0 (Pd rs) := fun x => by
    rw [← List.count_pos_iff, ← List.count_pos_iff, hc]
  have hu : uniqI (stk rs t (Pd rs)) = uniqI (stk rs 0 (Pd rs)) := sortI_ext (nodup_dedI _) (nodup_dedI _) fun x => by rw [mem_dedI, mem_dedI, hm]
  unfold cntD
  rw [hu]
  congr 1
  apply List.map_congr_left
  intro x _
  rw [hc]
theorem cnt_pb {rs : List (List Int)} (h : MachI rs) (t k : Nat) : Pb 2 (cntD rs t k) := .tup (fun x hx => by
  obtain ⟨y, _, rfl⟩ := List.mem_map.mp hx
  exact .tup (fun z hz => by
    simp only [List.mem_cons, List.not_mem_nil, or_false] at hz
    rcases hz with rfl | rfl <;> exact .int _) (by simp)) (by rw [List.length_map]; have := uniq_few h t k; omega)
theorem cnt_pl (rs : List (List Int)) (t k : Nat) : Pl 2 (cntD rs t k) := .tup (fun x hx => by
  obtain ⟨y, _, rfl⟩ := List.mem_map.mp hx
  exact .tup (fun z hz => by
    simp only [List.mem_cons, List.not_mem_nil, or_false] at hz
    rcases hz with rfl | rfl <;> exact .int _))
end Lw

namespace Lw
open PySem PySem.Spec PyProof.Rows L2 Sn
theorem pb_oN (o : Option Nat) : Pb 0 (oN o) := by cases o <;> constructor
theorem one_wp : Wp (tupM (consM (bnd (consM (ret .box) (consM (ret (.int 20)) (ret []))) m_draw) (consM (op2M addD (ret (.int 1)) (bnd (consM (ret .box) (consM (ret (.int 3)) (ret []))) m_draw)) (ret []))) : M Bx D) fun d => ∃ a k : Nat, d = .tup [.int a, .int k] ∧ a < 20 ∧ k ≤ 3 :=
  Wp.bnd (Wp.cons (Wp.drawn (by decide) (by decide) fun a ha => Wp.cons (Wp.op2 (Wp.ret (Wp.drawn (by decide) (by decide) fun k hk => ⟨_, r_add _ _, Wp.ret (Wp.eq (by rw [r_tup2, r_lift]) (Wp.ret ⟨a, k + 1, by rw [show (1 : Int) + (k : Int) = ((k + 1 : Nat) : Int) by omega], by omega, by omega⟩))⟩)))))
theorem apart_sym (rs : List (List Int)) (a k b l : Nat) : apartB rs a k b l = apartB rs b l a k := by
  unfold apartB
  congr 1
  rw [Bool.eq_iff_iff, List.any_eq_true, List.any_eq_true]
  constructor
  · rintro ⟨x, h1, h2⟩; exact ⟨x, of_decide_eq_true h2, decide_eq_true h1⟩
  · rintro ⟨x, h1, h2⟩; exact ⟨x, of_decide_eq_true h2, decide_eq_true h1⟩
theorem stk_sub {rs : List (List Int)} {t k : Nat} {x : Int} (h : x ∈ stk rs t k) : x ∈ stk rs t (k + 1) := by
  obtain ⟨i, h1, h2⟩ := mem_stk.mp h
  exact mem_stk.mpr ⟨i, by omega, h2⟩
def apF (rs : List (List Int)) (k : Nat) : List Nat := (List.range (Pd rs)).filter fun t => apartB rs 0 k t k
theorem apF_mono {rs : List (List Int)} {k : Nat} (h : apF rs k = []) : apF rs (k + 1) = [] := by
  unfold apF at h ⊢
  rw [List.filter_eq_nil_iff] at h ⊢
  intro t ht q
  refine h t ht ?_
  unfold apartB at q ⊢
  rw [Bool.not_eq_true', List.any_eq_false] at q ⊢
  intro x hx hd
  exact q x (stk_sub hx) (decide_eq_true (stk_sub (of_decide_eq_true hd)))
theorem law_wp : Wp (bnd b_law endF) fun d => d = .bl true := by
  unfold b_law
  rw [rng1_ok (by decide) (by decide), r_forM]
  refine Wp.bnd (Wp.forU (fun x _ => ?_) ?_)
  · refine Wp.bnd (Wp.mono (Wp.eq (by rw [r_consM, r_consM, r_consM, r_consM, r_bnd]) law_machine_wp) fun d ⟨rs, e, h⟩ => ?_)
    subst e
    have hg := h.good
    have hl := h.2.1
    obtain ⟨P0, P1⟩ := Pd_le hg hl
    refine Wp.val (v := .int (Pd rs : Nat)) (by rw [r_consM, r_bnd, law_period_ok hg hl]) ?_
    refine Wp.parE (Wp.drawn (by decide) (by decide) fun t ht => Wp.op2 (Wp.ret (Wp.drawn (by decide) (by decide) fun k0 hk0 => ⟨_, r_add _ _, ?_⟩)))
    obtain ⟨k, hk⟩ : ∃ k : Nat, (1 : Int) + (k0 : Int) = (k : Int) := ⟨1 + k0, by omega⟩
    rw [hk]
    refine Wp.val (v := lI (stk rs t k)) (by simp (disch := (first | assumption | (refine InP.mem ?_; assumption) | omega | solve_by_elim | (simp only [InP, decide_eq_true_eq, List.map_id', List.length_map, List.length_cons, List.length_nil, List.length_append, List.length_range, List.length_zip, List.length_tail, List.length_take, List.length_drop, rI_len, rng_len, mem_rI, List.mem_range] at *; omega) | (simp only [List.map_id']; assumption) | simp)) only [r_bnd, r_lift, r_op2, r_cmpT, r_asB, r_asI, r_valT, r_tru_bl, r_tru_int, r_tru_lst, r_tru_tup, r_tru_non, r_notT, r_andTt, r_andTf, r_andT, r_orTt, r_orTf, r_orT, r_andMt, r_andMf, r_andM, r_orMt, r_orMf, r_orM, r_notM, r_negM, r_negD, r_ifM, r_consM, r_tupM, r_lstM, r_tup0, r_tup1, r_tup2, r_tup3, r_tup4, r_tup5, r_tup6, r_lst0, r_lst1, r_lst2, r_lst3, r_lst4, r_lst5, r_bcM, r_lenT, r_lenL, List.length_map, r_tupT, r_tupL, r_lstT, r_lstL, r_int, r_ixM, r_ixT, r_ixL, r_ptM, r_slM, r_slT, r_slL, r_itT, r_itL, r_isi, r_add, r_sub, r_lt, r_le, r_gt, r_ge, r_isN, r_isntN, r_isB, r_isntB, nonNon, nonI, nonT, nonL, nonB, nonS, r_retF, r_endR, r_endN, r_iteF, r_seqN, r_seqR, r_seqB, r_seqC, r_forM, r_own, r_ownd, r_par, r_parN, r_parNN, r_eltT, r_eltF, r_elt, r_eq, r_ne, r_eqb, r_neb, compG_ret, compG_none, compG_retIf, compG_filt, eltM_ret, forL_G, forG_unit, forG_find, chainM_ret, chainT_ret, s_iteB, s_iteT, s_comp, s_all, s_any, s_sum, max2_ok, min2_ok, s_zipL, s_zipT, zipT_map, s_pat2, s_pat3, s_app, s_extL, s_extT, s_count, s_atR, s_atC0, s_atC1, s_atC2, s_in_nats, s_nin_nats, List.map_map, Function.comp_apply, Bool.false_eq_true, if_true, if_false, ↓reduceIte, Bool.not_true, Bool.not_false, Bool.and_true, Bool.true_and, Bool.or_false, Bool.false_or, Bool.and_false, Bool.false_and, Bool.or_true, Bool.true_or, decide_true, decide_false, law_stickers_ok hg t k (by omega) (by omega)]) ?_
    refine Wp.val (v := cntD rs t k) ?_ ?_
    · have hu := uniq_few h t k
      have hs : (stk rs t k).length ≤ 1000 := by rw [stk_len]; have := Nat.mul_le_mul (show k ≤ 10 by omega) hl; omega
      simp (disch := (first | assumption | (refine InP.mem ?_; assumption) | omega | solve_by_elim | (simp only [InP, decide_eq_true_eq, List.map_id', List.length_map, List.length_cons, List.length_nil, List.length_append, List.length_range, List.length_zip, List.length_tail, List.length_take, List.length_drop, rI_len, rng_len, mem_rI, List.mem_range] at *; omega) | (simp only [List.map_id']; assumption) | simp)) only [r_bnd, r_lift, r_op2, r_cmpT, r_asB, r_asI, r_valT, r_tru_bl, r_tru_int, r_tru_lst, r_tru_tup, r_tru_non, r_notT, r_andTt, r_andTf, r_andT, r_orTt, r_orTf, r_orT, r_andMt, r_andMf, r_andM, r_orMt, r_orMf, r_orM, r_notM, r_negM, r_negD, r_ifM, r_consM, r_tupM, r_lstM, r_tup0, r_tup1, r_tup2, r_tup3, r_tup4, r_tup5, r_tup6, r_lst0, r_lst1, r_lst2, r_lst3, r_lst4, r_lst5, r_bcM, r_lenT, r_lenL, List.length_map, r_tupT, r_tupL, r_lstT, r_lstL, r_int, r_ixM, r_ixT, r_ixL, r_ptM, r_slM, r_slT, r_slL, r_itT, r_itL, r_isi, r_add, r_sub, r_lt, r_le, r_gt, r_ge, r_isN, r_isntN, r_isB, r_isntB, nonNon, nonI, nonT, nonL, nonB, nonS, r_retF, r_endR, r_endN, r_iteF, r_seqN, r_seqR, r_seqB, r_seqC, r_forM, r_own, r_ownd, r_par, r_parN, r_parNN, r_eltT, r_eltF, r_elt, r_eq, r_ne, r_eqb, r_neb, compG_ret, compG_none, compG_retIf, compG_filt, eltM_ret, forL_G, forG_unit, forG_find, chainM_ret, chainT_ret, s_iteB, s_iteT, s_comp, s_all, s_any, s_sum, max2_ok, min2_ok, s_zipL, s_zipT, zipT_map, s_pat2, s_pat3, s_app, s_extL, s_extT, s_count, s_atR, s_atC0, s_atC1, s_atC2, s_in_nats, s_nin_nats, List.map_map, Function.comp_apply, Bool.false_eq_true, if_true, if_false, ↓reduceIte, Bool.not_true, Bool.not_false, Bool.and_true, Bool.true_and, Bool.or_false, Bool.false_or, Bool.and_false, Bool.false_and, Bool.or_true, Bool.true_or, decide_true, decide_false, lI, dict_map, sorted_dctI, List.map_id']
      rfl
    refine Wp.off ?_ ?_
    · have e1 := box_counts_is h t k (by omega) (by omega)
      have e2 := box_counts_is h t (Pd rs) (by omega) (by omega)
      have e3 := box_counts_is h 0 (Pd rs) (by omega) (by omega)
      have em := is_machine_ok (pb_mD hg)
      have es := same60 (cnt_pb h t k) (by decide)
      have en := ne_pl (cnt_pl rs 0 (Pd rs)) (cnt_pl rs 0 (Pd rs)) (by decide) (by decide)
      rw [show ((0 : Nat) : Int) = 0 from rfl] at e3
      simp (disch := (first | assumption | (refine InP.mem ?_; assumption) | omega | solve_by_elim | (simp only [InP, decide_eq_true_eq, List.map_id', List.length_map, List.length_cons, List.length_nil, List.length_append, List.length_range, List.length_zip, List.length_tail, List.length_take, List.length_drop, rI_len, rng_len, mem_rI, List.mem_range] at *; omega) | (simp only [List.map_id']; assumption) | simp)) only [r_bnd, r_lift, r_op2, r_cmpT, r_asB, r_asI, r_valT, r_tru_bl, r_tru_int, r_tru_lst, r_tru_tup, r_tru_non, r_notT, r_andTt, r_andTf, r_andT, r_orTt, r_orTf, r_orT, r_andMt, r_andMf, r_andM, r_orMt, r_orMf, r_orM, r_notM, r_negM, r_negD, r_ifM, r_consM, r_tupM, r_lstM, r_tup0, r_tup1, r_tup2, r_tup3, r_tup4, r_tup5, r_tup6, r_lst0, r_lst1, r_lst2, r_lst3, r_lst4, r_lst5, r_bcM, r_lenT, r_lenL, List.length_map, r_tupT, r_tupL, r_lstT, r_lstL, r_int, r_ixM, r_ixT, r_ixL, r_ptM, r_slM, r_slT, r_slL, r_itT, r_itL, r_isi, r_add, r_sub, r_lt, r_le, r_gt, r_ge, r_isN, r_isntN, r_isB, r_isntB, nonNon, nonI, nonT, nonL, nonB, nonS, r_retF, r_endR, r_endN, r_iteF, r_seqN, r_seqR, r_seqB, r_seqC, r_forM, r_own, r_ownd, r_par, r_parN, r_parNN, r_eltT, r_eltF, r_elt, r_eq, r_ne, r_eqb, r_neb, compG_ret, compG_none, compG_retIf, compG_filt, eltM_ret, forL_G, forG_unit, forG_find, chainM_ret, chainT_ret, s_iteB, s_iteT, s_comp, s_all, s_any, s_sum, max2_ok, min2_ok, s_zipL, s_zipT, zipT_map, s_pat2, s_pat3, s_app, s_extL, s_extT, s_count, s_atR, s_atC0, s_atC1, s_atC2, s_in_nats, s_nin_nats, List.map_map, Function.comp_apply, Bool.false_eq_true, if_true, if_false, ↓reduceIte, Bool.not_true, Bool.not_false, Bool.and_true, Bool.true_and, Bool.or_false, Bool.false_or, Bool.and_false, Bool.false_and, Bool.or_true, Bool.true_or, decide_true, decide_false, e1, e2, e3, em, okM_mD h, es, en, cnt_per h t]
    · have hn := fun k => uniq_few h 0 k
      have hs : (stk rs 0 (Pd rs)).length ≤ 100000 := by rw [stk_len]; have := Nat.mul_le_mul P1 hl; omega
      refine Wp.val (v := lI (uniqI (stk rs 0 (Pd rs)))) ?_ ?_
      · have e3 := law_stickers_ok hg 0 (Pd rs) (by omega) (by omega)
        rw [show ((0 : Nat) : Int) = 0 from rfl] at e3
        have hu := hn (Pd rs)
        simp (disch := (first | assumption | (refine InP.mem ?_; assumption) | omega | solve_by_elim | (simp only [InP, decide_eq_true_eq, List.map_id', List.length_map, List.length_cons, List.length_nil, List.length_append, List.length_range, List.length_zip, List.length_tail, List.length_take, List.length_drop, rI_len, rng_len, mem_rI, List.mem_range] at *; omega) | (simp only [List.map_id']; assumption) | simp)) only [r_bnd, r_lift, r_op2, r_cmpT, r_asB, r_asI, r_valT, r_tru_bl, r_tru_int, r_tru_lst, r_tru_tup, r_tru_non, r_notT, r_andTt, r_andTf, r_andT, r_orTt, r_orTf, r_orT, r_andMt, r_andMf, r_andM, r_orMt, r_orMf, r_orM, r_notM, r_negM, r_negD, r_ifM, r_consM, r_tupM, r_lstM, r_tup0, r_tup1, r_tup2, r_tup3, r_tup4, r_tup5, r_tup6, r_lst0, r_lst1, r_lst2, r_lst3, r_lst4, r_lst5, r_bcM, r_lenT, r_lenL, List.length_map, r_tupT, r_tupL, r_lstT, r_lstL, r_int, r_ixM, r_ixT, r_ixL, r_ptM, r_slM, r_slT, r_slL, r_itT, r_itL, r_isi, r_add, r_sub, r_lt, r_le, r_gt, r_ge, r_isN, r_isntN, r_isB, r_isntB, nonNon, nonI, nonT, nonL, nonB, nonS, r_retF, r_endR, r_endN, r_iteF, r_seqN, r_seqR, r_seqB, r_seqC, r_forM, r_own, r_ownd, r_par, r_parN, r_parNN, r_eltT, r_eltF, r_elt, r_eq, r_ne, r_eqb, r_neb, compG_ret, compG_none, compG_retIf, compG_filt, eltM_ret, forL_G, forG_unit, forG_find, chainM_ret, chainT_ret, s_iteB, s_iteT, s_comp, s_all, s_any, s_sum, max2_ok, min2_ok, s_zipL, s_zipT, zipT_map, s_pat2, s_pat3, s_app, s_extL, s_extT, s_count, s_atR, s_atC0, s_atC1, s_atC2, s_in_nats, s_nin_nats, List.map_map, Function.comp_apply, Bool.false_eq_true, if_true, if_false, ↓reduceIte, Bool.not_true, Bool.not_false, Bool.and_true, Bool.true_and, Bool.or_false, Bool.false_or, Bool.and_false, Bool.false_and, Bool.or_true, Bool.true_or, decide_true, decide_false, e3, lI, dict_map, sorted_dctI, List.map_id']
      · have hmem : ∀ x ∈ uniqI (stk rs 0 (Pd rs)), ∃ t, x ∈ pk rs t := fun x hx => by
          obtain ⟨i, _, hi⟩ := mem_stk.mp (mem_uniqI.mp hx)
          exact ⟨_, hi⟩
        have hul := hn (Pd rs)
        refine Wp.bnd (Wp.mono (P := fun d => ∃ w : List Int, d = tI w ∧ w.length < 64 ∧ ∀ x ∈ w, ∃ t, x ∈ pk rs t) ?_ fun d ⟨w, e, w1, w2⟩ => ?_)
        · refine Wp.bc (Wp.cons (Wp.compM (Wp.ret ⟨by rw [List.length_map]; omega, Wp.compS (R := fun y => ∃ i : Int, y = .int i ∧ ∃ t, i ∈ pk rs t) (fun x hx => Wp.eltC (Wp.cmp (Wp.drawn (by decide) (by decide) fun d _ => Wp.ret ⟨_, r_eq _ _, ?_⟩))) fun ys hl hr => ?_⟩)))
          · obtain ⟨i, hi, rfl⟩ := List.mem_map.mp hx
            cases decide ((d : Int) = 0)
            · intro y hy; cases hy
            · exact Wp.ret fun y hy => by cases hy; exact ⟨i, rfl, hmem i hi⟩
          · obtain ⟨w, e, hw⟩ := ints_of (ys := ys) (Q := fun i => ∃ t, i ∈ pk rs t) hr
            subst e
            rw [List.length_map, List.length_map] at hl
            exact Wp.ret ⟨_, rfl, w, rfl, by omega, hw⟩
        subst e
        refine Wp.bnd (Wp.mono (P := fun d => ∃ w : List Int, d = tI w ∧ There rs w) ?_ fun d ⟨told, e, ht⟩ => ?_)
        · have hgt : (cmpT gtD (bcM lenD (consM (ret (tI w)) (ret []))) (ret (.int 0)) : M Bx Bool) = ret (decide (0 < (w.length : Int))) := by simp (disch := (first | assumption | (refine InP.mem ?_; assumption) | omega | solve_by_elim | (simp only [InP, decide_eq_true_eq, List.map_id', List.length_map, List.length_cons, List.length_nil, List.length_append, List.length_range, List.length_zip, List.length_tail, List.length_take, List.length_drop, rI_len, rng_len, mem_rI, List.mem_range] at *; omega) | (simp only [List.map_id']; assumption) | simp)) only [r_bnd, r_lift, r_op2, r_cmpT, r_asB, r_asI, r_valT, r_tru_bl, r_tru_int, r_tru_lst, r_tru_tup, r_tru_non, r_notT, r_andTt, r_andTf, r_andT, r_orTt, r_orTf, r_orT, r_andMt, r_andMf, r_andM, r_orMt, r_orMf, r_orM, r_notM, r_negM, r_negD, r_ifM, r_consM, r_tupM, r_lstM, r_tup0, r_tup1, r_tup2, r_tup3, r_tup4, r_tup5, r_tup6, r_lst0, r_lst1, r_lst2, r_lst3, r_lst4, r_lst5, r_bcM, r_lenT, r_lenL, List.length_map, r_tupT, r_tupL, r_lstT, r_lstL, r_int, r_ixM, r_ixT, r_ixL, r_ptM, r_slM, r_slT, r_slL, r_itT, r_itL, r_isi, r_add, r_sub, r_lt, r_le, r_gt, r_ge, r_isN, r_isntN, r_isB, r_isntB, nonNon, nonI, nonT, nonL, nonB, nonS, r_retF, r_endR, r_endN, r_iteF, r_seqN, r_seqR, r_seqB, r_seqC, r_forM, r_own, r_ownd, r_par, r_parN, r_parNN, r_eltT, r_eltF, r_elt, r_eq, r_ne, r_eqb, r_neb, compG_ret, compG_none, compG_retIf, compG_filt, eltM_ret, forL_G, forG_unit, forG_find, chainM_ret, chainT_ret, s_iteB, s_iteT, s_comp, s_all, s_any, s_sum, max2_ok, min2_ok, s_zipL, s_zipT, zipT_map, s_pat2, s_pat3, s_app, s_extL, s_extT, s_count, s_atR, s_atC0, s_atC1, s_atC2, s_in_nats, s_nin_nats, List.map_map, Function.comp_apply, Bool.false_eq_true, if_true, if_false, ↓reduceIte, Bool.not_true, Bool.not_false, Bool.and_true, Bool.true_and, Bool.or_false, Bool.false_or, Bool.and_false, Bool.false_and, Bool.or_true, Bool.true_or, decide_true, decide_false, len_tI]
          refine Wp.bnd (Wp.eq hgt (Wp.ret ?_))
          by_cases c : 0 < (w.length : Int)
          · rw [decide_eq_true c]
            exact Wp.ret ⟨w, rfl, fun q => by rw [q] at c; simp at c, by omega, w2⟩
          · rw [decide_eq_false c]
            have hne : 0 < (uniqI (stk rs 0 (Pd rs))).length := by
              obtain ⟨r, hr⟩ := List.length_pos_iff_exists_mem.mp (show 0 < rs.length from h.1)
              have : rd r 0 ∈ uniqI (stk rs 0 (Pd rs)) := mem_uniqI.mpr (mem_stk.mpr ⟨0, P0, List.mem_map.mpr ⟨r, hr, rfl⟩⟩)
              exact List.length_pos_of_mem this
            refine Wp.bnd (Wp.cons (Wp.bnd (Wp.ret (Wp.bnd (Wp.eq (n := drawM ((uniqI (stk rs 0 (Pd rs))).length : Int)) (by simp (disch := (first | assumption | (refine InP.mem ?_; assumption) | omega | solve_by_elim | (simp only [InP, decide_eq_true_eq, List.map_id', List.length_map, List.length_cons, List.length_nil, List.length_append, List.length_range, List.length_zip, List.length_tail, List.length_take, List.length_drop, rI_len, rng_len, mem_rI, List.mem_range] at *; omega) | (simp only [List.map_id']; assumption) | simp)) only [r_bnd, r_lift, r_op2, r_cmpT, r_asB, r_asI, r_valT, r_tru_bl, r_tru_int, r_tru_lst, r_tru_tup, r_tru_non, r_notT, r_andTt, r_andTf, r_andT, r_orTt, r_orTf, r_orT, r_andMt, r_andMf, r_andM, r_orMt, r_orMf, r_orM, r_notM, r_negM, r_negD, r_ifM, r_consM, r_tupM, r_lstM, r_tup0, r_tup1, r_tup2, r_tup3, r_tup4, r_tup5, r_tup6, r_lst0, r_lst1, r_lst2, r_lst3, r_lst4, r_lst5, r_bcM, r_lenT, r_lenL, List.length_map, r_tupT, r_tupL, r_lstT, r_lstL, r_int, r_ixM, r_ixT, r_ixL, r_ptM, r_slM, r_slT, r_slL, r_itT, r_itL, r_isi, r_add, r_sub, r_lt, r_le, r_gt, r_ge, r_isN, r_isntN, r_isB, r_isntB, nonNon, nonI, nonT, nonL, nonB, nonS, r_retF, r_endR, r_endN, r_iteF, r_seqN, r_seqR, r_seqB, r_seqC, r_forM, r_own, r_ownd, r_par, r_parN, r_parNN, r_eltT, r_eltF, r_elt, r_eq, r_ne, r_eqb, r_neb, compG_ret, compG_none, compG_retIf, compG_filt, eltM_ret, forL_G, forG_unit, forG_find, chainM_ret, chainT_ret, s_iteB, s_iteT, s_comp, s_all, s_any, s_sum, max2_ok, min2_ok, s_zipL, s_zipT, zipT_map, s_pat2, s_pat3, s_app, s_extL, s_extT, s_count, s_atR, s_atC0, s_atC1, s_atC2, s_in_nats, s_nin_nats, List.map_map, Function.comp_apply, Bool.false_eq_true, if_true, if_false, ↓reduceIte, Bool.not_true, Bool.not_false, Bool.and_true, Bool.true_and, Bool.or_false, Bool.false_or, Bool.and_false, Bool.false_and, Bool.or_true, Bool.true_or, decide_true, decide_false, len_lI]; rfl) (Wp.draw (by omega) (by omega) fun j j1 j2 => ?_))))))
            have hj : ixD (lI (uniqI (stk rs 0 (Pd rs)))) (.int j) = some (.int ((uniqI (stk rs 0 (Pd rs)))[j.toNat]'(by omega))) := by
              unfold lI
              rw [r_ixL, atI_map, atI_ok j1 j2]
              rfl
            rw [hj]
            exact Wp.ret (Wp.ret (Wp.eq (n := ret (tI [(uniqI (stk rs 0 (Pd rs)))[j.toNat]'(by omega)])) (by rw [r_tup1, r_lift]; rfl) (Wp.ret ⟨[(uniqI (stk rs 0 (Pd rs)))[j.toNat]'(by omega)], rfl, by simp, by simp, fun x hx => by rw [List.mem_singleton.mp hx]; exact hmem _ (List.getElem_mem _)⟩)))
        subst e
        have htl := ht.2.1
        refine Wp.ownV (d := .lst []) (by simp (disch := (first | assumption | (refine InP.mem ?_; assumption) | omega | solve_by_elim | (simp only [InP, decide_eq_true_eq, List.map_id', List.length_map, List.length_cons, List.length_nil, List.length_append, List.length_range, List.length_zip, List.length_tail, List.length_take, List.length_drop, rI_len, rng_len, mem_rI, List.mem_range] at *; omega) | (simp only [List.map_id']; assumption) | simp)) only [r_bnd, r_lift, r_op2, r_cmpT, r_asB, r_asI, r_valT, r_tru_bl, r_tru_int, r_tru_lst, r_tru_tup, r_tru_non, r_notT, r_andTt, r_andTf, r_andT, r_orTt, r_orTf, r_orT, r_andMt, r_andMf, r_andM, r_orMt, r_orMf, r_orM, r_notM, r_negM, r_negD, r_ifM, r_consM, r_tupM, r_lstM, r_tup0, r_tup1, r_tup2, r_tup3, r_tup4, r_tup5, r_tup6, r_lst0, r_lst1, r_lst2, r_lst3, r_lst4, r_lst5, r_bcM, r_lenT, r_lenL, List.length_map, r_tupT, r_tupL, r_lstT, r_lstL, r_int, r_ixM, r_ixT, r_ixL, r_ptM, r_slM, r_slT, r_slL, r_itT, r_itL, r_isi, r_add, r_sub, r_lt, r_le, r_gt, r_ge, r_isN, r_isntN, r_isB, r_isntB, nonNon, nonI, nonT, nonL, nonB, nonS, r_retF, r_endR, r_endN, r_iteF, r_seqN, r_seqR, r_seqB, r_seqC, r_forM, r_own, r_ownd, r_par, r_parN, r_parNN, r_eltT, r_eltF, r_elt, r_eq, r_ne, r_eqb, r_neb, compG_ret, compG_none, compG_retIf, compG_filt, eltM_ret, forL_G, forG_unit, forG_find, chainM_ret, chainT_ret, s_iteB, s_iteT, s_comp, s_all, s_any, s_sum, max2_ok, min2_ok, s_zipL, s_zipT, zipT_map, s_pat2, s_pat3, s_app, s_extL, s_extT, s_count, s_atR, s_atC0, s_atC1, s_atC2, s_in_nats, s_nin_nats, List.map_map, Function.comp_apply, Bool.false_eq_true, if_true, if_false, ↓reduceIte, Bool.not_true, Bool.not_false, Bool.and_true, Bool.true_and, Bool.or_false, Bool.false_or, Bool.and_false, Bool.false_and, Bool.or_true, Bool.true_or, decide_true, decide_false]) rfl ?_
        refine Wp.forP (s1 := .lst ((List.range (Pd rs)).map fun s => nL (full rs told (s + 1)))) (fun K => ?_) ?_
        · have hh : ∀ t k : Nat, t < Pd rs → k < Pd rs → m__law_stickers [mD rs, .int t, .int ((k + 1 : Nat) : Int)] = ret (lI (stk rs t (k + 1))) := fun t k h1 h2 => law_stickers_ok hg t (k + 1) (by omega) (by omega)
          have e := forE_app (S := Bx) (enc := nL) (fun s => full rs told (s + 1)) (f := fun (s : D) (x : Nat) => appM s (ret (nL (full rs told (x + 1)))) fun f => ret (.nx f)) (k := K) (xs := List.range (Pd rs)) [] (by simp; omega) (fun ls hls x hx => by simp (disch := (first | assumption | (refine InP.mem ?_; assumption) | omega | solve_by_elim | (simp only [InP, decide_eq_true_eq, List.map_id', List.length_map, List.length_cons, List.length_nil, List.length_append, List.length_range, List.length_zip, List.length_tail, List.length_take, List.length_drop, rI_len, rng_len, mem_rI, List.mem_range] at *; omega) | (simp only [List.map_id']; assumption) | simp)) only [r_bnd, r_lift, r_op2, r_cmpT, r_asB, r_asI, r_valT, r_tru_bl, r_tru_int, r_tru_lst, r_tru_tup, r_tru_non, r_notT, r_andTt, r_andTf, r_andT, r_orTt, r_orTf, r_orT, r_andMt, r_andMf, r_andM, r_orMt, r_orMf, r_orM, r_notM, r_negM, r_negD, r_ifM, r_consM, r_tupM, r_lstM, r_tup0, r_tup1, r_tup2, r_tup3, r_tup4, r_tup5, r_tup6, r_lst0, r_lst1, r_lst2, r_lst3, r_lst4, r_lst5, r_bcM, r_lenT, r_lenL, List.length_map, r_tupT, r_tupL, r_lstT, r_lstL, r_int, r_ixM, r_ixT, r_ixL, r_ptM, r_slM, r_slT, r_slL, r_itT, r_itL, r_isi, r_add, r_sub, r_lt, r_le, r_gt, r_ge, r_isN, r_isntN, r_isB, r_isntB, nonNon, nonI, nonT, nonL, nonB, nonS, r_retF, r_endR, r_endN, r_iteF, r_seqN, r_seqR, r_seqB, r_seqC, r_forM, r_own, r_ownd, r_par, r_parN, r_parNN, r_eltT, r_eltF, r_elt, r_eq, r_ne, r_eqb, r_neb, compG_ret, compG_none, compG_retIf, compG_filt, eltM_ret, forL_G, forG_unit, forG_find, chainM_ret, chainT_ret, s_iteB, s_iteT, s_comp, s_all, s_any, s_sum, max2_ok, min2_ok, s_zipL, s_zipT, zipT_map, s_pat2, s_pat3, s_app, s_extL, s_extT, s_count, s_atR, s_atC0, s_atC1, s_atC2, s_in_nats, s_nin_nats, List.map_map, Function.comp_apply, Bool.false_eq_true, if_true, if_false, ↓reduceIte, Bool.not_true, Bool.not_false, Bool.and_true, Bool.true_and, Bool.or_false, Bool.false_or, Bool.and_false, Bool.false_and, Bool.or_true, Bool.true_or, decide_true, decide_false])
          rw [List.map_nil, List.nil_append, List.map_map] at e
          refine Eq.trans ?_ e
          simp (disch := (first | assumption | (refine InP.mem ?_; assumption) | omega | solve_by_elim | (simp only [InP, decide_eq_true_eq, List.map_id', List.length_map, List.length_cons, List.length_nil, List.length_append, List.length_range, List.length_zip, List.length_tail, List.length_take, List.length_drop, rI_len, rng_len, mem_rI, List.mem_range] at *; omega) | (simp only [List.map_id']; assumption) | simp)) only [r_bnd, r_lift, r_op2, r_cmpT, r_asB, r_asI, r_valT, r_tru_bl, r_tru_int, r_tru_lst, r_tru_tup, r_tru_non, r_notT, r_andTt, r_andTf, r_andT, r_orTt, r_orTf, r_orT, r_andMt, r_andMf, r_andM, r_orMt, r_orMf, r_orM, r_notM, r_negM, r_negD, r_ifM, r_consM, r_tupM, r_lstM, r_tup0, r_tup1, r_tup2, r_tup3, r_tup4, r_tup5, r_tup6, r_lst0, r_lst1, r_lst2, r_lst3, r_lst4, r_lst5, r_bcM, r_lenT, r_lenL, List.length_map, r_tupT, r_tupL, r_lstT, r_lstL, r_int, r_ixM, r_ixT, r_ixL, r_ptM, r_slM, r_slT, r_slL, r_itT, r_itL, r_isi, r_add, r_sub, r_lt, r_le, r_gt, r_ge, r_isN, r_isntN, r_isB, r_isntB, nonNon, nonI, nonT, nonL, nonB, nonS, r_retF, r_endR, r_endN, r_iteF, r_seqN, r_seqR, r_seqB, r_seqC, r_forM, r_own, r_ownd, r_par, r_parN, r_parNN, r_eltT, r_eltF, r_elt, r_eq, r_ne, r_eqb, r_neb, compG_ret, compG_none, compG_retIf, compG_filt, eltM_ret, forL_G, forG_unit, forG_find, chainM_ret, chainT_ret, s_iteB, s_iteT, s_comp, s_all, s_any, s_sum, max2_ok, min2_ok, s_zipL, s_zipT, zipT_map, s_pat2, s_pat3, s_app, s_extL, s_extT, s_count, s_atR, s_atC0, s_atC1, s_atC2, s_in_nats, s_nin_nats, List.map_map, Function.comp_apply, Bool.false_eq_true, if_true, if_false, ↓reduceIte, Bool.not_true, Bool.not_false, Bool.and_true, Bool.true_and, Bool.or_false, Bool.false_or, Bool.and_false, Bool.false_and, Bool.or_true, Bool.true_or, decide_true, decide_false, rng2_ok, up_rng, rng1_ok, rng_nat, tI, hh, in_lI]
          rw [forG_E]
          rfl
        obtain ⟨f, t0, r, r2, f1, f2, f3, f4⟩ := first_is hg hl ht
        obtain ⟨n, r3, n1, n2, n3⟩ := sure_is hg hl ht
        have f1' : (List.range (Pd rs)).filter (fun s => decide ((0 : Int) < ((full rs told (s + 1)).length : Int))) = f :: r2 := by
          rw [← f1]
          apply List.filter_congr
          intro s _
          exact decide_eq_decide.mpr (by omega)
        have n3' : (List.range (Pd rs)).filter (fun s => decide (((full rs told (s + 1)).length : Int) = (Pd rs : Int))) = n :: r3 := by
          rw [← n3]
          apply List.filter_congr
          intro s _
          exact decide_eq_decide.mpr (by omega)
        refine Wp.val (v := .int (f : Int)) (by simp (disch := (first | assumption | (refine InP.mem ?_; assumption) | omega | solve_by_elim | (simp only [InP, decide_eq_true_eq, List.map_id', List.length_map, List.length_cons, List.length_nil, List.length_append, List.length_range, List.length_zip, List.length_tail, List.length_take, List.length_drop, rI_len, rng_len, mem_rI, List.mem_range] at *; omega) | (simp only [List.map_id']; assumption) | simp)) only [r_bnd, r_lift, r_op2, r_cmpT, r_asB, r_asI, r_valT, r_tru_bl, r_tru_int, r_tru_lst, r_tru_tup, r_tru_non, r_notT, r_andTt, r_andTf, r_andT, r_orTt, r_orTf, r_orT, r_andMt, r_andMf, r_andM, r_orMt, r_orMf, r_orM, r_notM, r_negM, r_negD, r_ifM, r_consM, r_tupM, r_lstM, r_tup0, r_tup1, r_tup2, r_tup3, r_tup4, r_tup5, r_tup6, r_lst0, r_lst1, r_lst2, r_lst3, r_lst4, r_lst5, r_bcM, r_lenT, r_lenL, List.length_map, r_tupT, r_tupL, r_lstT, r_lstL, r_int, r_ixM, r_ixT, r_ixL, r_ptM, r_slM, r_slT, r_slL, r_itT, r_itL, r_isi, r_add, r_sub, r_lt, r_le, r_gt, r_ge, r_isN, r_isntN, r_isB, r_isntB, nonNon, nonI, nonT, nonL, nonB, nonS, r_retF, r_endR, r_endN, r_iteF, r_seqN, r_seqR, r_seqB, r_seqC, r_forM, r_own, r_ownd, r_par, r_parN, r_parNN, r_eltT, r_eltF, r_elt, r_eq, r_ne, r_eqb, r_neb, compG_ret, compG_none, compG_retIf, compG_filt, eltM_ret, forL_G, forG_unit, forG_find, chainM_ret, chainT_ret, s_iteB, s_iteT, s_comp, s_all, s_any, s_sum, max2_ok, min2_ok, s_zipL, s_zipT, zipT_map, s_pat2, s_pat3, s_app, s_extL, s_extT, s_count, s_atR, s_atC0, s_atC1, s_atC2, s_in_nats, s_nin_nats, List.map_map, Function.comp_apply, Bool.false_eq_true, if_true, if_false, ↓reduceIte, Bool.not_true, Bool.not_false, Bool.and_true, Bool.true_and, Bool.or_false, Bool.false_or, Bool.and_false, Bool.false_and, Bool.or_true, Bool.true_or, decide_true, decide_false, rng1_ok, rng_nat, nL, f1', List.map_cons]) ?_
        refine Wp.val (v := .int (n : Int)) (by simp (disch := (first | assumption | (refine InP.mem ?_; assumption) | omega | solve_by_elim | (simp only [InP, decide_eq_true_eq, List.map_id', List.length_map, List.length_cons, List.length_nil, List.length_append, List.length_range, List.length_zip, List.length_tail, List.length_take, List.length_drop, rI_len, rng_len, mem_rI, List.mem_range] at *; omega) | (simp only [List.map_id']; assumption) | simp)) only [r_bnd, r_lift, r_op2, r_cmpT, r_asB, r_asI, r_valT, r_tru_bl, r_tru_int, r_tru_lst, r_tru_tup, r_tru_non, r_notT, r_andTt, r_andTf, r_andT, r_orTt, r_orTf, r_orT, r_andMt, r_andMf, r_andM, r_orMt, r_orMf, r_orM, r_notM, r_negM, r_negD, r_ifM, r_consM, r_tupM, r_lstM, r_tup0, r_tup1, r_tup2, r_tup3, r_tup4, r_tup5, r_tup6, r_lst0, r_lst1, r_lst2, r_lst3, r_lst4, r_lst5, r_bcM, r_lenT, r_lenL, List.length_map, r_tupT, r_tupL, r_lstT, r_lstL, r_int, r_ixM, r_ixT, r_ixL, r_ptM, r_slM, r_slT, r_slL, r_itT, r_itL, r_isi, r_add, r_sub, r_lt, r_le, r_gt, r_ge, r_isN, r_isntN, r_isB, r_isntB, nonNon, nonI, nonT, nonL, nonB, nonS, r_retF, r_endR, r_endN, r_iteF, r_seqN, r_seqR, r_seqB, r_seqC, r_forM, r_own, r_ownd, r_par, r_parN, r_parNN, r_eltT, r_eltF, r_elt, r_eq, r_ne, r_eqb, r_neb, compG_ret, compG_none, compG_retIf, compG_filt, eltM_ret, forL_G, forG_unit, forG_find, chainM_ret, chainT_ret, s_iteB, s_iteT, s_comp, s_all, s_any, s_sum, max2_ok, min2_ok, s_zipL, s_zipT, zipT_map, s_pat2, s_pat3, s_app, s_extL, s_extT, s_count, s_atR, s_atC0, s_atC1, s_atC2, s_in_nats, s_nin_nats, List.map_map, Function.comp_apply, Bool.false_eq_true, if_true, if_false, ↓reduceIte, Bool.not_true, Bool.not_false, Bool.and_true, Bool.true_and, Bool.or_false, Bool.false_or, Bool.and_false, Bool.false_and, Bool.or_true, Bool.true_or, decide_true, decide_false, rng1_ok, rng_nat, nL, n3', List.map_cons]) ?_
        refine Wp.off ?_ ?_
        · have el := least_box_ok hg hl ht f2 f3 f4
          have es := sure_box_ok hg hl ht
          rw [n1] at es
          have ef := s_atR (fun s => nL (full rs told (s + 1))) (show f < Pd rs by omega)
          have e60 := same60 (n := 2) (d := .tup [.tup [.int t0, .int ((f : Int) + 1)], .int ((n : Int) + 1)]) (.tup (fun x hx => by
            simp only [List.mem_cons, List.not_mem_nil, or_false] at hx
            rcases hx with rfl | rfl
            · exact .tup (fun x hx => by
                simp only [List.mem_cons, List.not_mem_nil, or_false] at hx
                rcases hx with rfl | rfl <;> exact .int _) (by simp)
            · exact .int _) (by simp)) (by decide)
          simp (disch := (first | assumption | (refine InP.mem ?_; assumption) | omega | solve_by_elim | (simp only [InP, decide_eq_true_eq, List.map_id', List.length_map, List.length_cons, List.length_nil, List.length_append, List.length_range, List.length_zip, List.length_tail, List.length_take, List.length_drop, rI_len, rng_len, mem_rI, List.mem_range] at *; omega) | (simp only [List.map_id']; assumption) | simp)) only [r_bnd, r_lift, r_op2, r_cmpT, r_asB, r_asI, r_valT, r_tru_bl, r_tru_int, r_tru_lst, r_tru_tup, r_tru_non, r_notT, r_andTt, r_andTf, r_andT, r_orTt, r_orTf, r_orT, r_andMt, r_andMf, r_andM, r_orMt, r_orMf, r_orM, r_notM, r_negM, r_negD, r_ifM, r_consM, r_tupM, r_lstM, r_tup0, r_tup1, r_tup2, r_tup3, r_tup4, r_tup5, r_tup6, r_lst0, r_lst1, r_lst2, r_lst3, r_lst4, r_lst5, r_bcM, r_lenT, r_lenL, List.length_map, r_tupT, r_tupL, r_lstT, r_lstL, r_int, r_ixM, r_ixT, r_ixL, r_ptM, r_slM, r_slT, r_slL, r_itT, r_itL, r_isi, r_add, r_sub, r_lt, r_le, r_gt, r_ge, r_isN, r_isntN, r_isB, r_isntB, nonNon, nonI, nonT, nonL, nonB, nonS, r_retF, r_endR, r_endN, r_iteF, r_seqN, r_seqR, r_seqB, r_seqC, r_forM, r_own, r_ownd, r_par, r_parN, r_parNN, r_eltT, r_eltF, r_elt, r_eq, r_ne, r_eqb, r_neb, compG_ret, compG_none, compG_retIf, compG_filt, eltM_ret, forL_G, forG_unit, forG_find, chainM_ret, chainT_ret, s_iteB, s_iteT, s_comp, s_all, s_any, s_sum, max2_ok, min2_ok, s_zipL, s_zipT, zipT_map, s_pat2, s_pat3, s_app, s_extL, s_extT, s_count, s_atR, s_atC0, s_atC1, s_atC2, s_in_nats, s_nin_nats, List.map_map, Function.comp_apply, Bool.false_eq_true, if_true, if_false, ↓reduceIte, Bool.not_true, Bool.not_false, Bool.and_true, Bool.true_and, Bool.or_false, Bool.false_or, Bool.and_false, Bool.false_and, Bool.or_true, Bool.true_or, decide_true, decide_false, el, es, ef, f3, nL, List.map_cons, e60]
        obtain ⟨N, hN⟩ : ∃ N : Nat, N = min (Pd rs) (n + 3) := ⟨_, rfl⟩
        have hmin : min (Pd rs : Int) ((n : Int) + 3) = (N : Int) := by omega
        refine Wp.forN (xs := (List.range N).map fun k : Nat => .int ((k + 1 : Nat) : Int)) (by simp (disch := (first | assumption | (refine InP.mem ?_; assumption) | omega | solve_by_elim | (simp only [InP, decide_eq_true_eq, List.map_id', List.length_map, List.length_cons, List.length_nil, List.length_append, List.length_range, List.length_zip, List.length_tail, List.length_take, List.length_drop, rI_len, rng_len, mem_rI, List.mem_range] at *; omega) | (simp only [List.map_id']; assumption) | simp)) only [r_bnd, r_lift, r_op2, r_cmpT, r_asB, r_asI, r_valT, r_tru_bl, r_tru_int, r_tru_lst, r_tru_tup, r_tru_non, r_notT, r_andTt, r_andTf, r_andT, r_orTt, r_orTf, r_orT, r_andMt, r_andMf, r_andM, r_orMt, r_orMf, r_orM, r_notM, r_negM, r_negD, r_ifM, r_consM, r_tupM, r_lstM, r_tup0, r_tup1, r_tup2, r_tup3, r_tup4, r_tup5, r_tup6, r_lst0, r_lst1, r_lst2, r_lst3, r_lst4, r_lst5, r_bcM, r_lenT, r_lenL, List.length_map, r_tupT, r_tupL, r_lstT, r_lstL, r_int, r_ixM, r_ixT, r_ixL, r_ptM, r_slM, r_slT, r_slL, r_itT, r_itL, r_isi, r_add, r_sub, r_lt, r_le, r_gt, r_ge, r_isN, r_isntN, r_isB, r_isntB, nonNon, nonI, nonT, nonL, nonB, nonS, r_retF, r_endR, r_endN, r_iteF, r_seqN, r_seqR, r_seqB, r_seqC, r_forM, r_own, r_ownd, r_par, r_parN, r_parNN, r_eltT, r_eltF, r_elt, r_eq, r_ne, r_eqb, r_neb, compG_ret, compG_none, compG_retIf, compG_filt, eltM_ret, forL_G, forG_unit, forG_find, chainM_ret, chainT_ret, s_iteB, s_iteT, s_comp, s_all, s_any, s_sum, max2_ok, min2_ok, s_zipL, s_zipT, zipT_map, s_pat2, s_pat3, s_app, s_extL, s_extT, s_count, s_atR, s_atC0, s_atC1, s_atC2, s_in_nats, s_nin_nats, List.map_map, Function.comp_apply, Bool.false_eq_true, if_true, if_false, ↓reduceIte, Bool.not_true, Bool.not_false, Bool.and_true, Bool.true_and, Bool.or_false, Bool.false_or, Bool.and_false, Bool.false_and, Bool.or_true, Bool.true_or, decide_true, decide_false, hmin, rng2_ok, up_rng]; rfl) (fun y hy => ?_) ?_
        · obtain ⟨k, hk, rfl⟩ := List.mem_map.mp hy
          have hk := List.mem_range.mp hk
          have hin : ∀ t ∈ List.range (Pd rs), decide (t ∈ full rs told (k + 1)) = toldB rs told t (k + 1) := fun t ht' => by
            rw [Bool.eq_iff_iff, decide_eq_true_eq]
            unfold full
            rw [List.mem_filter]
            exact ⟨fun h => h.2, fun h => ⟨ht', h⟩⟩
          refine Wp.val (v := nL ((List.range (Pd rs)).filter fun t => !toldB rs told t (k + 1))) ?_ ?_
          · have es : ((k + 1 : Nat) : Int) - 1 = (k : Int) := by omega
            simp (disch := (first | assumption | (refine InP.mem ?_; assumption) | omega | solve_by_elim | (simp only [InP, decide_eq_true_eq, List.map_id', List.length_map, List.length_cons, List.length_nil, List.length_append, List.length_range, List.length_zip, List.length_tail, List.length_take, List.length_drop, rI_len, rng_len, mem_rI, List.mem_range] at *; omega) | (simp only [List.map_id']; assumption) | simp)) only [r_bnd, r_lift, r_op2, r_cmpT, r_asB, r_asI, r_valT, r_tru_bl, r_tru_int, r_tru_lst, r_tru_tup, r_tru_non, r_notT, r_andTt, r_andTf, r_andT, r_orTt, r_orTf, r_orT, r_andMt, r_andMf, r_andM, r_orMt, r_orMf, r_orM, r_notM, r_negM, r_negD, r_ifM, r_consM, r_tupM, r_lstM, r_tup0, r_tup1, r_tup2, r_tup3, r_tup4, r_tup5, r_tup6, r_lst0, r_lst1, r_lst2, r_lst3, r_lst4, r_lst5, r_bcM, r_lenT, r_lenL, List.length_map, r_tupT, r_tupL, r_lstT, r_lstL, r_int, r_ixM, r_ixT, r_ixL, r_ptM, r_slM, r_slT, r_slL, r_itT, r_itL, r_isi, r_add, r_sub, r_lt, r_le, r_gt, r_ge, r_isN, r_isntN, r_isB, r_isntB, nonNon, nonI, nonT, nonL, nonB, nonS, r_retF, r_endR, r_endN, r_iteF, r_seqN, r_seqR, r_seqB, r_seqC, r_forM, r_own, r_ownd, r_par, r_parN, r_parNN, r_eltT, r_eltF, r_elt, r_eq, r_ne, r_eqb, r_neb, compG_ret, compG_none, compG_retIf, compG_filt, eltM_ret, forL_G, forG_unit, forG_find, chainM_ret, chainT_ret, s_iteB, s_iteT, s_comp, s_all, s_any, s_sum, max2_ok, min2_ok, s_zipL, s_zipT, zipT_map, s_pat2, s_pat3, s_app, s_extL, s_extT, s_count, s_atR, s_atC0, s_atC1, s_atC2, s_in_nats, s_nin_nats, List.map_map, Function.comp_apply, Bool.false_eq_true, if_true, if_false, ↓reduceIte, Bool.not_true, Bool.not_false, Bool.and_true, Bool.true_and, Bool.or_false, Bool.false_or, Bool.and_false, Bool.false_and, Bool.or_true, Bool.true_or, decide_true, decide_false, rng1_ok, rng_nat, es, nL]
            have : (List.range (Pd rs)).filter (fun t => !decide (t ∈ full rs told (k + 1))) = (List.range (Pd rs)).filter fun t => !toldB rs told t (k + 1) := List.filter_congr fun t ht' => by rw [hin t ht']
            rw [this]
          · have elb := lacking_box_ok hg hl told htl (k + 1) (by omega)
            rw [find_head] at elb
            have hb := same60 (pb_oN ((List.range (Pd rs)).filter fun t => !toldB rs told t (k + 1)).head?) (by decide)
            have hiff : ((List.range (Pd rs)).filter fun t => !toldB rs told t (k + 1)) = [] ↔ n < k + 1 := by
              have h1 := full_all hg hl ht (k + 1)
              rw [n1] at h1
              have h2 : ((List.range (Pd rs)).filter fun t => !toldB rs told t (k + 1)) = [] ↔ (full rs told (k + 1)).length = Pd rs := by
                unfold full
                have h3 : (List.range (Pd rs)).length = Pd rs := List.length_range
                rw [List.filter_eq_nil_iff]
                constructor
                · intro q
                  rw [List.filter_eq_self.mpr fun t ht' => by simpa using q t ht', h3]
                · intro q t ht'
                  have := List.length_filter_eq_length_iff.mp (q.trans h3.symm) t ht'
                  simp [this]
              rw [h2, h1]
              omega
            generalize hr : ((List.range (Pd rs)).filter fun t => !toldB rs told t (k + 1)) = rows at elb hb hiff ⊢
            refine Wp.off ?_ (Wp.ret rfl)
            cases rows with
            | nil =>
              have := hiff.mp rfl
              have hd : (n : Int) < ((k + 1 : Nat) : Int) := by omega
              have z0 : decide ((0 : Int) < ((0 : Nat) : Int)) = false := by decide
              have z1 : decide (((0 : Nat) : Int) = 0) = true := by decide
              have z2 := decide_eq_true hd
              have hb' : m__law_same 60 [.non, .non] = ret (.bl true) := hb
              simp (disch := (first | assumption | (refine InP.mem ?_; assumption) | omega | solve_by_elim | (simp only [InP, decide_eq_true_eq, List.map_id', List.length_map, List.length_cons, List.length_nil, List.length_append, List.length_range, List.length_zip, List.length_tail, List.length_take, List.length_drop, rI_len, rng_len, mem_rI, List.mem_range] at *; omega) | (simp only [List.map_id']; assumption) | simp)) only [r_bnd, r_lift, r_op2, r_cmpT, r_asB, r_asI, r_valT, r_tru_bl, r_tru_int, r_tru_lst, r_tru_tup, r_tru_non, r_notT, r_andTt, r_andTf, r_andT, r_orTt, r_orTf, r_orT, r_andMt, r_andMf, r_andM, r_orMt, r_orMf, r_orM, r_notM, r_negM, r_negD, r_ifM, r_consM, r_tupM, r_lstM, r_tup0, r_tup1, r_tup2, r_tup3, r_tup4, r_tup5, r_tup6, r_lst0, r_lst1, r_lst2, r_lst3, r_lst4, r_lst5, r_bcM, r_lenT, r_lenL, List.length_map, r_tupT, r_tupL, r_lstT, r_lstL, r_int, r_ixM, r_ixT, r_ixL, r_ptM, r_slM, r_slT, r_slL, r_itT, r_itL, r_isi, r_add, r_sub, r_lt, r_le, r_gt, r_ge, r_isN, r_isntN, r_isB, r_isntB, nonNon, nonI, nonT, nonL, nonB, nonS, r_retF, r_endR, r_endN, r_iteF, r_seqN, r_seqR, r_seqB, r_seqC, r_forM, r_own, r_ownd, r_par, r_parN, r_parNN, r_eltT, r_eltF, r_elt, r_eq, r_ne, r_eqb, r_neb, compG_ret, compG_none, compG_retIf, compG_filt, eltM_ret, forL_G, forG_unit, forG_find, chainM_ret, chainT_ret, s_iteB, s_iteT, s_comp, s_all, s_any, s_sum, max2_ok, min2_ok, s_zipL, s_zipT, zipT_map, s_pat2, s_pat3, s_app, s_extL, s_extT, s_count, s_atR, s_atC0, s_atC1, s_atC2, s_in_nats, s_nin_nats, List.map_map, Function.comp_apply, Bool.false_eq_true, if_true, if_false, ↓reduceIte, Bool.not_true, Bool.not_false, Bool.and_true, Bool.true_and, Bool.or_false, Bool.false_or, Bool.and_false, Bool.false_and, Bool.or_true, Bool.true_or, decide_true, decide_false, elb, nL, List.head?_nil, oN, List.map_nil, List.length_nil, z0, z1, z2, hb']
            | cons a r =>
              have hd : ¬ (n : Int) < ((k + 1 : Nat) : Int) := fun q => by
                have := hiff.mpr (by omega)
                cases this
              have h0 : (0 : Int) < ((a :: r).length : Int) := by rw [List.length_cons]; omega
              have h1 : ¬ ((a :: r).length : Int) = 0 := by omega
              have z0 : ∀ xs : List D, decide ((0 : Int) < ((D.int (a : Int) :: xs).length : Int)) = true := fun xs => decide_eq_true (by rw [List.length_cons]; omega)
              have z1 : ∀ xs : List D, decide (((D.int (a : Int) :: xs).length : Int) = 0) = false := fun xs => decide_eq_false (by rw [List.length_cons]; omega)
              have z2 := decide_eq_false hd
              have hb' : m__law_same 60 [.int (a : Int), .int (a : Int)] = ret (.bl true) := hb
              simp (disch := (first | assumption | (refine InP.mem ?_; assumption) | omega | solve_by_elim | (simp only [InP, decide_eq_true_eq, List.map_id', List.length_map, List.length_cons, List.length_nil, List.length_append, List.length_range, List.length_zip, List.length_tail, List.length_take, List.length_drop, rI_len, rng_len, mem_rI, List.mem_range] at *; omega) | (simp only [List.map_id']; assumption) | simp)) only [r_bnd, r_lift, r_op2, r_cmpT, r_asB, r_asI, r_valT, r_tru_bl, r_tru_int, r_tru_lst, r_tru_tup, r_tru_non, r_notT, r_andTt, r_andTf, r_andT, r_orTt, r_orTf, r_orT, r_andMt, r_andMf, r_andM, r_orMt, r_orMf, r_orM, r_notM, r_negM, r_negD, r_ifM, r_consM, r_tupM, r_lstM, r_tup0, r_tup1, r_tup2, r_tup3, r_tup4, r_tup5, r_tup6, r_lst0, r_lst1, r_lst2, r_lst3, r_lst4, r_lst5, r_bcM, r_lenT, r_lenL, List.length_map, r_tupT, r_tupL, r_lstT, r_lstL, r_int, r_ixM, r_ixT, r_ixL, r_ptM, r_slM, r_slT, r_slL, r_itT, r_itL, r_isi, r_add, r_sub, r_lt, r_le, r_gt, r_ge, r_isN, r_isntN, r_isB, r_isntB, nonNon, nonI, nonT, nonL, nonB, nonS, r_retF, r_endR, r_endN, r_iteF, r_seqN, r_seqR, r_seqB, r_seqC, r_forM, r_own, r_ownd, r_par, r_parN, r_parNN, r_eltT, r_eltF, r_elt, r_eq, r_ne, r_eqb, r_neb, compG_ret, compG_none, compG_retIf, compG_filt, eltM_ret, forL_G, forG_unit, forG_find, chainM_ret, chainT_ret, s_iteB, s_iteT, s_comp, s_all, s_any, s_sum, max2_ok, min2_ok, s_zipL, s_zipT, zipT_map, s_pat2, s_pat3, s_app, s_extL, s_extT, s_count, s_atR, s_atC0, s_atC1, s_atC2, s_in_nats, s_nin_nats, List.map_map, Function.comp_apply, Bool.false_eq_true, if_true, if_false, ↓reduceIte, Bool.not_true, Bool.not_false, Bool.and_true, Bool.true_and, Bool.or_false, Bool.false_or, Bool.and_false, Bool.false_and, Bool.or_true, Bool.true_or, decide_true, decide_false, elb, nL, List.head?_cons, oN, List.map_cons, z0, z1, z2, hb']
        refine Wp.parE (Wp.mono one_wp fun d ⟨a, k, e, ha, hk⟩ => Wp.mono one_wp fun d2 ⟨b, l, e2, hb, hl2⟩ => ?_)
        subst e
        subst e2
        have hsl : ∀ t k : Nat, k ≤ 3 → (stk rs t k).length ≤ 100 := fun t k h => by rw [stk_len]; have := Nat.mul_le_mul h hl; omega
        have hkl := hsl b l hl2
        refine Wp.val (v := lI (stk rs a k)) (by simp (disch := (first | assumption | (refine InP.mem ?_; assumption) | omega | solve_by_elim | (simp only [InP, decide_eq_true_eq, List.map_id', List.length_map, List.length_cons, List.length_nil, List.length_append, List.length_range, List.length_zip, List.length_tail, List.length_take, List.length_drop, rI_len, rng_len, mem_rI, List.mem_range] at *; omega) | (simp only [List.map_id']; assumption) | simp)) only [r_bnd, r_lift, r_op2, r_cmpT, r_asB, r_asI, r_valT, r_tru_bl, r_tru_int, r_tru_lst, r_tru_tup, r_tru_non, r_notT, r_andTt, r_andTf, r_andT, r_orTt, r_orTf, r_orT, r_andMt, r_andMf, r_andM, r_orMt, r_orMf, r_orM, r_notM, r_negM, r_negD, r_ifM, r_consM, r_tupM, r_lstM, r_tup0, r_tup1, r_tup2, r_tup3, r_tup4, r_tup5, r_tup6, r_lst0, r_lst1, r_lst2, r_lst3, r_lst4, r_lst5, r_bcM, r_lenT, r_lenL, List.length_map, r_tupT, r_tupL, r_lstT, r_lstL, r_int, r_ixM, r_ixT, r_ixL, r_ptM, r_slM, r_slT, r_slL, r_itT, r_itL, r_isi, r_add, r_sub, r_lt, r_le, r_gt, r_ge, r_isN, r_isntN, r_isB, r_isntB, nonNon, nonI, nonT, nonL, nonB, nonS, r_retF, r_endR, r_endN, r_iteF, r_seqN, r_seqR, r_seqB, r_seqC, r_forM, r_own, r_ownd, r_par, r_parN, r_parNN, r_eltT, r_eltF, r_elt, r_eq, r_ne, r_eqb, r_neb, compG_ret, compG_none, compG_retIf, compG_filt, eltM_ret, forL_G, forG_unit, forG_find, chainM_ret, chainT_ret, s_iteB, s_iteT, s_comp, s_all, s_any, s_sum, max2_ok, min2_ok, s_zipL, s_zipT, zipT_map, s_pat2, s_pat3, s_app, s_extL, s_extT, s_count, s_atR, s_atC0, s_atC1, s_atC2, s_in_nats, s_nin_nats, List.map_map, Function.comp_apply, Bool.false_eq_true, if_true, if_false, ↓reduceIte, Bool.not_true, Bool.not_false, Bool.and_true, Bool.true_and, Bool.or_false, Bool.false_or, Bool.and_false, Bool.false_and, Bool.or_true, Bool.true_or, decide_true, decide_false, law_stickers_ok hg a k (by omega) (by omega)]) ?_
        refine Wp.val (v := .bl (apartB rs a k b l)) (by
          simp (disch := (first | assumption | (refine InP.mem ?_; assumption) | omega | solve_by_elim | (simp only [InP, decide_eq_true_eq, List.map_id', List.length_map, List.length_cons, List.length_nil, List.length_append, List.length_range, List.length_zip, List.length_tail, List.length_take, List.length_drop, rI_len, rng_len, mem_rI, List.mem_range] at *; omega) | (simp only [List.map_id']; assumption) | simp)) only [r_bnd, r_lift, r_op2, r_cmpT, r_asB, r_asI, r_valT, r_tru_bl, r_tru_int, r_tru_lst, r_tru_tup, r_tru_non, r_notT, r_andTt, r_andTf, r_andT, r_orTt, r_orTf, r_orT, r_andMt, r_andMf, r_andM, r_orMt, r_orMf, r_orM, r_notM, r_negM, r_negD, r_ifM, r_consM, r_tupM, r_lstM, r_tup0, r_tup1, r_tup2, r_tup3, r_tup4, r_tup5, r_tup6, r_lst0, r_lst1, r_lst2, r_lst3, r_lst4, r_lst5, r_bcM, r_lenT, r_lenL, List.length_map, r_tupT, r_tupL, r_lstT, r_lstL, r_int, r_ixM, r_ixT, r_ixL, r_ptM, r_slM, r_slT, r_slL, r_itT, r_itL, r_isi, r_add, r_sub, r_lt, r_le, r_gt, r_ge, r_isN, r_isntN, r_isB, r_isntB, nonNon, nonI, nonT, nonL, nonB, nonS, r_retF, r_endR, r_endN, r_iteF, r_seqN, r_seqR, r_seqB, r_seqC, r_forM, r_own, r_ownd, r_par, r_parN, r_parNN, r_eltT, r_eltF, r_elt, r_eq, r_ne, r_eqb, r_neb, compG_ret, compG_none, compG_retIf, compG_filt, eltM_ret, forL_G, forG_unit, forG_find, chainM_ret, chainT_ret, s_iteB, s_iteT, s_comp, s_all, s_any, s_sum, max2_ok, min2_ok, s_zipL, s_zipT, zipT_map, s_pat2, s_pat3, s_app, s_extL, s_extT, s_count, s_atR, s_atC0, s_atC1, s_atC2, s_in_nats, s_nin_nats, List.map_map, Function.comp_apply, Bool.false_eq_true, if_true, if_false, ↓reduceIte, Bool.not_true, Bool.not_false, Bool.and_true, Bool.true_and, Bool.or_false, Bool.false_or, Bool.and_false, Bool.false_and, Bool.or_true, Bool.true_or, decide_true, decide_false, law_stickers_ok hg b l (by omega) (by omega), lI]
          have hi := fun x => in_lI x (stk rs a k)
          simp only [lI] at hi
          simp (disch := (first | assumption | (refine InP.mem ?_; assumption) | omega | solve_by_elim | (simp only [InP, decide_eq_true_eq, List.map_id', List.length_map, List.length_cons, List.length_nil, List.length_append, List.length_range, List.length_zip, List.length_tail, List.length_take, List.length_drop, rI_len, rng_len, mem_rI, List.mem_range] at *; omega) | (simp only [List.map_id']; assumption) | simp)) only [r_bnd, r_lift, r_op2, r_cmpT, r_asB, r_asI, r_valT, r_tru_bl, r_tru_int, r_tru_lst, r_tru_tup, r_tru_non, r_notT, r_andTt, r_andTf, r_andT, r_orTt, r_orTf, r_orT, r_andMt, r_andMf, r_andM, r_orMt, r_orMf, r_orM, r_notM, r_negM, r_negD, r_ifM, r_consM, r_tupM, r_lstM, r_tup0, r_tup1, r_tup2, r_tup3, r_tup4, r_tup5, r_tup6, r_lst0, r_lst1, r_lst2, r_lst3, r_lst4, r_lst5, r_bcM, r_lenT, r_lenL, List.length_map, r_tupT, r_tupL, r_lstT, r_lstL, r_int, r_ixM, r_ixT, r_ixL, r_ptM, r_slM, r_slT, r_slL, r_itT, r_itL, r_isi, r_add, r_sub, r_lt, r_le, r_gt, r_ge, r_isN, r_isntN, r_isB, r_isntB, nonNon, nonI, nonT, nonL, nonB, nonS, r_retF, r_endR, r_endN, r_iteF, r_seqN, r_seqR, r_seqB, r_seqC, r_forM, r_own, r_ownd, r_par, r_parN, r_parNN, r_eltT, r_eltF, r_elt, r_eq, r_ne, r_eqb, r_neb, compG_ret, compG_none, compG_retIf, compG_filt, eltM_ret, forL_G, forG_unit, forG_find, chainM_ret, chainT_ret, s_iteB, s_iteT, s_comp, s_all, s_any, s_sum, max2_ok, min2_ok, s_zipL, s_zipT, zipT_map, s_pat2, s_pat3, s_app, s_extL, s_extT, s_count, s_atR, s_atC0, s_atC1, s_atC2, s_in_nats, s_nin_nats, List.map_map, Function.comp_apply, Bool.false_eq_true, if_true, if_false, ↓reduceIte, Bool.not_true, Bool.not_false, Bool.and_true, Bool.true_and, Bool.or_false, Bool.false_or, Bool.and_false, Bool.false_and, Bool.or_true, Bool.true_or, decide_true, decide_false, hi]
          rfl) ?_
        refine Wp.off ?_ ?_
        · have hb2 : Pb 1 (.tup [.bl (apartB rs a k b l), .bl (apartB rs a k b l)]) := .tup (fun x hx => by
            simp only [List.mem_cons, List.not_mem_nil, or_false] at hx
            rcases hx with rfl | rfl <;> exact .bl _) (by simp)
          simp (disch := (first | assumption | (refine InP.mem ?_; assumption) | omega | solve_by_elim | (simp only [InP, decide_eq_true_eq, List.map_id', List.length_map, List.length_cons, List.length_nil, List.length_append, List.length_range, List.length_zip, List.length_tail, List.length_take, List.length_drop, rI_len, rng_len, mem_rI, List.mem_range] at *; omega) | (simp only [List.map_id']; assumption) | simp)) only [r_bnd, r_lift, r_op2, r_cmpT, r_asB, r_asI, r_valT, r_tru_bl, r_tru_int, r_tru_lst, r_tru_tup, r_tru_non, r_notT, r_andTt, r_andTf, r_andT, r_orTt, r_orTf, r_orT, r_andMt, r_andMf, r_andM, r_orMt, r_orMf, r_orM, r_notM, r_negM, r_negD, r_ifM, r_consM, r_tupM, r_lstM, r_tup0, r_tup1, r_tup2, r_tup3, r_tup4, r_tup5, r_tup6, r_lst0, r_lst1, r_lst2, r_lst3, r_lst4, r_lst5, r_bcM, r_lenT, r_lenL, List.length_map, r_tupT, r_tupL, r_lstT, r_lstL, r_int, r_ixM, r_ixT, r_ixL, r_ptM, r_slM, r_slT, r_slL, r_itT, r_itL, r_isi, r_add, r_sub, r_lt, r_le, r_gt, r_ge, r_isN, r_isntN, r_isB, r_isntB, nonNon, nonI, nonT, nonL, nonB, nonS, r_retF, r_endR, r_endN, r_iteF, r_seqN, r_seqR, r_seqB, r_seqC, r_forM, r_own, r_ownd, r_par, r_parN, r_parNN, r_eltT, r_eltF, r_elt, r_eq, r_ne, r_eqb, r_neb, compG_ret, compG_none, compG_retIf, compG_filt, eltM_ret, forL_G, forG_unit, forG_find, chainM_ret, chainT_ret, s_iteB, s_iteT, s_comp, s_all, s_any, s_sum, max2_ok, min2_ok, s_zipL, s_zipT, zipT_map, s_pat2, s_pat3, s_app, s_extL, s_extT, s_count, s_atR, s_atC0, s_atC1, s_atC2, s_in_nats, s_nin_nats, List.map_map, Function.comp_apply, Bool.false_eq_true, if_true, if_false, ↓reduceIte, Bool.not_true, Bool.not_false, Bool.and_true, Bool.true_and, Bool.or_false, Bool.false_or, Bool.and_false, Bool.false_and, Bool.or_true, Bool.true_or, decide_true, decide_false, are_apart_ok hg a k b l (by omega) (by omega) (by omega) (by omega), are_apart_ok hg b l a k (by omega) (by omega) (by omega) (by omega), apart_sym rs b l a k, same60 hb2 (by decide)]
        · refine Wp.val rfl ?_
          refine Wp.bnd (Wp.eq (n := ret ((List.range 3).map fun k : Nat => .int ((k + 1 : Nat) : Int))) (by rw [rng2_ok (by decide) (by decide) (by decide) (by decide)]; rfl) (Wp.ret ?_))
          refine Wp.forI (fun pre s => if pre.length = 0 then s = .int 0 else s = oN (apF rs pre.length).head?) (by simp) (fun pre x post s hx hI => ?_) fun s _ => Wp.ret rfl
          have hlen := congrArg List.length hx
          rw [List.length_map, List.length_range, List.length_append, List.length_cons] at hlen
          have hxv : x = .int ((pre.length + 1 : Nat) : Int) := by
            have h1 := congrArg (fun l => l[pre.length]?) hx
            simp only [List.getElem?_map, List.getElem?_range (show pre.length < 3 by omega), Option.map_some] at h1
            rw [List.getElem?_append_right (Nat.le_refl _), Nat.sub_self] at h1
            simpa using h1.symm
          subst hxv
          generalize hq : pre.length = q at hI hlen ⊢
          have hsk : ∀ t, (stk rs t (q + 1)).length ≤ 16777216 := fun t => by have := hsl t (q + 1) (by omega); omega
          have el := fun t (ht : t < Pd rs) => law_stickers_ok hg t (q + 1) (by omega) (by omega)
          have el0 := el 0 P0
          rw [show ((0 : Nat) : Int) = 0 from rfl] at el0
          refine Wp.val (v := lI (stk rs 0 (q + 1))) (by simp (disch := (first | assumption | (refine InP.mem ?_; assumption) | omega | solve_by_elim | (simp only [InP, decide_eq_true_eq, List.map_id', List.length_map, List.length_cons, List.length_nil, List.length_append, List.length_range, List.length_zip, List.length_tail, List.length_take, List.length_drop, rI_len, rng_len, mem_rI, List.mem_range] at *; omega) | (simp only [List.map_id']; assumption) | simp)) only [r_bnd, r_lift, r_op2, r_cmpT, r_asB, r_asI, r_valT, r_tru_bl, r_tru_int, r_tru_lst, r_tru_tup, r_tru_non, r_notT, r_andTt, r_andTf, r_andT, r_orTt, r_orTf, r_orT, r_andMt, r_andMf, r_andM, r_orMt, r_orMf, r_orM, r_notM, r_negM, r_negD, r_ifM, r_consM, r_tupM, r_lstM, r_tup0, r_tup1, r_tup2, r_tup3, r_tup4, r_tup5, r_tup6, r_lst0, r_lst1, r_lst2, r_lst3, r_lst4, r_lst5, r_bcM, r_lenT, r_lenL, List.length_map, r_tupT, r_tupL, r_lstT, r_lstL, r_int, r_ixM, r_ixT, r_ixL, r_ptM, r_slM, r_slT, r_slL, r_itT, r_itL, r_isi, r_add, r_sub, r_lt, r_le, r_gt, r_ge, r_isN, r_isntN, r_isB, r_isntB, nonNon, nonI, nonT, nonL, nonB, nonS, r_retF, r_endR, r_endN, r_iteF, r_seqN, r_seqR, r_seqB, r_seqC, r_forM, r_own, r_ownd, r_par, r_parN, r_parNN, r_eltT, r_eltF, r_elt, r_eq, r_ne, r_eqb, r_neb, compG_ret, compG_none, compG_retIf, compG_filt, eltM_ret, forL_G, forG_unit, forG_find, chainM_ret, chainT_ret, s_iteB, s_iteT, s_comp, s_all, s_any, s_sum, max2_ok, min2_ok, s_zipL, s_zipT, zipT_map, s_pat2, s_pat3, s_app, s_extL, s_extT, s_count, s_atR, s_atC0, s_atC1, s_atC2, s_in_nats, s_nin_nats, List.map_map, Function.comp_apply, Bool.false_eq_true, if_true, if_false, ↓reduceIte, Bool.not_true, Bool.not_false, Bool.and_true, Bool.true_and, Bool.or_false, Bool.false_or, Bool.and_false, Bool.false_and, Bool.or_true, Bool.true_or, decide_true, decide_false, el0]) ?_
          refine Wp.val (v := nL (apF rs (q + 1))) ?_ ?_
          · have hi := fun x => in_lI x (stk rs 0 (q + 1))
            simp only [lI] at hi
            simp (disch := (first | assumption | (refine InP.mem ?_; assumption) | omega | solve_by_elim | (simp only [InP, decide_eq_true_eq, List.map_id', List.length_map, List.length_cons, List.length_nil, List.length_append, List.length_range, List.length_zip, List.length_tail, List.length_take, List.length_drop, rI_len, rng_len, mem_rI, List.mem_range] at *; omega) | (simp only [List.map_id']; assumption) | simp)) only [r_bnd, r_lift, r_op2, r_cmpT, r_asB, r_asI, r_valT, r_tru_bl, r_tru_int, r_tru_lst, r_tru_tup, r_tru_non, r_notT, r_andTt, r_andTf, r_andT, r_orTt, r_orTf, r_orT, r_andMt, r_andMf, r_andM, r_orMt, r_orMf, r_orM, r_notM, r_negM, r_negD, r_ifM, r_consM, r_tupM, r_lstM, r_tup0, r_tup1, r_tup2, r_tup3, r_tup4, r_tup5, r_tup6, r_lst0, r_lst1, r_lst2, r_lst3, r_lst4, r_lst5, r_bcM, r_lenT, r_lenL, List.length_map, r_tupT, r_tupL, r_lstT, r_lstL, r_int, r_ixM, r_ixT, r_ixL, r_ptM, r_slM, r_slT, r_slL, r_itT, r_itL, r_isi, r_add, r_sub, r_lt, r_le, r_gt, r_ge, r_isN, r_isntN, r_isB, r_isntB, nonNon, nonI, nonT, nonL, nonB, nonS, r_retF, r_endR, r_endN, r_iteF, r_seqN, r_seqR, r_seqB, r_seqC, r_forM, r_own, r_ownd, r_par, r_parN, r_parNN, r_eltT, r_eltF, r_elt, r_eq, r_ne, r_eqb, r_neb, compG_ret, compG_none, compG_retIf, compG_filt, eltM_ret, forL_G, forG_unit, forG_find, chainM_ret, chainT_ret, s_iteB, s_iteT, s_comp, s_all, s_any, s_sum, max2_ok, min2_ok, s_zipL, s_zipT, zipT_map, s_pat2, s_pat3, s_app, s_extL, s_extT, s_count, s_atR, s_atC0, s_atC1, s_atC2, s_in_nats, s_nin_nats, List.map_map, Function.comp_apply, Bool.false_eq_true, if_true, if_false, ↓reduceIte, Bool.not_true, Bool.not_false, Bool.and_true, Bool.true_and, Bool.or_false, Bool.false_or, Bool.and_false, Bool.false_and, Bool.or_true, Bool.true_or, decide_true, decide_false, rng1_ok, rng_nat, el, lI, hi]
            rfl
          · have ef := first_apart_ok hg hl (q + 1) (by omega)
            rw [find_head] at ef
            have ef' : m_first_apart [mD rs, .int ((q + 1 : Nat) : Int)] = ret (oN (apF rs (q + 1)).head?) := ef
            have hb := same60 (pb_oN (apF rs (q + 1)).head?) (by decide)
            have hv : (ifM (cmpT gtD (bcM lenD (consM (ret (nL (apF rs (q + 1)))) (ret []))) (ret (.int 0))) (ixM (ret (nL (apF rs (q + 1)))) (ret (.int 0))) (ret .non) : M Bx D) = ret (oN (apF rs (q + 1)).head?) := by
              cases apF rs (q + 1) with
              | nil => simp (disch := (first | assumption | (refine InP.mem ?_; assumption) | omega | solve_by_elim | (simp only [InP, decide_eq_true_eq, List.map_id', List.length_map, List.length_cons, List.length_nil, List.length_append, List.length_range, List.length_zip, List.length_tail, List.length_take, List.length_drop, rI_len, rng_len, mem_rI, List.mem_range] at *; omega) | (simp only [List.map_id']; assumption) | simp)) only [r_bnd, r_lift, r_op2, r_cmpT, r_asB, r_asI, r_valT, r_tru_bl, r_tru_int, r_tru_lst, r_tru_tup, r_tru_non, r_notT, r_andTt, r_andTf, r_andT, r_orTt, r_orTf, r_orT, r_andMt, r_andMf, r_andM, r_orMt, r_orMf, r_orM, r_notM, r_negM, r_negD, r_ifM, r_consM, r_tupM, r_lstM, r_tup0, r_tup1, r_tup2, r_tup3, r_tup4, r_tup5, r_tup6, r_lst0, r_lst1, r_lst2, r_lst3, r_lst4, r_lst5, r_bcM, r_lenT, r_lenL, List.length_map, r_tupT, r_tupL, r_lstT, r_lstL, r_int, r_ixM, r_ixT, r_ixL, r_ptM, r_slM, r_slT, r_slL, r_itT, r_itL, r_isi, r_add, r_sub, r_lt, r_le, r_gt, r_ge, r_isN, r_isntN, r_isB, r_isntB, nonNon, nonI, nonT, nonL, nonB, nonS, r_retF, r_endR, r_endN, r_iteF, r_seqN, r_seqR, r_seqB, r_seqC, r_forM, r_own, r_ownd, r_par, r_parN, r_parNN, r_eltT, r_eltF, r_elt, r_eq, r_ne, r_eqb, r_neb, compG_ret, compG_none, compG_retIf, compG_filt, eltM_ret, forL_G, forG_unit, forG_find, chainM_ret, chainT_ret, s_iteB, s_iteT, s_comp, s_all, s_any, s_sum, max2_ok, min2_ok, s_zipL, s_zipT, zipT_map, s_pat2, s_pat3, s_app, s_extL, s_extT, s_count, s_atR, s_atC0, s_atC1, s_atC2, s_in_nats, s_nin_nats, List.map_map, Function.comp_apply, Bool.false_eq_true, if_true, if_false, ↓reduceIte, Bool.not_true, Bool.not_false, Bool.and_true, Bool.true_and, Bool.or_false, Bool.false_or, Bool.and_false, Bool.false_and, Bool.or_true, Bool.true_or, decide_true, decide_false, nL, List.map_nil, List.length_nil, List.head?_nil, oN]; rfl
              | cons y ys =>
                have z0 : ∀ xs : List D, decide ((0 : Int) < ((D.int (y : Int) :: xs).length : Int)) = true := fun xs => decide_eq_true (by rw [List.length_cons]; omega)
                simp (disch := (first | assumption | (refine InP.mem ?_; assumption) | omega | solve_by_elim | (simp only [InP, decide_eq_true_eq, List.map_id', List.length_map, List.length_cons, List.length_nil, List.length_append, List.length_range, List.length_zip, List.length_tail, List.length_take, List.length_drop, rI_len, rng_len, mem_rI, List.mem_range] at *; omega) | (simp only [List.map_id']; assumption) | simp)) only [r_bnd, r_lift, r_op2, r_cmpT, r_asB, r_asI, r_valT, r_tru_bl, r_tru_int, r_tru_lst, r_tru_tup, r_tru_non, r_notT, r_andTt, r_andTf, r_andT, r_orTt, r_orTf, r_orT, r_andMt, r_andMf, r_andM, r_orMt, r_orMf, r_orM, r_notM, r_negM, r_negD, r_ifM, r_consM, r_tupM, r_lstM, r_tup0, r_tup1, r_tup2, r_tup3, r_tup4, r_tup5, r_tup6, r_lst0, r_lst1, r_lst2, r_lst3, r_lst4, r_lst5, r_bcM, r_lenT, r_lenL, List.length_map, r_tupT, r_tupL, r_lstT, r_lstL, r_int, r_ixM, r_ixT, r_ixL, r_ptM, r_slM, r_slT, r_slL, r_itT, r_itL, r_isi, r_add, r_sub, r_lt, r_le, r_gt, r_ge, r_isN, r_isntN, r_isB, r_isntB, nonNon, nonI, nonT, nonL, nonB, nonS, r_retF, r_endR, r_endN, r_iteF, r_seqN, r_seqR, r_seqB, r_seqC, r_forM, r_own, r_ownd, r_par, r_parN, r_parNN, r_eltT, r_eltF, r_elt, r_eq, r_ne, r_eqb, r_neb, compG_ret, compG_none, compG_retIf, compG_filt, eltM_ret, forL_G, forG_unit, forG_find, chainM_ret, chainT_ret, s_iteB, s_iteT, s_comp, s_all, s_any, s_sum, max2_ok, min2_ok, s_zipL, s_zipT, zipT_map, s_pat2, s_pat3, s_app, s_extL, s_extT, s_count, s_atR, s_atC0, s_atC1, s_atC2, s_in_nats, s_nin_nats, List.map_map, Function.comp_apply, Bool.false_eq_true, if_true, if_false, ↓reduceIte, Bool.not_true, Bool.not_false, Bool.and_true, Bool.true_and, Bool.or_false, Bool.false_or, Bool.and_false, Bool.false_and, Bool.or_true, Bool.true_or, decide_true, decide_false, nL, List.map_cons, List.head?_cons, oN, z0]
            have hno : s = .non → apF rs (q + 1) = [] := fun e => by
              subst e
              by_cases c : q = 0
              · rw [if_pos c] at hI; cases hI
              · rw [if_neg c] at hI
                apply apF_mono
                cases e2 : apF rs q with
                | nil => rfl
                | cons y ys => rw [e2] at hI; cases hI
            refine Wp.off ?_ ?_
            · rw [hv]
              simp (disch := (first | assumption | (refine InP.mem ?_; assumption) | omega | solve_by_elim | (simp only [InP, decide_eq_true_eq, List.map_id', List.length_map, List.length_cons, List.length_nil, List.length_append, List.length_range, List.length_zip, List.length_tail, List.length_take, List.length_drop, rI_len, rng_len, mem_rI, List.mem_range] at *; omega) | (simp only [List.map_id']; assumption) | simp)) only [r_bnd, r_lift, r_op2, r_cmpT, r_asB, r_asI, r_valT, r_tru_bl, r_tru_int, r_tru_lst, r_tru_tup, r_tru_non, r_notT, r_andTt, r_andTf, r_andT, r_orTt, r_orTf, r_orT, r_andMt, r_andMf, r_andM, r_orMt, r_orMf, r_orM, r_notM, r_negM, r_negD, r_ifM, r_consM, r_tupM, r_lstM, r_tup0, r_tup1, r_tup2, r_tup3, r_tup4, r_tup5, r_tup6, r_lst0, r_lst1, r_lst2, r_lst3, r_lst4, r_lst5, r_bcM, r_lenT, r_lenL, List.length_map, r_tupT, r_tupL, r_lstT, r_lstL, r_int, r_ixM, r_ixT, r_ixL, r_ptM, r_slM, r_slT, r_slL, r_itT, r_itL, r_isi, r_add, r_sub, r_lt, r_le, r_gt, r_ge, r_isN, r_isntN, r_isB, r_isntB, nonNon, nonI, nonT, nonL, nonB, nonS, r_retF, r_endR, r_endN, r_iteF, r_seqN, r_seqR, r_seqB, r_seqC, r_forM, r_own, r_ownd, r_par, r_parN, r_parNN, r_eltT, r_eltF, r_elt, r_eq, r_ne, r_eqb, r_neb, compG_ret, compG_none, compG_retIf, compG_filt, eltM_ret, forL_G, forG_unit, forG_find, chainM_ret, chainT_ret, s_iteB, s_iteT, s_comp, s_all, s_any, s_sum, max2_ok, min2_ok, s_zipL, s_zipT, zipT_map, s_pat2, s_pat3, s_app, s_extL, s_extT, s_count, s_atR, s_atC0, s_atC1, s_atC2, s_in_nats, s_nin_nats, List.map_map, Function.comp_apply, Bool.false_eq_true, if_true, if_false, ↓reduceIte, Bool.not_true, Bool.not_false, Bool.and_true, Bool.true_and, Bool.or_false, Bool.false_or, Bool.and_false, Bool.false_and, Bool.or_true, Bool.true_or, decide_true, decide_false, ef', hb]
              cases hs : isNonD s with
              | false => rfl
              | true =>
                have : s = .non := by cases s <;> first | rfl | cases hs
                rw [hno this]
                simp (disch := (first | assumption | (refine InP.mem ?_; assumption) | omega | solve_by_elim | (simp only [InP, decide_eq_true_eq, List.map_id', List.length_map, List.length_cons, List.length_nil, List.length_append, List.length_range, List.length_zip, List.length_tail, List.length_take, List.length_drop, rI_len, rng_len, mem_rI, List.mem_range] at *; omega) | (simp only [List.map_id']; assumption) | simp)) only [r_bnd, r_lift, r_op2, r_cmpT, r_asB, r_asI, r_valT, r_tru_bl, r_tru_int, r_tru_lst, r_tru_tup, r_tru_non, r_notT, r_andTt, r_andTf, r_andT, r_orTt, r_orTf, r_orT, r_andMt, r_andMf, r_andM, r_orMt, r_orMf, r_orM, r_notM, r_negM, r_negD, r_ifM, r_consM, r_tupM, r_lstM, r_tup0, r_tup1, r_tup2, r_tup3, r_tup4, r_tup5, r_tup6, r_lst0, r_lst1, r_lst2, r_lst3, r_lst4, r_lst5, r_bcM, r_lenT, r_lenL, List.length_map, r_tupT, r_tupL, r_lstT, r_lstL, r_int, r_ixM, r_ixT, r_ixL, r_ptM, r_slM, r_slT, r_slL, r_itT, r_itL, r_isi, r_add, r_sub, r_lt, r_le, r_gt, r_ge, r_isN, r_isntN, r_isB, r_isntB, nonNon, nonI, nonT, nonL, nonB, nonS, r_retF, r_endR, r_endN, r_iteF, r_seqN, r_seqR, r_seqB, r_seqC, r_forM, r_own, r_ownd, r_par, r_parN, r_parNN, r_eltT, r_eltF, r_elt, r_eq, r_ne, r_eqb, r_neb, compG_ret, compG_none, compG_retIf, compG_filt, eltM_ret, forL_G, forG_unit, forG_find, chainM_ret, chainT_ret, s_iteB, s_iteT, s_comp, s_all, s_any, s_sum, max2_ok, min2_ok, s_zipL, s_zipT, zipT_map, s_pat2, s_pat3, s_app, s_extL, s_extT, s_count, s_atR, s_atC0, s_atC1, s_atC2, s_in_nats, s_nin_nats, List.map_map, Function.comp_apply, Bool.false_eq_true, if_true, if_false, ↓reduceIte, Bool.not_true, Bool.not_false, Bool.and_true, Bool.true_and, Bool.or_false, Bool.false_or, Bool.and_false, Bool.false_and, Bool.or_true, Bool.true_or, decide_true, decide_false, nL, List.map_nil, List.length_nil]
                rfl
            · refine Wp.val hv (Wp.ret ⟨_, rfl, ?_⟩)
              rw [if_neg (by simp), List.length_append, hq]
              rfl
  · have g : Good [[1, 2, 3], [4, 5]] := by unfold Good; decide
    have hp : Pd [[1, 2, 3], [4, 5]] = 6 := by decide +kernel
    have ht : There [[1, 2, 3], [4, 5]] [1, 5] := ⟨by decide, by decide, fun x hx => by
      simp only [List.mem_cons, List.not_mem_nil, or_false] at hx
      rcases hx with rfl | rfl
      · exact ⟨0, by decide⟩
      · exact ⟨1, by decide⟩⟩
    have hs : sure [[1, 2, 3], [4, 5]] [1, 5] = 3 := by decide +kernel
    have a1 := least_box_ok (f := 0) (t0 := 3) (r := []) g (by decide) ht (by rw [hs]; decide) (by decide +kernel) (fun s h => absurd h (Nat.not_lt_zero _))
    have a2 := sure_box_ok g (by decide) ht
    have a3 := lacking_box_ok g (by decide) [1, 5] (by decide) 2 (by decide)
    have a4 := first_apart_ok g (by decide) 2 (by decide)
    rw [hs] at a2
    rw [show (List.range (Pd [[1, 2, 3], [4, 5]])).find? (fun t => !toldB [[1, 2, 3], [4, 5]] [1, 5] t 2) = some 1 by decide +kernel] at a3
    rw [show (List.range (Pd [[1, 2, 3], [4, 5]])).find? (fun t => apartB [[1, 2, 3], [4, 5]] 0 2 t 2) = none by decide +kernel] at a4
    have es : m__law_same 60 [.tup [.tup [.int 3, .int 1], .int 3, .int 1, .non], .tup [.tup [.int 3, .int 1], .int 3, .int 1, .non]] = ret (.bl true) := same60 (n := 2) (.tup (fun x hx => by
      simp only [List.mem_cons, List.not_mem_nil, or_false] at hx
      rcases hx with rfl | rfl | rfl | rfl
      · exact .tup (fun x hx => by
          simp only [List.mem_cons, List.not_mem_nil, or_false] at hx
          rcases hx with rfl | rfl <;> exact .int _) (by simp)
      · exact .int _
      · exact .int _
      · exact .non) (by simp)) (by decide)
    simp only [tI, mD, List.map_cons, List.map_nil, oN] at a1 a2 a3 a4
    rw [show ((0 : Nat) : Int) + 1 = 1 from rfl, show ((3 : Nat) : Int) = 3 from rfl] at a1
    rw [show ((2 : Nat) : Int) = 2 from rfl, show ((1 : Nat) : Int) = 1 from rfl] at a3
    rw [show ((2 : Nat) : Int) = 2 from rfl] at a4
    refine Wp.eq (n := ret (.rt (.bl true))) ?_ (Wp.ret ?_)
    · simp (disch := (first | assumption | (refine InP.mem ?_; assumption) | omega | solve_by_elim | (simp only [InP, decide_eq_true_eq, List.map_id', List.length_map, List.length_cons, List.length_nil, List.length_append, List.length_range, List.length_zip, List.length_tail, List.length_take, List.length_drop, rI_len, rng_len, mem_rI, List.mem_range] at *; omega) | (simp only [List.map_id']; assumption) | simp)) only [r_bnd, r_lift, r_op2, r_cmpT, r_asB, r_asI, r_valT, r_tru_bl, r_tru_int, r_tru_lst, r_tru_tup, r_tru_non, r_notT, r_andTt, r_andTf, r_andT, r_orTt, r_orTf, r_orT, r_andMt, r_andMf, r_andM, r_orMt, r_orMf, r_orM, r_notM, r_negM, r_negD, r_ifM, r_consM, r_tupM, r_lstM, r_tup0, r_tup1, r_tup2, r_tup3, r_tup4, r_tup5, r_tup6, r_lst0, r_lst1, r_lst2, r_lst3, r_lst4, r_lst5, r_bcM, r_lenT, r_lenL, List.length_map, r_tupT, r_tupL, r_lstT, r_lstL, r_int, r_ixM, r_ixT, r_ixL, r_ptM, r_slM, r_slT, r_slL, r_itT, r_itL, r_isi, r_add, r_sub, r_lt, r_le, r_gt, r_ge, r_isN, r_isntN, r_isB, r_isntB, nonNon, nonI, nonT, nonL, nonB, nonS, r_retF, r_endR, r_endN, r_iteF, r_seqN, r_seqR, r_seqB, r_seqC, r_forM, r_own, r_ownd, r_par, r_parN, r_parNN, r_eltT, r_eltF, r_elt, r_eq, r_ne, r_eqb, r_neb, compG_ret, compG_none, compG_retIf, compG_filt, eltM_ret, forL_G, forG_unit, forG_find, chainM_ret, chainT_ret, s_iteB, s_iteT, s_comp, s_all, s_any, s_sum, max2_ok, min2_ok, s_zipL, s_zipT, zipT_map, s_pat2, s_pat3, s_app, s_extL, s_extT, s_count, s_atR, s_atC0, s_atC1, s_atC2, s_in_nats, s_nin_nats, List.map_map, Function.comp_apply, Bool.false_eq_true, if_true, if_false, ↓reduceIte, Bool.not_true, Bool.not_false, Bool.and_true, Bool.true_and, Bool.or_false, Bool.false_or, Bool.and_false, Bool.false_and, Bool.or_true, Bool.true_or, decide_true, decide_false, a1, a2, a3, a4, es]
    · exact Wp.ret rfl
theorem law_true (b : Bx) : ∃ b', bnd b_law endF b = some (.bl true, b') := by
  obtain ⟨d, b', e, h⟩ := law_wp b
  subst h
  exact ⟨b', e⟩
end Lw

namespace Lw
open PySem PySem.Spec PyProof.Rows L2 Sn
theorem all_mk (hm : ∀ b : Bx, ∃ b', bnd b_law endF b = some (.bl true, b')) {l : PySem.W.OpenLaw} {w : World} {K : PySem.W.Frag} {h : Heap} {mg : Str → Option Value} {fa : Addr} (X : K.In h) (G : h.Ns mainGlobals mg) (hfa : mg "law" = some (.ref fa))
    {f_is_number : Addr} {od_is_number an_is_number : Option Addr} {sl_is_number : Array (Option Value)} {oc_is_number kV_is_number dc_is_number pm_is_number cd_is_number ct_is_number : Value}
    {f_is_reel : Addr} {od_is_reel an_is_reel : Option Addr} {sl_is_reel : Array (Option Value)} {oc_is_reel kV_is_reel dc_is_reel pm_is_reel cd_is_reel ct_is_reel : Value}
    {f_is_machine : Addr} {od_is_machine an_is_machine : Option Addr} {sl_is_machine : Array (Option Value)} {oc_is_machine kV_is_machine dc_is_machine pm_is_machine cd_is_machine ct_is_machine : Value}
    {f_packet_at : Addr} {od_packet_at an_packet_at : Option Addr} {sl_packet_at : Array (Option Value)} {oc_packet_at kV_packet_at dc_packet_at pm_packet_at cd_packet_at ct_packet_at : Value}
    {f_root_of_reel : Addr} {od_root_of_reel an_root_of_reel : Option Addr} {sl_root_of_reel : Array (Option Value)} {oc_root_of_reel kV_root_of_reel dc_root_of_reel pm_root_of_reel cd_root_of_reel ct_root_of_reel : Value}
    {f_common_divisor : Addr} {od_common_divisor an_common_divisor : Option Addr} {sl_common_divisor : Array (Option Value)} {oc_common_divisor kV_common_divisor dc_common_divisor pm_common_divisor cd_common_divisor ct_common_divisor : Value}
    {f_common_multiple : Addr} {od_common_multiple an_common_multiple : Option Addr} {sl_common_multiple : Array (Option Value)} {oc_common_multiple kV_common_multiple dc_common_multiple pm_common_multiple cd_common_multiple ct_common_multiple : Value}
    {f_period_of : Addr} {od_period_of an_period_of : Option Addr} {sl_period_of : Array (Option Value)} {oc_period_of kV_period_of dc_period_of pm_period_of cd_period_of ct_period_of : Value}
    {f_all_stickers_in : Addr} {od_all_stickers_in an_all_stickers_in : Option Addr} {sl_all_stickers_in : Array (Option Value)} {oc_all_stickers_in kV_all_stickers_in dc_all_stickers_in pm_all_stickers_in cd_all_stickers_in ct_all_stickers_in : Value}
    {f_box_counts : Addr} {od_box_counts an_box_counts : Option Addr} {sl_box_counts : Array (Option Value)} {oc_box_counts kV_box_counts dc_box_counts pm_box_counts cd_box_counts ct_box_counts : Value}
    {f_has_told : Addr} {od_has_told an_has_told : Option Addr} {sl_has_told : Array (Option Value)} {oc_has_told kV_has_told dc_has_told pm_has_told cd_has_told ct_has_told : Value}
    {f_moments_of : Addr} {od_moments_of an_moments_of : Option Addr} {sl_moments_of : Array (Option Value)} {oc_moments_of kV_moments_of dc_moments_of pm_moments_of cd_moments_of ct_moments_of : Value}
    {f_longest_way : Addr} {od_longest_way an_longest_way : Option Addr} {sl_longest_way : Array (Option Value)} {oc_longest_way kV_longest_way dc_longest_way pm_longest_way cd_longest_way ct_longest_way : Value}
    {f_sure_box : Addr} {od_sure_box an_sure_box : Option Addr} {sl_sure_box : Array (Option Value)} {oc_sure_box kV_sure_box dc_sure_box pm_sure_box cd_sure_box ct_sure_box : Value}
    {f_least_box : Addr} {od_least_box an_least_box : Option Addr} {sl_least_box : Array (Option Value)} {oc_least_box kV_least_box dc_least_box pm_least_box cd_least_box ct_least_box : Value}
    {f_lacking_box : Addr} {od_lacking_box an_lacking_box : Option Addr} {sl_lacking_box : Array (Option Value)} {oc_lacking_box kV_lacking_box dc_lacking_box pm_lacking_box cd_lacking_box ct_lacking_box : Value}
    {f_are_apart : Addr} {od_are_apart an_are_apart : Option Addr} {sl_are_apart : Array (Option Value)} {oc_are_apart kV_are_apart dc_are_apart pm_are_apart cd_are_apart ct_are_apart : Value}
    {f_first_apart : Addr} {od_first_apart an_first_apart : Option Addr} {sl_first_apart : Array (Option Value)} {oc_first_apart kV_first_apart dc_first_apart pm_first_apart cd_first_apart ct_first_apart : Value}
    {f__law_box : Addr} {od__law_box an__law_box : Option Addr} {sl__law_box : Array (Option Value)} {oc__law_box kV__law_box dc__law_box pm__law_box cd__law_box ct__law_box : Value}
    {f__law_load : Addr} {od__law_load an__law_load : Option Addr} {sl__law_load : Array (Option Value)} {oc__law_load kV__law_load dc__law_load pm__law_load cd__law_load ct__law_load : Value}
    {f__law_draw : Addr} {od__law_draw an__law_draw : Option Addr} {sl__law_draw : Array (Option Value)} {oc__law_draw kV__law_draw dc__law_draw pm__law_draw cd__law_draw ct__law_draw : Value}
    {f__law_same : Addr} {od__law_same an__law_same : Option Addr} {sl__law_same : Array (Option Value)} {oc__law_same kV__law_same dc__law_same pm__law_same cd__law_same ct__law_same : Value}
    {f__law_machine : Addr} {od__law_machine an__law_machine : Option Addr} {sl__law_machine : Array (Option Value)} {oc__law_machine kV__law_machine dc__law_machine pm__law_machine cd__law_machine ct__law_machine : Value}
    {f__law_packet : Addr} {od__law_packet an__law_packet : Option Addr} {sl__law_packet : Array (Option Value)} {oc__law_packet kV__law_packet dc__law_packet pm__law_packet cd__law_packet ct__law_packet : Value}
    {f__law_period : Addr} {od__law_period an__law_period : Option Addr} {sl__law_period : Array (Option Value)} {oc__law_period kV__law_period dc__law_period pm__law_period cd__law_period ct__law_period : Value}
    {f__law_stickers : Addr} {od__law_stickers an__law_stickers : Option Addr} {sl__law_stickers : Array (Option Value)} {oc__law_stickers kV__law_stickers dc__law_stickers pm__law_stickers cd__law_stickers ct__law_stickers : Value}
    {f_law : Addr} {od_law an_law : Option Addr} {sl_law : Array (Option Value)} {oc_law kV_law dc_law pm_law cd_law ct_law : Value}
    (a_is_number : PySem.W.nsIn K mainGlobals "is_number" = some (some (.ref f_is_number))) (l_is_number : K.lookup f_is_number = some ⟨oc_is_number, od_is_number, .func (PySem.W.fnOf "is_number" "is_number" (defArgs s_is_number) (defBody s_is_number) (defScope s_is_number) .none kV_is_number dc_is_number pm_is_number an_is_number cd_is_number ct_is_number), sl_is_number⟩) (c_is_number : PySem.W.codeIn K cd_is_number "is_number" = true) (k_is_number : PySem.W.keepIn K (.ref f_is_number) = true)
    (a_is_reel : PySem.W.nsIn K mainGlobals "is_reel" = some (some (.ref f_is_reel))) (l_is_reel : K.lookup f_is_reel = some ⟨oc_is_reel, od_is_reel, .func (PySem.W.fnOf "is_reel" "is_reel" (defArgs s_is_reel) (defBody s_is_reel) (defScope s_is_reel) .none kV_is_reel dc_is_reel pm_is_reel an_is_reel cd_is_reel ct_is_reel), sl_is_reel⟩) (c_is_reel : PySem.W.codeIn K cd_is_reel "is_reel" = true) (k_is_reel : PySem.W.keepIn K (.ref f_is_reel) = true)
    (a_is_machine : PySem.W.nsIn K mainGlobals "is_machine" = some (some (.ref f_is_machine))) (l_is_machine : K.lookup f_is_machine = some ⟨oc_is_machine, od_is_machine, .func (PySem.W.fnOf "is_machine" "is_machine" (defArgs s_is_machine) (defBody s_is_machine) (defScope s_is_machine) .none kV_is_machine dc_is_machine pm_is_machine an_is_machine cd_is_machine ct_is_machine), sl_is_machine⟩) (c_is_machine : PySem.W.codeIn K cd_is_machine "is_machine" = true) (k_is_machine : PySem.W.keepIn K (.ref f_is_machine) = true)
    (a_packet_at : PySem.W.nsIn K mainGlobals "packet_at" = some (some (.ref f_packet_at))) (l_packet_at : K.lookup f_packet_at = some ⟨oc_packet_at, od_packet_at, .func (PySem.W.fnOf "packet_at" "packet_at" (defArgs s_packet_at) (defBody s_packet_at) (defScope s_packet_at) .none kV_packet_at dc_packet_at pm_packet_at an_packet_at cd_packet_at ct_packet_at), sl_packet_at⟩) (c_packet_at : PySem.W.codeIn K cd_packet_at "packet_at" = true) (k_packet_at : PySem.W.keepIn K (.ref f_packet_at) = true)
    (a_root_of_reel : PySem.W.nsIn K mainGlobals "root_of_reel" = some (some (.ref f_root_of_reel))) (l_root_of_reel : K.lookup f_root_of_reel = some ⟨oc_root_of_reel, od_root_of_reel, .func (PySem.W.fnOf "root_of_reel" "root_of_reel" (defArgs s_root_of_reel) (defBody s_root_of_reel) (defScope s_root_of_reel) .none kV_root_of_reel dc_root_of_reel pm_root_of_reel an_root_of_reel cd_root_of_reel ct_root_of_reel), sl_root_of_reel⟩) (c_root_of_reel : PySem.W.codeIn K cd_root_of_reel "root_of_reel" = true) (k_root_of_reel : PySem.W.keepIn K (.ref f_root_of_reel) = true)
    (a_common_divisor : PySem.W.nsIn K mainGlobals "common_divisor" = some (some (.ref f_common_divisor))) (l_common_divisor : K.lookup f_common_divisor = some ⟨oc_common_divisor, od_common_divisor, .func (PySem.W.fnOf "common_divisor" "common_divisor" (defArgs s_common_divisor) (defBody s_common_divisor) (defScope s_common_divisor) .none kV_common_divisor dc_common_divisor pm_common_divisor an_common_divisor cd_common_divisor ct_common_divisor), sl_common_divisor⟩) (c_common_divisor : PySem.W.codeIn K cd_common_divisor "common_divisor" = true) (k_common_divisor : PySem.W.keepIn K (.ref f_common_divisor) = true)
    (a_common_multiple : PySem.W.nsIn K mainGlobals "common_multiple" = some (some (.ref f_common_multiple))) (l_common_multiple : K.lookup f_common_multiple = some ⟨oc_common_multiple, od_common_multiple, .func (PySem.W.fnOf "common_multiple" "common_multiple" (defArgs s_common_multiple) (defBody s_common_multiple) (defScope s_common_multiple) .none kV_common_multiple dc_common_multiple pm_common_multiple an_common_multiple cd_common_multiple ct_common_multiple), sl_common_multiple⟩) (c_common_multiple : PySem.W.codeIn K cd_common_multiple "common_multiple" = true) (k_common_multiple : PySem.W.keepIn K (.ref f_common_multiple) = true)
    (a_period_of : PySem.W.nsIn K mainGlobals "period_of" = some (some (.ref f_period_of))) (l_period_of : K.lookup f_period_of = some ⟨oc_period_of, od_period_of, .func (PySem.W.fnOf "period_of" "period_of" (defArgs s_period_of) (defBody s_period_of) (defScope s_period_of) .none kV_period_of dc_period_of pm_period_of an_period_of cd_period_of ct_period_of), sl_period_of⟩) (c_period_of : PySem.W.codeIn K cd_period_of "period_of" = true) (k_period_of : PySem.W.keepIn K (.ref f_period_of) = true)
    (a_all_stickers_in : PySem.W.nsIn K mainGlobals "all_stickers_in" = some (some (.ref f_all_stickers_in))) (l_all_stickers_in : K.lookup f_all_stickers_in = some ⟨oc_all_stickers_in, od_all_stickers_in, .func (PySem.W.fnOf "all_stickers_in" "all_stickers_in" (defArgs s_all_stickers_in) (defBody s_all_stickers_in) (defScope s_all_stickers_in) .none kV_all_stickers_in dc_all_stickers_in pm_all_stickers_in an_all_stickers_in cd_all_stickers_in ct_all_stickers_in), sl_all_stickers_in⟩) (c_all_stickers_in : PySem.W.codeIn K cd_all_stickers_in "all_stickers_in" = true) (k_all_stickers_in : PySem.W.keepIn K (.ref f_all_stickers_in) = true)
    (a_box_counts : PySem.W.nsIn K mainGlobals "box_counts" = some (some (.ref f_box_counts))) (l_box_counts : K.lookup f_box_counts = some ⟨oc_box_counts, od_box_counts, .func (PySem.W.fnOf "box_counts" "box_counts" (defArgs s_box_counts) (defBody s_box_counts) (defScope s_box_counts) .none kV_box_counts dc_box_counts pm_box_counts an_box_counts cd_box_counts ct_box_counts), sl_box_counts⟩) (c_box_counts : PySem.W.codeIn K cd_box_counts "box_counts" = true) (k_box_counts : PySem.W.keepIn K (.ref f_box_counts) = true)
    (a_has_told : PySem.W.nsIn K mainGlobals "has_told" = some (some (.ref f_has_told))) (l_has_told : K.lookup f_has_told = some ⟨oc_has_told, od_has_told, .func (PySem.W.fnOf "has_told" "has_told" (defArgs s_has_told) (defBody s_has_told) (defScope s_has_told) .none kV_has_told dc_has_told pm_has_told an_has_told cd_has_told ct_has_told), sl_has_told⟩) (c_has_told : PySem.W.codeIn K cd_has_told "has_told" = true) (k_has_told : PySem.W.keepIn K (.ref f_has_told) = true)
    (a_moments_of : PySem.W.nsIn K mainGlobals "moments_of" = some (some (.ref f_moments_of))) (l_moments_of : K.lookup f_moments_of = some ⟨oc_moments_of, od_moments_of, .func (PySem.W.fnOf "moments_of" "moments_of" (defArgs s_moments_of) (defBody s_moments_of) (defScope s_moments_of) .none kV_moments_of dc_moments_of pm_moments_of an_moments_of cd_moments_of ct_moments_of), sl_moments_of⟩) (c_moments_of : PySem.W.codeIn K cd_moments_of "moments_of" = true) (k_moments_of : PySem.W.keepIn K (.ref f_moments_of) = true)
    (a_longest_way : PySem.W.nsIn K mainGlobals "longest_way" = some (some (.ref f_longest_way))) (l_longest_way : K.lookup f_longest_way = some ⟨oc_longest_way, od_longest_way, .func (PySem.W.fnOf "longest_way" "longest_way" (defArgs s_longest_way) (defBody s_longest_way) (defScope s_longest_way) .none kV_longest_way dc_longest_way pm_longest_way an_longest_way cd_longest_way ct_longest_way), sl_longest_way⟩) (c_longest_way : PySem.W.codeIn K cd_longest_way "longest_way" = true) (k_longest_way : PySem.W.keepIn K (.ref f_longest_way) = true)
    (a_sure_box : PySem.W.nsIn K mainGlobals "sure_box" = some (some (.ref f_sure_box))) (l_sure_box : K.lookup f_sure_box = some ⟨oc_sure_box, od_sure_box, .func (PySem.W.fnOf "sure_box" "sure_box" (defArgs s_sure_box) (defBody s_sure_box) (defScope s_sure_box) .none kV_sure_box dc_sure_box pm_sure_box an_sure_box cd_sure_box ct_sure_box), sl_sure_box⟩) (c_sure_box : PySem.W.codeIn K cd_sure_box "sure_box" = true) (k_sure_box : PySem.W.keepIn K (.ref f_sure_box) = true)
    (a_least_box : PySem.W.nsIn K mainGlobals "least_box" = some (some (.ref f_least_box))) (l_least_box : K.lookup f_least_box = some ⟨oc_least_box, od_least_box, .func (PySem.W.fnOf "least_box" "least_box" (defArgs s_least_box) (defBody s_least_box) (defScope s_least_box) .none kV_least_box dc_least_box pm_least_box an_least_box cd_least_box ct_least_box), sl_least_box⟩) (c_least_box : PySem.W.codeIn K cd_least_box "least_box" = true) (k_least_box : PySem.W.keepIn K (.ref f_least_box) = true)
    (a_lacking_box : PySem.W.nsIn K mainGlobals "lacking_box" = some (some (.ref f_lacking_box))) (l_lacking_box : K.lookup f_lacking_box = some ⟨oc_lacking_box, od_lacking_box, .func (PySem.W.fnOf "lacking_box" "lacking_box" (defArgs s_lacking_box) (defBody s_lacking_box) (defScope s_lacking_box) .none kV_lacking_box dc_lacking_box pm_lacking_box an_lacking_box cd_lacking_box ct_lacking_box), sl_lacking_box⟩) (c_lacking_box : PySem.W.codeIn K cd_lacking_box "lacking_box" = true) (k_lacking_box : PySem.W.keepIn K (.ref f_lacking_box) = true)
    (a_are_apart : PySem.W.nsIn K mainGlobals "are_apart" = some (some (.ref f_are_apart))) (l_are_apart : K.lookup f_are_apart = some ⟨oc_are_apart, od_are_apart, .func (PySem.W.fnOf "are_apart" "are_apart" (defArgs s_are_apart) (defBody s_are_apart) (defScope s_are_apart) .none kV_are_apart dc_are_apart pm_are_apart an_are_apart cd_are_apart ct_are_apart), sl_are_apart⟩) (c_are_apart : PySem.W.codeIn K cd_are_apart "are_apart" = true) (k_are_apart : PySem.W.keepIn K (.ref f_are_apart) = true)
    (a_first_apart : PySem.W.nsIn K mainGlobals "first_apart" = some (some (.ref f_first_apart))) (l_first_apart : K.lookup f_first_apart = some ⟨oc_first_apart, od_first_apart, .func (PySem.W.fnOf "first_apart" "first_apart" (defArgs s_first_apart) (defBody s_first_apart) (defScope s_first_apart) .none kV_first_apart dc_first_apart pm_first_apart an_first_apart cd_first_apart ct_first_apart), sl_first_apart⟩) (c_first_apart : PySem.W.codeIn K cd_first_apart "first_apart" = true) (k_first_apart : PySem.W.keepIn K (.ref f_first_apart) = true)
    (a__law_box : PySem.W.nsIn K mainGlobals "_law_box" = some (some (.ref f__law_box))) (l__law_box : K.lookup f__law_box = some ⟨oc__law_box, od__law_box, .func (PySem.W.fnOf "_law_box" "_law_box" (defArgs s__law_box) (defBody s__law_box) (defScope s__law_box) .none kV__law_box dc__law_box pm__law_box an__law_box cd__law_box ct__law_box), sl__law_box⟩) (c__law_box : PySem.W.codeIn K cd__law_box "_law_box" = true) (k__law_box : PySem.W.keepIn K (.ref f__law_box) = true)
    (a__law_load : PySem.W.nsIn K mainGlobals "_law_load" = some (some (.ref f__law_load))) (l__law_load : K.lookup f__law_load = some ⟨oc__law_load, od__law_load, .func (PySem.W.fnOf "_law_load" "_law_load" (defArgs s__law_load) (defBody s__law_load) (defScope s__law_load) .none kV__law_load dc__law_load pm__law_load an__law_load cd__law_load ct__law_load), sl__law_load⟩) (c__law_load : PySem.W.codeIn K cd__law_load "_law_load" = true) (k__law_load : PySem.W.keepIn K (.ref f__law_load) = true)
    (a__law_draw : PySem.W.nsIn K mainGlobals "_law_draw" = some (some (.ref f__law_draw))) (l__law_draw : K.lookup f__law_draw = some ⟨oc__law_draw, od__law_draw, .func (PySem.W.fnOf "_law_draw" "_law_draw" (defArgs s__law_draw) (defBody s__law_draw) (defScope s__law_draw) .none kV__law_draw dc__law_draw pm__law_draw an__law_draw cd__law_draw ct__law_draw), sl__law_draw⟩) (c__law_draw : PySem.W.codeIn K cd__law_draw "_law_draw" = true) (k__law_draw : PySem.W.keepIn K (.ref f__law_draw) = true)
    (a__law_same : PySem.W.nsIn K mainGlobals "_law_same" = some (some (.ref f__law_same))) (l__law_same : K.lookup f__law_same = some ⟨oc__law_same, od__law_same, .func (PySem.W.fnOf "_law_same" "_law_same" (defArgs s__law_same) (defBody s__law_same) (defScope s__law_same) .none kV__law_same dc__law_same pm__law_same an__law_same cd__law_same ct__law_same), sl__law_same⟩) (c__law_same : PySem.W.codeIn K cd__law_same "_law_same" = true) (k__law_same : PySem.W.keepIn K (.ref f__law_same) = true)
    (a__law_machine : PySem.W.nsIn K mainGlobals "_law_machine" = some (some (.ref f__law_machine))) (l__law_machine : K.lookup f__law_machine = some ⟨oc__law_machine, od__law_machine, .func (PySem.W.fnOf "_law_machine" "_law_machine" (defArgs s__law_machine) (defBody s__law_machine) (defScope s__law_machine) .none kV__law_machine dc__law_machine pm__law_machine an__law_machine cd__law_machine ct__law_machine), sl__law_machine⟩) (c__law_machine : PySem.W.codeIn K cd__law_machine "_law_machine" = true) (k__law_machine : PySem.W.keepIn K (.ref f__law_machine) = true)
    (a__law_packet : PySem.W.nsIn K mainGlobals "_law_packet" = some (some (.ref f__law_packet))) (l__law_packet : K.lookup f__law_packet = some ⟨oc__law_packet, od__law_packet, .func (PySem.W.fnOf "_law_packet" "_law_packet" (defArgs s__law_packet) (defBody s__law_packet) (defScope s__law_packet) .none kV__law_packet dc__law_packet pm__law_packet an__law_packet cd__law_packet ct__law_packet), sl__law_packet⟩) (c__law_packet : PySem.W.codeIn K cd__law_packet "_law_packet" = true) (k__law_packet : PySem.W.keepIn K (.ref f__law_packet) = true)
    (a__law_period : PySem.W.nsIn K mainGlobals "_law_period" = some (some (.ref f__law_period))) (l__law_period : K.lookup f__law_period = some ⟨oc__law_period, od__law_period, .func (PySem.W.fnOf "_law_period" "_law_period" (defArgs s__law_period) (defBody s__law_period) (defScope s__law_period) .none kV__law_period dc__law_period pm__law_period an__law_period cd__law_period ct__law_period), sl__law_period⟩) (c__law_period : PySem.W.codeIn K cd__law_period "_law_period" = true) (k__law_period : PySem.W.keepIn K (.ref f__law_period) = true)
    (a__law_stickers : PySem.W.nsIn K mainGlobals "_law_stickers" = some (some (.ref f__law_stickers))) (l__law_stickers : K.lookup f__law_stickers = some ⟨oc__law_stickers, od__law_stickers, .func (PySem.W.fnOf "_law_stickers" "_law_stickers" (defArgs s__law_stickers) (defBody s__law_stickers) (defScope s__law_stickers) .none kV__law_stickers dc__law_stickers pm__law_stickers an__law_stickers cd__law_stickers ct__law_stickers), sl__law_stickers⟩) (c__law_stickers : PySem.W.codeIn K cd__law_stickers "_law_stickers" = true) (k__law_stickers : PySem.W.keepIn K (.ref f__law_stickers) = true)
    (a_law : PySem.W.nsIn K mainGlobals "law" = some (some (.ref f_law))) (l_law : K.lookup f_law = some ⟨oc_law, od_law, .func (PySem.W.fnOf "law" "law" (defArgs s_law) (defBody s_law) (defScope s_law) .none kV_law dc_law pm_law an_law cd_law ct_law), sl_law⟩) (c_law : PySem.W.codeIn K cd_law "law" = true) (k_law : PySem.W.keepIn K (.ref f_law) = true)
    (z_all : PySem.W.nsIn K mainGlobals "all" = some none)
    (z_any : PySem.W.nsIn K mainGlobals "any" = some none)
    (z_bool : PySem.W.nsIn K mainGlobals "bool" = some none)
    (z_dict : PySem.W.nsIn K mainGlobals "dict" = some none)
    (z_int : PySem.W.nsIn K mainGlobals "int" = some none)
    (z_isinstance : PySem.W.nsIn K mainGlobals "isinstance" = some none)
    (z_len : PySem.W.nsIn K mainGlobals "len" = some none)
    (z_list : PySem.W.nsIn K mainGlobals "list" = some none)
    (z_max : PySem.W.nsIn K mainGlobals "max" = some none)
    (z_min : PySem.W.nsIn K mainGlobals "min" = some none)
    (z_range : PySem.W.nsIn K mainGlobals "range" = some none)
    (z_sorted : PySem.W.nsIn K mainGlobals "sorted" = some none)
    (z_str : PySem.W.nsIn K mainGlobals "str" = some none)
    (z_tuple : PySem.W.nsIn K mainGlobals "tuple" = some none)
    (z_zip : PySem.W.nsIn K mainGlobals "zip" = some none)
    {t_MOST_REEL : Tok} (y_MOST_REEL : PySem.W.nsIn K mainGlobals "MOST_REEL" = some (some (.int 12 t_MOST_REEL)))
    {t_MOST_REELS : Tok} (y_MOST_REELS : PySem.W.nsIn K mainGlobals "MOST_REELS" = some (some (.int 4 t_MOST_REELS)))
    {t_MOST_STICKERS : Tok} (y_MOST_STICKERS : PySem.W.nsIn K mainGlobals "MOST_STICKERS" = some (some (.int 200 t_MOST_STICKERS))) :
    ∃ fd : FuncData, (∀ (s : Shared) (v : Value), BindsTo s fd ⟨[v], []⟩ [("script", v)]) ∧ ∀ base : Heap, K.In base → base.Ns mainGlobals mg → FnOk l.prog w K mg base CX0 62 fa fd ["script"] (spLaw K) := by
  have e := hfa.symm.trans (PySem.W.mg_of X G a_law)
  cases e
  have F_is_number := fun_mk (st := s_is_number) l_is_number c_is_number k_is_number
  have F_is_reel := fun_mk (st := s_is_reel) l_is_reel c_is_reel k_is_reel
  have F_is_machine := fun_mk (st := s_is_machine) l_is_machine c_is_machine k_is_machine
  have F_packet_at := fun_mk (st := s_packet_at) l_packet_at c_packet_at k_packet_at
  have F_root_of_reel := fun_mk (st := s_root_of_reel) l_root_of_reel c_root_of_reel k_root_of_reel
  have F_common_divisor := fun_mk (st := s_common_divisor) l_common_divisor c_common_divisor k_common_divisor
  have F_common_multiple := fun_mk (st := s_common_multiple) l_common_multiple c_common_multiple k_common_multiple
  have F_period_of := fun_mk (st := s_period_of) l_period_of c_period_of k_period_of
  have F_all_stickers_in := fun_mk (st := s_all_stickers_in) l_all_stickers_in c_all_stickers_in k_all_stickers_in
  have F_box_counts := fun_mk (st := s_box_counts) l_box_counts c_box_counts k_box_counts
  have F_has_told := fun_mk (st := s_has_told) l_has_told c_has_told k_has_told
  have F_moments_of := fun_mk (st := s_moments_of) l_moments_of c_moments_of k_moments_of
  have F_longest_way := fun_mk (st := s_longest_way) l_longest_way c_longest_way k_longest_way
  have F_sure_box := fun_mk (st := s_sure_box) l_sure_box c_sure_box k_sure_box
  have F_least_box := fun_mk (st := s_least_box) l_least_box c_least_box k_least_box
  have F_lacking_box := fun_mk (st := s_lacking_box) l_lacking_box c_lacking_box k_lacking_box
  have F_are_apart := fun_mk (st := s_are_apart) l_are_apart c_are_apart k_are_apart
  have F_first_apart := fun_mk (st := s_first_apart) l_first_apart c_first_apart k_first_apart
  have F__law_box := fun_mk (st := s__law_box) l__law_box c__law_box k__law_box
  have F__law_load := fun_mk (st := s__law_load) l__law_load c__law_load k__law_load
  have F__law_draw := fun_mk (st := s__law_draw) l__law_draw c__law_draw k__law_draw
  have F__law_same := fun_mk (st := s__law_same) l__law_same c__law_same k__law_same
  have F__law_machine := fun_mk (st := s__law_machine) l__law_machine c__law_machine k__law_machine
  have F__law_packet := fun_mk (st := s__law_packet) l__law_packet c__law_packet k__law_packet
  have F__law_period := fun_mk (st := s__law_period) l__law_period c__law_period k__law_period
  have F__law_stickers := fun_mk (st := s__law_stickers) l__law_stickers c__law_stickers k__law_stickers
  have F_law := fun_mk (st := s_law) l_law c_law k_law
  have z_all := PySem.W.mg_none_of X G z_all
  have z_any := PySem.W.mg_none_of X G z_any
  have z_bool := PySem.W.mg_none_of X G z_bool
  have z_dict := PySem.W.mg_none_of X G z_dict
  have z_int := PySem.W.mg_none_of X G z_int
  have z_isinstance := PySem.W.mg_none_of X G z_isinstance
  have z_len := PySem.W.mg_none_of X G z_len
  have z_list := PySem.W.mg_none_of X G z_list
  have z_max := PySem.W.mg_none_of X G z_max
  have z_min := PySem.W.mg_none_of X G z_min
  have z_range := PySem.W.mg_none_of X G z_range
  have z_sorted := PySem.W.mg_none_of X G z_sorted
  have z_str := PySem.W.mg_none_of X G z_str
  have z_tuple := PySem.W.mg_none_of X G z_tuple
  have z_zip := PySem.W.mg_none_of X G z_zip
  have c_MOST_REEL := PySem.W.mg_of X G y_MOST_REEL
  have c_MOST_REELS := PySem.W.mg_of X G y_MOST_REELS
  have c_MOST_STICKERS := PySem.W.mg_of X G y_MOST_STICKERS
  refine ⟨PySem.W.fnOf "law" "law" (defArgs s_law) (defBody s_law) (defScope s_law) .none kV_law dc_law pm_law an_law cd_law ct_law, fun s v => .of_eq rfl, fun base _ _ => ?_⟩
  have b_load := F__law_load.binds (ps := ["box"]) fun _ _ _ _ _ _ us hl => match us, hl with | [_], _ => rfl
  have b_box := F__law_box.binds (ps := ["script"]) fun _ _ _ _ _ _ us hl => match us, hl with | [_], _ => rfl
  have b_draw := F__law_draw.binds (ps := ["box", "many"]) fun _ _ _ _ _ _ us hl => match us, hl with | [_, _], _ => rfl
  have h__law_draw : HasF (S := Bx) ⟨l.prog, w, K, mg, base⟩ 2 "_law_draw" 2 m_draw := ⟨_, _, _, PySem.W.mg_of X G a__law_draw, k__law_draw, b_draw, ok_draw (k := 0) F__law_draw F__law_load b_load (PySem.W.mg_of X G a__law_load) z_len z_int⟩
  have h_is_number := h_is_number (P := l.prog) (w := w) (base := base) F_is_number (PySem.W.mg_of X G a_is_number) z_bool z_int z_isinstance
  have h_is_reel := h_is_reel (P := l.prog) (w := w) (base := base) F_is_reel (PySem.W.mg_of X G a_is_reel) z_all z_isinstance z_len z_tuple c_MOST_REEL c_MOST_STICKERS h_is_number
  have h_is_machine := h_is_machine (P := l.prog) (w := w) (base := base) F_is_machine (PySem.W.mg_of X G a_is_machine) z_all z_isinstance z_len z_tuple c_MOST_REELS h_is_reel
  have h_packet_at := h_packet_at (P := l.prog) (w := w) (base := base) F_packet_at (PySem.W.mg_of X G a_packet_at) z_len z_tuple
  have h_root_of_reel := h_root_of_reel (P := l.prog) (w := w) (base := base) F_root_of_reel (PySem.W.mg_of X G a_root_of_reel) z_len z_range
  have h_common_divisor := h_common_divisor (P := l.prog) (w := w) (base := base) F_common_divisor (PySem.W.mg_of X G a_common_divisor)
  have h_common_multiple := h_common_multiple (P := l.prog) (w := w) (base := base) F_common_multiple (PySem.W.mg_of X G a_common_multiple) h_common_divisor
  have h_period_of := h_period_of (P := l.prog) (w := w) (base := base) F_period_of (PySem.W.mg_of X G a_period_of) z_len h_root_of_reel h_common_multiple
  have h_all_stickers_in := h_all_stickers_in (P := l.prog) (w := w) (base := base) F_all_stickers_in (PySem.W.mg_of X G a_all_stickers_in) z_range h_packet_at
  have h_box_counts := h_box_counts (P := l.prog) (w := w) (base := base) F_box_counts (PySem.W.mg_of X G a_box_counts) z_sorted z_tuple h_all_stickers_in
  have h_has_told := h_has_told (P := l.prog) (w := w) (base := base) F_has_told (PySem.W.mg_of X G a_has_told) z_all h_all_stickers_in
  have h_moments_of := h_moments_of (P := l.prog) (w := w) (base := base) F_moments_of (PySem.W.mg_of X G a_moments_of) z_range h_period_of h_packet_at
  have h_longest_way := h_longest_way (P := l.prog) (w := w) (base := base) F_longest_way (PySem.W.mg_of X G a_longest_way) z_max z_zip h_moments_of h_period_of
  have h_sure_box := h_sure_box (P := l.prog) (w := w) (base := base) F_sure_box (PySem.W.mg_of X G a_sure_box) z_max h_longest_way
  have h_least_box := h_least_box (P := l.prog) (w := w) (base := base) F_least_box (PySem.W.mg_of X G a_least_box) z_range h_sure_box h_period_of h_has_told
  have h_lacking_box := h_lacking_box (P := l.prog) (w := w) (base := base) F_lacking_box (PySem.W.mg_of X G a_lacking_box) z_range h_period_of h_has_told
  have h_are_apart := h_are_apart (P := l.prog) (w := w) (base := base) F_are_apart (PySem.W.mg_of X G a_are_apart) z_any h_all_stickers_in
  have h_first_apart := h_first_apart (P := l.prog) (w := w) (base := base) F_first_apart (PySem.W.mg_of X G a_first_apart) z_range h_period_of h_are_apart
  have h__law_same := h__law_same (P := l.prog) (w := w) (base := base) F__law_same (PySem.W.mg_of X G a__law_same) z_all z_bool z_int z_isinstance z_len z_list z_range z_str z_tuple 60
  have h__law_machine := h__law_machine (P := l.prog) (w := w) (base := base) F__law_machine (PySem.W.mg_of X G a__law_machine) z_len z_range z_tuple h__law_draw
  have h__law_packet := h__law_packet (P := l.prog) (w := w) (base := base) F__law_packet (PySem.W.mg_of X G a__law_packet) z_len z_tuple
  have h__law_period := h__law_period (P := l.prog) (w := w) (base := base) F__law_period (PySem.W.mg_of X G a__law_period) z_len z_range h__law_packet
  have h__law_stickers := h__law_stickers (P := l.prog) (w := w) (base := base) F__law_stickers (PySem.W.mg_of X G a__law_stickers) z_range h__law_packet
  exact h_law (P := l.prog) (w := w) (base := base) F_law z_all z_any z_dict z_len z_min z_range z_sorted z_tuple h__law_draw h_box_counts h__law_same h_is_machine h__law_stickers h_sure_box h_least_box h_lacking_box h_are_apart h_first_apart h__law_period h__law_machine (ok_box (k := 0) F__law_box z_len z_list) k__law_box b_box (PySem.W.mg_of X G a__law_box) hm
end Lw
open PySem PySem.W PyProof.Rows
set_option maxHeartbeats 0 in
theorem PySem.Challenge.cw_albumsfilled_k59_whole_boxes_of_packets_holds : PySem.Challenge.rw_albumsfilled_k59_whole_boxes_of_packets.Holds := by
  w_on; o_law; k_head; (case hw => w_witness2)
  k_fill
  refine L2.walk_of (l := PySem.Challenge.rw_albumsfilled_k59_whole_boxes_of_packets) (n := 63) (k := 62) (x := "script") (CX := fun _ => L2.CX0) (sp := fun w => Sn.spLaw _) rfl (by decide) rfl ⟨rfl, by decide, by decide⟩ (fun w h Y => PySem.W.kIn_of Y) ?F (fun _ H a ns hl hO hS => ⟨a, ns, rfl, hS, hl, Sn.Sz.only hO, fun _ => rfl⟩) (fun _ _ _ _ _ h => h)
  case F =>
    intro w mg fa h KX G hmg
    refine' Lw.all_mk Lw.law_true KX G hmg ?a_is_number ?l_is_number ?c_is_number ?k_is_number ?a_is_reel ?l_is_reel ?c_is_reel ?k_is_reel ?a_is_machine ?l_is_machine ?c_is_machine ?k_is_machine ?a_packet_at ?l_packet_at ?c_packet_at ?k_packet_at ?a_root_of_reel ?l_root_of_reel ?c_root_of_reel ?k_root_of_reel ?a_common_divisor ?l_common_divisor ?c_common_divisor ?k_common_divisor ?a_common_multiple ?l_common_multiple ?c_common_multiple ?k_common_multiple ?a_period_of ?l_period_of ?c_period_of ?k_period_of ?a_all_stickers_in ?l_all_stickers_in ?c_all_stickers_in ?k_all_stickers_in ?a_box_counts ?l_box_counts ?c_box_counts ?k_box_counts ?a_has_told ?l_has_told ?c_has_told ?k_has_told ?a_moments_of ?l_moments_of ?c_moments_of ?k_moments_of ?a_longest_way ?l_longest_way ?c_longest_way ?k_longest_way ?a_sure_box ?l_sure_box ?c_sure_box ?k_sure_box ?a_least_box ?l_least_box ?c_least_box ?k_least_box ?a_lacking_box ?l_lacking_box ?c_lacking_box ?k_lacking_box ?a_are_apart ?l_are_apart ?c_are_apart ?k_are_apart ?a_first_apart ?l_first_apart ?c_first_apart ?k_first_apart ?a__law_box ?l__law_box ?c__law_box ?k__law_box ?a__law_load ?l__law_load ?c__law_load ?k__law_load ?a__law_draw ?l__law_draw ?c__law_draw ?k__law_draw ?a__law_same ?l__law_same ?c__law_same ?k__law_same ?a__law_machine ?l__law_machine ?c__law_machine ?k__law_machine ?a__law_packet ?l__law_packet ?c__law_packet ?k__law_packet ?a__law_period ?l__law_period ?c__law_period ?k__law_period ?a__law_stickers ?l__law_stickers ?c__law_stickers ?k__law_stickers ?a_law ?l_law ?c_law ?k_law ?z_all ?z_any ?z_bool ?z_dict ?z_int ?z_isinstance ?z_len ?z_list ?z_max ?z_min ?z_range ?z_sorted ?z_str ?z_tuple ?z_zip ?y_MOST_REEL ?y_MOST_REELS ?y_MOST_STICKERS
    (case a_is_number => k_is); (case l_is_number => k_is); (case c_is_number => k_is); (case k_is_number => k_is); (case a_is_reel => k_is); (case l_is_reel => k_is); (case c_is_reel => k_is); (case k_is_reel => k_is); (case a_is_machine => k_is); (case l_is_machine => k_is); (case c_is_machine => k_is); (case k_is_machine => k_is); (case a_packet_at => k_is); (case l_packet_at => k_is); (case c_packet_at => k_is); (case k_packet_at => k_is); (case a_root_of_reel => k_is); (case l_root_of_reel => k_is); (case c_root_of_reel => k_is); (case k_root_of_reel => k_is); (case a_common_divisor => k_is); (case l_common_divisor => k_is); (case c_common_divisor => k_is); (case k_common_divisor => k_is); (case a_common_multiple => k_is); (case l_common_multiple => k_is); (case c_common_multiple => k_is); (case k_common_multiple => k_is); (case a_period_of => k_is); (case l_period_of => k_is); (case c_period_of => k_is); (case k_period_of => k_is); (case a_all_stickers_in => k_is); (case l_all_stickers_in => k_is); (case c_all_stickers_in => k_is); (case k_all_stickers_in => k_is); (case a_box_counts => k_is); (case l_box_counts => k_is); (case c_box_counts => k_is); (case k_box_counts => k_is); (case a_has_told => k_is); (case l_has_told => k_is); (case c_has_told => k_is); (case k_has_told => k_is); (case a_moments_of => k_is); (case l_moments_of => k_is); (case c_moments_of => k_is); (case k_moments_of => k_is); (case a_longest_way => k_is); (case l_longest_way => k_is); (case c_longest_way => k_is); (case k_longest_way => k_is); (case a_sure_box => k_is); (case l_sure_box => k_is); (case c_sure_box => k_is); (case k_sure_box => k_is); (case a_least_box => k_is); (case l_least_box => k_is); (case c_least_box => k_is); (case k_least_box => k_is); (case a_lacking_box => k_is); (case l_lacking_box => k_is); (case c_lacking_box => k_is); (case k_lacking_box => k_is); (case a_are_apart => k_is); (case l_are_apart => k_is); (case c_are_apart => k_is); (case k_are_apart => k_is); (case a_first_apart => k_is); (case l_first_apart => k_is); (case c_first_apart => k_is); (case k_first_apart => k_is); (case a__law_box => k_is); (case l__law_box => k_is); (case c__law_box => k_is); (case k__law_box => k_is); (case a__law_load => k_is); (case l__law_load => k_is); (case c__law_load => k_is); (case k__law_load => k_is); (case a__law_draw => k_is); (case l__law_draw => k_is); (case c__law_draw => k_is); (case k__law_draw => k_is); (case a__law_same => k_is); (case l__law_same => k_is); (case c__law_same => k_is); (case k__law_same => k_is); (case a__law_machine => k_is); (case l__law_machine => k_is); (case c__law_machine => k_is); (case k__law_machine => k_is); (case a__law_packet => k_is); (case l__law_packet => k_is); (case c__law_packet => k_is); (case k__law_packet => k_is); (case a__law_period => k_is); (case l__law_period => k_is); (case c__law_period => k_is); (case k__law_period => k_is); (case a__law_stickers => k_is); (case l__law_stickers => k_is); (case c__law_stickers => k_is); (case k__law_stickers => k_is); (case a_law => k_is); (case l_law => k_is); (case c_law => k_is); (case k_law => k_is); (case z_all => k_is); (case z_any => k_is); (case z_bool => k_is); (case z_dict => k_is); (case z_int => k_is); (case z_isinstance => k_is); (case z_len => k_is); (case z_list => k_is); (case z_max => k_is); (case z_min => k_is); (case z_range => k_is); (case z_sorted => k_is); (case z_str => k_is); (case z_tuple => k_is); (case z_zip => k_is); (case y_MOST_REEL => k_is); (case y_MOST_REELS => k_is); (case y_MOST_STICKERS => k_is)
