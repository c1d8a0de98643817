import PyProof.Rows.All
import Wide.All
import OpenK.AllK
import Wide.FinOn
import HandS.ForMost
import HandS.TupAny
import HandS.IsInst
import HandS.Deep
import HandS.Flow
import HandS.Words
import HandS.TupLe
import PySem.Challenge.RW_albumsfilled_k61_whole_words_of_reels
set_option Elab.async false
set_option linter.all false
set_option maxRecDepth 100000
namespace Sn
open PySem PySem.Spec PyProof.Rows L2

/-! ### data, computations -/
inductive D where
  | non | bl (b : Bool) | int (i : Int) | str (x : Str) | tup (xs : List D) | lst (xs : List D) | dct (kvs : List (D × D)) | box

def M (S : Type) (α : Type) : Type := S → Option (α × S)
section
variable {S α β γ : Type}
def ret (a : α) : M S α := fun s => some (a, s)
def stuck : M S α := fun _ => none
def bnd (m : M S α) (k : α → M S β) : M S β := fun s => match m s with
  | none => none
  | some (a, s') => k a s'
theorem bnd_some {m : M S α} {k : α → M S β} {s : S} {r : β × S} (h : bnd m k s = some r) : ∃ a s', m s = some (a, s') ∧ k a s' = some r := by
  unfold bnd at h
  cases e : m s with
  | none => rw [e] at h; cases h
  | some p => obtain ⟨a, s'⟩ := p; rw [e] at h; exact ⟨a, s', rfl, h⟩
theorem ret_some {a b : α} {s s' : S} (h : (ret a : M S α) s = some (b, s')) : b = a ∧ s' = s := by
  have h' : some (a, s) = some (b, s') := h
  cases h'
  exact ⟨rfl, rfl⟩
theorem stuck_some {s : S} {r : α × S} (h : (stuck : M S α) s = some r) : False := by cases (show (none : Option (α × S)) = some r from h)
theorem bnd_ret (a : α) (k : α → M S β) : bnd (ret a) k = k a := rfl
theorem bnd_stuck (k : α → M S β) : bnd stuck k = stuck := rfl
theorem bnd_bnd (m : M S α) (k : α → M S β) (l : β → M S γ) : bnd (bnd m k) l = bnd m fun a => bnd (k a) l := by
  funext s
  unfold bnd
  cases m s with
  | none => rfl
  | some p => rfl
theorem bnd_id (m : M S α) : bnd m ret = m := by
  funext s
  unfold bnd
  cases m s with
  | none => rfl
  | some p => rfl
theorem bnd_ite {c : Prop} [Decidable c] (m n : M S α) (k : α → M S β) : bnd (if c then m else n) k = if c then bnd m k else bnd n k := by
  split <;> rfl
end

/-- the law's box: how a state of it lies in the heap -/
class BoxS (S : Type) where
  R : S → Addr → Addr → Hp → Prop
  there : ∀ {st β γ H}, R st β γ H → (∃ o, H β = some o) ∧ ∃ o, H γ = some o
  congr : ∀ {st β γ H H'}, R st β γ H → H' β = H β → H' γ = H γ → R st β γ H'

structure Wd where
  β : Addr
  γ : Addr
def Wd.bx (W : Wd) (a : Addr) : Prop := a = W.β ∨ a = W.γ

def keyD : Key → D
  | .inl i => .int i
  | .inr x => .str x

/-! ### how data lies in a heap that stays as it is -/
/-- a tuple: tracked, or an object of the module -/
def TupAt (K : PySem.W.Frag) (Z : Hp) (a : Addr) (vs : List V) : Prop :=
  Z a = some (.tup vs) ∨ ∃ (o : Obj) (its : Array Value) (n : Nat), K.lookup a = some o ∧ o.cls = .type "tuple" ∧ o.data = .seq its n ∧ its.size ≤ sizeLine ∧ Vals vs its.toList
mutual
inductive Rep (K : PySem.W.Frag) (β : Addr) (Z : Hp) : D → V → Prop
  | non : Rep K β Z .non .non
  | bl (b : Bool) : Rep K β Z (.bl b) (.bl b)
  | int (i : Int) : Rep K β Z (.int i) (.int i)
  | str (x : Str) : Rep K β Z (.str x) (.str x)
  | box : Rep K β Z .box (.ref β)
  | tup {a : Addr} {vs : List V} {ds : List D} : TupAt K Z a vs → RepL K β Z ds vs → Rep K β Z (.tup ds) (.ref a)
  | lst {a : Addr} {vs : List V} {ds : List D} : Z a = some (.lst vs) → RepL K β Z ds vs → Rep K β Z (.lst ds) (.ref a)
  | dK {a : Addr} {kvs : List (Key × V)} {ds : List (D × D)} : Z a = some (.dK kvs) → RepK K β Z ds kvs → Rep K β Z (.dct ds) (.ref a)
  | dT {a : Addr} {kvs : List (List Key × V)} {ds : List (D × D)} : Z a = some (.dT kvs) → RepT K β Z ds kvs → Rep K β Z (.dct ds) (.ref a)
inductive RepL (K : PySem.W.Frag) (β : Addr) (Z : Hp) : List D → List V → Prop
  | nil : RepL K β Z [] []
  | cons {d : D} {v : V} {ds : List D} {vs : List V} : Rep K β Z d v → RepL K β Z ds vs → RepL K β Z (d :: ds) (v :: vs)
inductive RepK (K : PySem.W.Frag) (β : Addr) (Z : Hp) : List (D × D) → List (Key × V) → Prop
  | nil : RepK K β Z [] []
  | cons {k : Key} {d : D} {v : V} {ds : List (D × D)} {vs : List (Key × V)} : Rep K β Z d v → RepK K β Z ds vs → RepK K β Z ((keyD k, d) :: ds) ((k, v) :: vs)
inductive RepT (K : PySem.W.Frag) (β : Addr) (Z : Hp) : List (D × D) → List (List Key × V) → Prop
  | nil : RepT K β Z [] []
  | cons {k : List Key} {d : D} {v : V} {ds : List (D × D)} {vs : List (List Key × V)} : Rep K β Z d v → RepT K β Z ds vs → RepT K β Z ((.tup (k.map keyD), d) :: ds) ((k, v) :: vs)
end

def Sub (Z Z' : Hp) : Prop := ∀ a o, Z a = some o → Z' a = some o
theorem Sub.refl (Z : Hp) : Sub Z Z := fun _ _ h => h
theorem Sub.trans {Z Z1 Z2 : Hp} (h : Sub Z Z1) (g : Sub Z1 Z2) : Sub Z Z2 := fun a o e => g a o (h a o e)
theorem Sub.tupAt {K : PySem.W.Frag} {Z Z' : Hp} {a : Addr} {vs : List V} (s : Sub Z Z') (h : TupAt K Z a vs) : TupAt K Z' a vs := h.elim (fun h => .inl (s _ _ h)) .inr
theorem Sub.sqT {K : PySem.W.Frag} {Z Z' : Hp} {a : Addr} {vs : List V} (s : Sub Z Z') (h : TupAt K Z a vs) : SqT K Z' a vs := h.elim (fun h => .inl (.inl (s _ _ h))) .inr
theorem Sub.sqTT {K : PySem.W.Frag} {Z Z' : Hp} {a : Addr} {vs : List V} (s : Sub Z Z') (h : SqT K Z a vs) : SqT K Z' a vs := by
  rcases h with (h | ⟨o, h⟩) | h
  · exact .inl (.inl (s _ _ h))
  · exact .inl (.inr ⟨o, s _ _ h⟩)
  · exact .inr h
theorem Sub.sqL {K : PySem.W.Frag} {Z Z' : Hp} {a : Addr} {vs : List V} (s : Sub Z Z') (h : SqL K Z a vs) : SqL K Z' a vs := by
  rcases h with (h | ⟨o, h⟩) | h
  · exact .inl (.inl (s _ _ h))
  · exact .inl (.inr ⟨o, s _ _ h⟩)
  · exact .inr h

section
variable {K : PySem.W.Frag} {β : Addr} {Z Z' : Hp}
mutual
theorem Rep.mono (s : Sub Z Z') : ∀ {d : D} {v : V}, Rep K β Z d v → Rep K β Z' d v
  | _, _, .non => .non
  | _, _, .bl b => .bl b
  | _, _, .int i => .int i
  | _, _, .str x => .str x
  | _, _, .box => .box
  | _, _, .tup h r => .tup (s.tupAt h) (RepL.mono s r)
  | _, _, .lst h r => .lst (s _ _ h) (RepL.mono s r)
  | _, _, .dK h r => .dK (s _ _ h) (RepK.mono s r)
  | _, _, .dT h r => .dT (s _ _ h) (RepT.mono s r)
theorem RepL.mono (s : Sub Z Z') : ∀ {d : List D} {v : List V}, RepL K β Z d v → RepL K β Z' d v
  | _, _, .nil => .nil
  | _, _, .cons h r => .cons (Rep.mono s h) (RepL.mono s r)
theorem RepK.mono (s : Sub Z Z') : ∀ {d : List (D × D)} {v : List (Key × V)}, RepK K β Z d v → RepK K β Z' d v
  | _, _, .nil => .nil
  | _, _, .cons h r => .cons (Rep.mono s h) (RepK.mono s r)
theorem RepT.mono (s : Sub Z Z') : ∀ {d : List (D × D)} {v : List (List Key × V)}, RepT K β Z d v → RepT K β Z' d v
  | _, _, .nil => .nil
  | _, _, .cons h r => .cons (Rep.mono s h) (RepT.mono s r)
end
theorem RepL.length : ∀ {ds : List D} {vs : List V}, RepL K β Z ds vs → ds.length = vs.length
  | _, _, .nil => rfl
  | _, _, .cons _ r => by rw [List.length_cons, List.length_cons, RepL.length r]
theorem RepL.append : ∀ {ds es : List D} {vs us : List V}, RepL K β Z ds vs → RepL K β Z es us → RepL K β Z (ds ++ es) (vs ++ us)
  | _, _, _, _, .nil, s => s
  | _, _, _, _, .cons h r, s => .cons h (RepL.append r s)
theorem RepL.get : ∀ {ds : List D} {vs : List V} {i : Nat} {d : D}, RepL K β Z ds vs → ds[i]? = some d → ∃ v, vs[i]? = some v ∧ Rep K β Z d v
  | _, _, _, _, .nil, e => by simp at e
  | _, _, 0, _, .cons h _, e => by simp at e; subst e; exact ⟨_, rfl, h⟩
  | _, _, i + 1, d, .cons _ r, e => by
    obtain ⟨v, h1, h2⟩ := RepL.get (i := i) (d := d) r (by simpa using e)
    exact ⟨v, by simpa using h1, h2⟩
theorem RepL.get' : ∀ {ds : List D} {vs : List V} {i : Nat} {v : V}, RepL K β Z ds vs → vs[i]? = some v → ∃ d, ds[i]? = some d ∧ Rep K β Z d v
  | _, _, _, _, .nil, e => by simp at e
  | _, _, 0, _, .cons h _, e => by simp at e; subst e; exact ⟨_, rfl, h⟩
  | _, _, i + 1, d, .cons _ r, e => by
    obtain ⟨v, h1, h2⟩ := RepL.get' (i := i) (v := d) r (by simpa using e)
    exact ⟨v, by simpa using h1, h2⟩
theorem RepL.take : ∀ {ds : List D} {vs : List V} (n : Nat), RepL K β Z ds vs → RepL K β Z (ds.take n) (vs.take n)
  | _, _, 0, _ => .nil
  | _, _, _ + 1, .nil => .nil
  | _, _, n + 1, .cons h r => .cons h (RepL.take n r)
theorem RepL.drop : ∀ {ds : List D} {vs : List V} (n : Nat), RepL K β Z ds vs → RepL K β Z (ds.drop n) (vs.drop n)
  | _, _, 0, r => r
  | _, _, _ + 1, .nil => .nil
  | _, _, n + 1, .cons _ r => RepL.drop n r
theorem RepL.set {d : D} {v : V} (q : Rep K β Z d v) : ∀ {ds : List D} {vs : List V} (n : Nat), RepL K β Z ds vs → RepL K β Z (ds.set n d) (vs.set n v)
  | _, _, _, .nil => .nil
  | _, _, 0, .cons _ r => .cons q r
  | _, _, n + 1, .cons h r => .cons h (RepL.set q n r)
theorem RepL.erase : ∀ {ds : List D} {vs : List V} (n : Nat), RepL K β Z ds vs → RepL K β Z (ds.eraseIdx n) (vs.eraseIdx n)
  | _, _, _, .nil => .nil
  | _, _, 0, .cons _ r => r
  | _, _, n + 1, .cons h r => .cons h (RepL.erase n r)
theorem RepL.rev : ∀ {ds : List D} {vs : List V}, RepL K β Z ds vs → RepL K β Z ds.reverse vs.reverse
  | _, _, .nil => .nil
  | _, _, .cons h r => by rw [List.reverse_cons, List.reverse_cons]; exact (RepL.rev r).append (.cons h .nil)
end

/-- the outermost list or dict may be one that changes later -/
def Rep1 (K : PySem.W.Frag) (β : Addr) (Z H : Hp) (d : D) (v : V) : Prop :=
  match d with
  | .lst ds => ∃ a vs, v = .ref a ∧ H a = some (.lst vs) ∧ RepL K β Z ds vs
  | .dct ds => ∃ a, v = .ref a ∧ ((∃ kvs, H a = some (.dK kvs) ∧ RepK K β Z ds kvs) ∨ ∃ kvs, H a = some (.dT kvs) ∧ RepT K β Z ds kvs)
  | d => Rep K β Z d v
def isMut : D → Bool
  | .lst _ => true
  | .dct _ => true
  | _ => false
section
variable {K : PySem.W.Frag} {β : Addr} {Z Z' H H' : Hp}
theorem Rep.one {d : D} {v : V} (s : Sub Z H) (r : Rep K β Z d v) : Rep1 K β Z H d v := by
  cases d with
  | lst ds => cases r with | lst h r => exact ⟨_, _, rfl, s _ _ h, r⟩
  | dct ds => cases r with
    | dK h r => exact ⟨_, rfl, .inl ⟨_, s _ _ h, r⟩⟩
    | dT h r => exact ⟨_, rfl, .inr ⟨_, s _ _ h, r⟩⟩
  | _ => exact r
theorem Rep1.mono {d : D} {v : V} (s : Sub Z Z') (t : ∀ a, v = .ref a → ∀ o, H a = some o → H' a = some o) (r : Rep1 K β Z H d v) : Rep1 K β Z' H' d v := by
  cases d with
  | lst ds => obtain ⟨a, vs, rfl, h, r⟩ := r; exact ⟨a, vs, rfl, t a rfl _ h, r.mono s⟩
  | dct ds =>
    obtain ⟨a, rfl, ⟨kvs, h, r⟩ | ⟨kvs, h, r⟩⟩ := r
    · exact ⟨a, rfl, .inl ⟨kvs, t a rfl _ h, r.mono s⟩⟩
    · exact ⟨a, rfl, .inr ⟨kvs, t a rfl _ h, r.mono s⟩⟩
  | _ => exact Rep.mono s r
theorem Rep1.rep {d : D} {v : V} (r : Rep1 K β Z H d v) (s : ∀ a, v = .ref a → isMut d = true → Z a = H a) : Rep K β Z d v := by
  cases d with
  | lst ds => obtain ⟨a, vs, rfl, h, r⟩ := r; exact .lst ((s a rfl rfl).trans h) r
  | dct ds =>
    obtain ⟨a, rfl, ⟨kvs, h, r⟩ | ⟨kvs, h, r⟩⟩ := r
    · exact .dK ((s a rfl rfl).trans h) r
    · exact .dT ((s a rfl rfl).trans h) r
  | _ => exact r
end

/-! ### what is known of the slots -/
inductive En where
  | frz (d : D) | own (d : D)
abbrev SCx := List (Option En)
/-- slot i holds an own list or dict at a -/
def ownA (Γ : SCx) (σ : L2.St) (a : Addr) : Prop := ∃ (i : Nat) (d : D), Γ[i]? = some (some (En.own d)) ∧ σ[i]? = some (some (V.ref a))

/-- no list and no tuple is longer than the line -/
def Sz (H : Hp) : Prop := ∀ (a : Addr) (vs : List V), H a = some (.lst vs) ∨ H a = some (.tup vs) → vs.length ≤ sizeLine
def SzO : HO → Prop
  | .lst vs => vs.length ≤ sizeLine
  | .tup vs => vs.length ≤ sizeLine
  | _ => True
theorem Sz.upd {H : Hp} {p : Addr} {o : HO} (h : Sz H) (q : SzO o) : Sz (L2.upd H p o) := fun a vs hr => by
  by_cases e : a = p
  · subst e
    rcases hr with hr | hr <;> (rw [upd_same] at hr; cases hr; exact q)
  · rw [upd_ne e] at hr
    exact h a vs hr
theorem Sz.tup {K : PySem.W.Frag} {H : Hp} {a : Addr} {vs : List V} (h : Sz H) (q : TupAt K H a vs) : vs.length ≤ sizeLine := by
  rcases q with q | ⟨o, its, n, _, _, _, hz, r⟩
  · exact h a vs (.inr q)
  · have e := r.length
    simp only [Array.length_toList] at e
    omega
theorem Sz.lst {H : Hp} {a : Addr} {vs : List V} (h : Sz H) (q : H a = some (.lst vs)) : vs.length ≤ sizeLine := h a vs (.inl q)
structure SR {S : Type} [BoxS S] (K : PySem.W.Frag) (W : Wd) (Γ : SCx) (σ : L2.St) (Z H : Hp) (st : S) : Prop where
  ln : σ.length = Γ.length
  sz : Sz H
  box : BoxS.R st W.β W.γ H
  zh : ∀ a o, Z a = some o → H a = some o ∧ ¬ W.bx a
  frz : ∀ (i : Nat) (d : D), Γ[i]? = some (some (En.frz d)) → ∃ v, σ[i]? = some (some v) ∧ Rep K W.β Z d v
  own : ∀ (i : Nat) (d : D), Γ[i]? = some (some (En.own d)) → ∃ a, σ[i]? = some (some (V.ref a)) ∧ Z a = none ∧ ¬ W.bx a ∧ isMut d = true ∧ Rep1 K W.β Z H d (.ref a)
  dis : ∀ (i j : Nat) (d e : D) (a : Addr), Γ[i]? = some (some (En.own d)) → Γ[j]? = some (some (En.own e)) → σ[i]? = some (some (V.ref a)) → σ[j]? = some (some (V.ref a)) → i = j

/-- what an expression may do: new objects, the box -/
structure Stp (W : Wd) (Z H Z' H' : Hp) : Prop where
  zz : Sub Z Z'
  zh : ∀ a o, Z' a = some o → H' a = some o ∧ ¬ W.bx a
  hh : ∀ a o, H a = some o → ¬ W.bx a → H' a = some o
  nw : ∀ a o, Z' a = some o → Z a = some o ∨ H a = none
  sz : Sz H → Sz H'
section
variable {S : Type} [BoxS S] {K : PySem.W.Frag} {W : Wd} {Γ Γ' : SCx} {σ σ' : L2.St} {Z H Z' H' Z1 H1 Z2 H2 : Hp} {st st' : S}
theorem Stp.refl (zh : ∀ a o, Z a = some o → H a = some o ∧ ¬ W.bx a) : Stp W Z H Z H := ⟨Sub.refl _, zh, fun _ _ h _ => h, fun _ _ h => .inl h, id⟩
theorem Stp.trans (s : Stp W Z H Z1 H1) (t : Stp W Z1 H1 Z2 H2) : Stp W Z H Z2 H2 where
  zz := s.zz.trans t.zz
  zh := t.zh
  hh := fun a o h n => t.hh a o (s.hh a o h n) n
  nw := fun a o h => by
    rcases t.nw a o h with q | q
    · exact s.nw a o q
    · cases e : H a with
      | none => exact .inr rfl
      | some u =>
        have nb : ¬ W.bx a := (t.zh a o h).2
        rw [s.hh a u e nb] at q; cases q
  sz := fun h => t.sz (s.sz h)
theorem SR.refl (r : SR K W Γ σ Z H st) : Stp W Z H Z H := Stp.refl r.zh
theorem SR.sub (r : SR K W Γ σ Z H st) : Sub Z H := fun a o h => (r.zh a o h).1
theorem Stp.sub (r : Stp W Z H Z' H') : Sub Z' H' := fun a o h => (r.zh a o h).1
theorem BoxS.bxThere (r : BoxS.R st W.β W.γ H) {a : Addr} (h : H a = none) : ¬ W.bx a := fun q => by
  obtain ⟨⟨o, e1⟩, ⟨u, e2⟩⟩ := BoxS.there r
  rcases q with q | q
  · rw [q, e1] at h; cases h
  · rw [q, e2] at h; cases h
/-- behind an expression all slots stand as they stood -/
theorem SR.step (r : SR K W Γ σ Z H st) (s : Stp W Z H Z' H') (b : BoxS.R st' W.β W.γ H') : SR K W Γ σ Z' H' st' where
  ln := r.ln
  sz := s.sz r.sz
  box := b
  zh := s.zh
  frz := fun i d h => by
    obtain ⟨v, e, q⟩ := r.frz i d h
    exact ⟨v, e, q.mono s.zz⟩
  own := fun i d h => by
    obtain ⟨a, e, z, n, mu, q⟩ := r.own i d h
    have hx : ∃ o, H a = some o := by
      cases d with
      | lst ds => obtain ⟨b, vs, eb, h, _⟩ := q; cases eb; exact ⟨_, h⟩
      | dct ds =>
        obtain ⟨b, eb, ⟨kvs, h, _⟩ | ⟨kvs, h, _⟩⟩ := q
        · cases eb; exact ⟨_, h⟩
        · cases eb; exact ⟨_, h⟩
      | _ => cases mu
    refine ⟨a, e, ?_, n, mu, q.mono s.zz fun b eb o h => ?_⟩
    · cases q' : Z' a with
      | none => rfl
      | some o =>
        rcases s.nw a o q' with w | w
        · rw [z] at w; cases w
        · obtain ⟨o, ho⟩ := hx; rw [ho] at w; cases w
    · cases eb; exact s.hh _ o h n
  dis := r.dis
theorem SR.ownThere (r : SR K W Γ σ Z H st) {a : Addr} (h : ownA Γ σ a) : ∃ o, H a = some o := by
  obtain ⟨i, d, h1, h2⟩ := h
  obtain ⟨b, e, z, n, mu, q⟩ := r.own i d h1
  rw [h2] at e; cases e
  cases d with
  | lst ds => obtain ⟨b, vs, eb, h, _⟩ := q; cases eb; exact ⟨_, h⟩
  | dct ds =>
    obtain ⟨b, eb, ⟨kvs, h, _⟩ | ⟨kvs, h, _⟩⟩ := q
    · cases eb; exact ⟨_, h⟩
    · cases eb; exact ⟨_, h⟩
  | _ => cases mu
end
/-- a new object laid, frozen -/
theorem upd_get {H : Hp} {p a : Addr} {o u : HO} (h : upd H p o a = some u) : (a = p ∧ u = o) ∨ (a ≠ p ∧ H a = some u) := by
  by_cases e : a = p
  · subst e; rw [upd_same] at h; cases h; exact .inl ⟨rfl, rfl⟩
  · rw [upd_ne e] at h; exact .inr ⟨e, h⟩
theorem upd_none {H : Hp} {p a : Addr} {o u : HO} (n : H p = none) (h : H a = some u) : upd H p o a = some u := by
  rw [upd_ne (ne_of_none h n)]; exact h
section
variable {S : Type} [BoxS S] {W : Wd} {Z H : Hp} {st : S} {p : Addr} {o : HO}
theorem z_none (zh : ∀ a o, Z a = some o → H a = some o ∧ ¬ W.bx a) (n : H p = none) : Z p = none := by
  cases e : Z p with
  | none => rfl
  | some u => rw [(zh p u e).1] at n; cases n
/-- .. frozen at once -/
theorem Stp.layZ (zh : ∀ a o, Z a = some o → H a = some o ∧ ¬ W.bx a) (b : BoxS.R st W.β W.γ H) (n : H p = none) (so : SzO o) : Stp W Z H (upd Z p o) (upd H p o) where
  zz := fun a u h => upd_none (z_none zh n) h
  zh := fun a u h => by
    rcases upd_get h with ⟨rfl, rfl⟩ | ⟨e, h⟩
    · exact ⟨upd_same, BoxS.bxThere b n⟩
    · exact ⟨by rw [upd_ne e]; exact (zh a u h).1, (zh a u h).2⟩
  hh := fun a u h _ => upd_none n h
  nw := fun a u h => by
    rcases upd_get h with ⟨rfl, rfl⟩ | ⟨e, h⟩
    · exact .inr n
    · exact .inl h
  sz := fun h => h.upd so
/-- .. not frozen -/
theorem Stp.layH (zh : ∀ a o, Z a = some o → H a = some o ∧ ¬ W.bx a) (n : H p = none) (so : SzO o) : Stp W Z H Z (upd H p o) where
  zz := Sub.refl _
  zh := fun a u h => ⟨upd_none n (zh a u h).1, (zh a u h).2⟩
  hh := fun a u h _ => upd_none n h
  nw := fun a u h => .inl h
  sz := fun h => h.upd so
theorem box_lay (b : BoxS.R st W.β W.γ H) (n : H p = none) : BoxS.R st W.β W.γ (upd H p o) := by
  have q := BoxS.bxThere b n
  exact BoxS.congr b (upd_ne fun e => q (.inl e.symm)) (upd_ne fun e => q (.inr e.symm))
end
end Sn

namespace Sn
open PySem PySem.Spec PyProof.Rows L2

/-! ### contexts -/
structure Glob where
  P : Program
  w : World
  K : PySem.W.Frag
  mg : Str → Option Value
  base : Heap
/-- where the text stands: the def's slots, the scope, the level of calls -/
structure Stat where
  G : Glob
  N : List Str
  sc : Scope
  k : Nat
  fn : Str → Bool
structure CtxP (C : Stat) (X : Cx) : Prop where
  prog : X.prog = C.G.P
  w : X.w = C.G.w
  K : X.K = C.G.K
  mg : X.mg = C.G.mg
  base : X.base = C.G.base
  N : X.N = C.N
  sc : X.env.scope = C.sc
  nd : C.N.Nodup
  calm : X.calm = true
  room : Room C.k X.A
  xe : X.xe = fun _ _ => False
  fn : ∀ x, C.fn x = true → X.fn x = true
theorem CtxP.glob {C : Stat} {X : Cx} (h : CtxP C X) {x : Str} (g : C.sc.names.lookup x = some .globalImplicit) : Gl X x := by
  show X.env.scope.names.lookup x = _
  rw [h.sc]; exact g
theorem CtxP.none {C : Stat} {X : Cx} (h : CtxP C X) {x : Str} (g : C.G.mg x = none) : X.mg x = none := by rw [h.mg]; exact g
theorem CtxP.units {C : Stat} {X : Cx} (h : CtxP C X) : X.A.units + 65 < cLine := by have := h.room.un; omega

/-! ### the reading that any expression has -/
def tU (X : Cx) (e : Expr) : TE := fun σ H Q => ∀ (pins : List (Addr × Obj)) (s : Shared), Inv X pins σ H s → wpAny (model X.prog X.w) X.A (eval e X.env) (EP X pins σ Q) X.xe s
theorem peU {X : Cx} {e : Expr} : PE X e (tU X e) := ⟨fun pins s _ _ _ I h => h pins s I⟩
theorem tU_of {X : Cx} {e : Expr} {t : TE} {σ : L2.St} {H : Hp} {Q : VK} (h : PE X e t) (q : t σ H Q) : tU X e σ H Q := fun pins s I => h.run pins s σ H Q I q
def tUT (X : Cx) (e : Expr) : TT := fun σ H Q => ∀ (pins : List (Addr × Obj)) (s : Shared), Inv X pins σ H s → wpAny (model X.prog X.w) X.A (isTrue e X.env (eval e X.env)) (TP X pins σ Q) X.xe s
theorem ptU {X : Cx} {e : Expr} : PT X e (tUT X e) := ⟨fun pins s _ _ _ I h => h pins s I⟩
theorem tUT_of {X : Cx} {e : Expr} {t : TT} {σ : L2.St} {H : Hp} {Q : Bool → Hp → Prop} (h : PT X e t) (q : t σ H Q) : tUT X e σ H Q := fun pins s I => h.run pins s σ H Q I q
def tUW (X : Cx) (e : Expr) : TT := fun σ H Q => ∀ (whole : Sem Value) (pins : List (Addr × Obj)) (s : Shared), Inv X pins σ H s → wpAny (model X.prog X.w) X.A (isTrue e X.env whole) (TP X pins σ Q) X.xe s
theorem pwU {X : Cx} {e : Expr} : PW X e (tUW X e) := ⟨fun wh pins s _ _ _ I h => h wh pins s I⟩
theorem tUW_of {X : Cx} {e : Expr} {t : TT} {σ : L2.St} {H : Hp} {Q : Bool → Hp → Prop} (h : PW X e t) (q : t σ H Q) : tUW X e σ H Q := fun wh pins s I => h.run wh pins s σ H Q I q
def tUA (X : Cx) (es : List Expr) : TA := fun σ H Q => ∀ (pos : Pos) (pins : List (Addr × Obj)) (s : Shared), Inv X pins σ H s → wpAny (model X.prog X.w) X.A (spliced (backTo pos (starEach es X.env))) (AP X pins σ Q) X.xe s
theorem paU {X : Cx} {es : List Expr} : PA X es (tUA X es) := ⟨fun pos pins s _ _ _ I h => h pos pins s I⟩
theorem tUA_of {X : Cx} {es : List Expr} {t : TA} {σ : L2.St} {H : Hp} {Q : List V → Hp → Prop} (h : PA X es t) (q : t σ H Q) : tUA X es σ H Q := fun pos pins s I => h.run pos pins s σ H Q I q
def rU (X : Cx) (f : Value → Value → Sem Value) : R2 := fun x y H Q => ∀ (pins : List (Addr × Obj)) (s : Shared) (σ : L2.St) (v u : Value), Inv X pins σ H s → RelV x v → RelV y u → wpAny (model X.prog X.w) X.A (f v u) (EP X pins σ Q) X.xe s
theorem opU {X : Cx} {f : Value → Value → Sem Value} : OpR X f (rU X f) := fun pins s σ H x y v u Q I rx ry h => h pins s σ v u I rx ry
theorem rU_of {X : Cx} {f : Value → Value → Sem Value} {r : R2} {x y : V} {H : Hp} {Q : VK} (h : OpR X f r) (q : r x y H Q) : rU X f x y H Q := fun pins s σ v u I rx ry => h pins s σ H x y v u Q I rx ry q
def cU (X : Cx) (f : Value) : List V → Hp → VK → Prop := fun xs H Q => ∀ (pins : List (Addr × Obj)) (s : Shared) (σ : L2.St) (us : List Value), Inv X pins σ H s → Vals xs us → wpAny (model X.prog X.w) X.A (call f us) (EP X pins σ Q) X.xe s
theorem crU {X : Cx} {f : Value} : CallR X f (cU X f) := fun pins s σ H xs us Q I r h => h pins s σ us I r
theorem cU_of {X : Cx} {f : Value} {r : List V → Hp → VK → Prop} {xs : List V} {H : Hp} {Q : VK} (h : CallR X f r) (q : r xs H Q) : cU X f xs H Q := fun pins s σ us I rx => h pins s σ H xs us Q I rx q

/-! ### judgements -/
inductive Md where
  | E | V | N
  deriving DecidableEq
def Res (K : PySem.W.Frag) (W : Wd) (md : Md) (H Z' H' : Hp) (d : D) (v : V) : Prop :=
  match md with
  | .E => Rep K W.β Z' d v
  | .V => Rep1 K W.β Z' H' d v ∧ ∀ a, v = .ref a → isMut d = true → ¬ W.bx a
  | .N => Rep1 K W.β Z' H' d v ∧ ∀ a, v = .ref a → isMut d = true → H a = none ∧ Z' a = none ∧ ¬ W.bx a
section
variable {S : Type} [BoxS S] {K : PySem.W.Frag} {W : Wd} {Γ : SCx} {σ : L2.St} {H Z' H' Z2 H2 : Hp} {d : D} {v : V} {st st' : S}
theorem Res.view {md : Md} (r : Res K W md H Z' H' d v) (zh : ∀ a o, Z' a = some o → H' a = some o ∧ ¬ W.bx a) : Res K W .V H Z' H' d v := by
  cases md with
  | E =>
    refine ⟨Rep.one (fun a o h => (zh a o h).1) r, fun a e mu => ?_⟩
    subst e
    cases d with
    | lst ds => cases r with | lst h _ => exact (zh _ _ h).2
    | dct ds => cases r with
      | dK h _ => exact (zh _ _ h).2
      | dT h _ => exact (zh _ _ h).2
    | _ => cases mu
  | V => exact r
  | N => exact ⟨r.1, fun a e mu => (r.2 a e mu).2.2⟩
theorem Res.stp {md : Md} (r : Res K W md H Z' H' d v) (s : Stp W Z' H' Z2 H2) : Res K W md H Z2 H2 d v := by
  cases md with
  | E => exact Rep.mono s.zz r
  | V =>
    refine ⟨?_, r.2⟩
    by_cases mu : isMut d = true
    · exact r.1.mono s.zz fun a e o h => s.hh a o h (r.2 a e mu)
    · cases d with
      | lst ds => exact absurd rfl mu
      | dct ds => exact absurd rfl mu
      | _ => exact Rep.mono s.zz r.1
  | N =>
    refine ⟨?_, fun a e mu => ?_⟩
    · by_cases mu : isMut d = true
      · exact r.1.mono s.zz fun a e o h => s.hh a o h (r.2 a e mu).2.2
      · cases d with
        | lst ds => exact absurd rfl mu
        | dct ds => exact absurd rfl mu
        | _ => exact Rep.mono s.zz r.1
    · obtain ⟨q1, q2, q3⟩ := r.2 a e mu
      refine ⟨q1, ?_, q3⟩
      cases q : Z2 a with
      | none => rfl
      | some o =>
        rcases s.nw a o q with w | w
        · rw [q2] at w; cases w
        · subst e
          obtain ⟨q4, _⟩ := r
          cases d with
          | lst ds => obtain ⟨b, vs, eb, hb, _⟩ := q4; cases eb; rw [hb] at w; cases w
          | dct ds =>
            obtain ⟨b, eb, ⟨kvs, h, _⟩ | ⟨kvs, h, _⟩⟩ := q4
            · cases eb; rw [h] at w; cases w
            · cases eb; rw [h] at w; cases w
          | _ => cases mu
theorem fresh_back {Z H Z1 H1 : Hp} {a : Addr} (b : BoxS.R st W.β W.γ H) (b1 : BoxS.R st' W.β W.γ H1) (s : Stp W Z H Z1 H1) (n : H1 a = none) : H a = none := by
  have nb := BoxS.bxThere b1 n
  cases e : H a with
  | none => rfl
  | some o => rw [s.hh a o e nb] at n; cases n
theorem Res.back {md : Md} {Z H0 : Hp} (r : Res K W md H Z2 H2 d v) (b : BoxS.R st W.β W.γ H0) (b1 : BoxS.R st' W.β W.γ H) (s : Stp W Z H0 Z' H) : Res K W md H0 Z2 H2 d v := by
  cases md with
  | E => exact r
  | V => exact r
  | N => exact ⟨r.1, fun a e mu => ⟨fresh_back b b1 s (r.2 a e mu).1, (r.2 a e mu).2⟩⟩
end

/-- the expression e, where Γ is known of the slots, does what m says -/
def Ok {S : Type} [BoxS S] (md : Md) (C : Stat) (Γ : SCx) (e : Expr) (m : M S D) : Prop :=
  ∀ X, CtxP C X → ∀ (W : Wd) (σ : L2.St) (Z H : Hp) (st : S) (d : D) (st' : S) (Q : VK), SR X.K W Γ σ Z H st → m st = some (d, st') →
    (∀ v Z' H', Stp W Z H Z' H' → BoxS.R st' W.β W.γ H' → Res X.K W md H Z' H' d v → Q v H') → tU X e σ H Q
def OkT {S : Type} [BoxS S] (C : Stat) (Γ : SCx) (e : Expr) (m : M S Bool) : Prop :=
  ∀ X, CtxP C X → ∀ (W : Wd) (σ : L2.St) (Z H : Hp) (st : S) (d : Bool) (st' : S) (Q : Bool → Hp → Prop), SR X.K W Γ σ Z H st → m st = some (d, st') →
    (∀ Z' H', Stp W Z H Z' H' → BoxS.R st' W.β W.γ H' → Q d H') → tUT X e σ H Q
def OkW {S : Type} [BoxS S] (C : Stat) (Γ : SCx) (e : Expr) (m : M S Bool) : Prop :=
  ∀ X, CtxP C X → ∀ (W : Wd) (σ : L2.St) (Z H : Hp) (st : S) (d : Bool) (st' : S) (Q : Bool → Hp → Prop), SR X.K W Γ σ Z H st → m st = some (d, st') →
    (∀ Z' H', Stp W Z H Z' H' → BoxS.R st' W.β W.γ H' → Q d H') → tUW X e σ H Q
def ResL (K : PySem.W.Frag) (W : Wd) (mds : List Md) (H Z' H' : Hp) (ds : List D) (vs : List V) : Prop :=
  match mds, ds, vs with
  | [], [], [] => True
  | md :: mds, d :: ds, v :: vs => Res K W md H Z' H' d v ∧ ResL K W mds H Z' H' ds vs
  | _, _, _ => False
/-- arguments from the left -/
def OkA {S : Type} [BoxS S] (mds : List Md) (C : Stat) (Γ : SCx) (es : List Expr) (m : M S (List D)) : Prop :=
  ∀ X, CtxP C X → ∀ (W : Wd) (σ : L2.St) (Z H : Hp) (st : S) (ds : List D) (st' : S) (Q : List V → Hp → Prop), SR X.K W Γ σ Z H st → m st = some (ds, st') →
    (∀ vs Z' H', Stp W Z H Z' H' → BoxS.R st' W.β W.γ H' → ResL X.K W mds H Z' H' ds vs → Q vs H') → tUA X es σ H Q

section
variable {S : Type} [BoxS S] {C : Stat} {Γ : SCx} {e a b : Expr} {es : List Expr} {m ma mb : M S D} {md : Md} {pos : Pos}
theorem Ok.view (h : Ok md C Γ e m) : Ok .V C Γ e m := fun X hX W σ Z H st d st' Q r hm q =>
  h X hX W σ Z H st d st' Q r hm fun v Z' H' s b r' => q v Z' H' s b (r'.view s.zh)
/-- a new list is frozen -/
theorem Ok.frz (h : Ok .N C Γ e m) : Ok .E C Γ e m := fun X hX W σ Z H st d st' Q r hm q => by
  refine h X hX W σ Z H st d st' Q r hm fun v Z' H' s b r' => ?_
  by_cases mu : isMut d = true
  · have hv : ∃ a, v = .ref a := by
      obtain ⟨q4, _⟩ := r'
      cases d with
      | lst ds => obtain ⟨b, vs, eb, _⟩ := q4; exact ⟨b, eb⟩
      | dct ds => obtain ⟨b, eb, _⟩ := q4; exact ⟨b, eb⟩
      | _ => cases mu
    obtain ⟨p, rfl⟩ := hv
    obtain ⟨q1, q2, q3⟩ := r'.2 p rfl mu
    have hp : ∃ o, H' p = some o := by
      obtain ⟨q4, _⟩ := r'
      cases d with
      | lst ds => obtain ⟨b, vs, eb, hb, _⟩ := q4; cases eb; exact ⟨_, hb⟩
      | dct ds =>
        obtain ⟨b, eb, ⟨kvs, h, _⟩ | ⟨kvs, h, _⟩⟩ := q4
        · cases eb; exact ⟨_, h⟩
        · cases eb; exact ⟨_, h⟩
      | _ => cases mu
    obtain ⟨o, ho⟩ := hp
    have sz : Sub Z' (upd Z' p o) := fun a u h => upd_none q2 h
    refine q (.ref p) (upd Z' p o) H' ⟨s.zz.trans sz, fun a u h => ?_, s.hh, fun a u h => ?_, s.sz⟩ b ?_
    · rcases upd_get h with ⟨rfl, rfl⟩ | ⟨_, h⟩
      · exact ⟨ho, q3⟩
      · exact s.zh a u h
    · rcases upd_get h with ⟨rfl, rfl⟩ | ⟨_, h⟩
      · exact .inr q1
      · exact s.nw a u h
    · refine Rep1.rep (Z := upd Z' p o) (H := H') (r'.1.mono sz fun _ _ _ h => h) fun a ea _ => ?_
      cases ea
      rw [upd_same, ho]
  · refine q v Z' H' s b ?_
    have := r'.1
    cases d with
    | lst ds => exact absurd rfl mu
    | dct ds => exact absurd rfl mu
    | _ => exact this
theorem Ok.nil : OkA (S := S) [] C Γ [] (ret []) := fun X hX W σ Z H st d st' Q r hm q => by
  obtain ⟨rfl, rfl⟩ := ret_some hm
  exact tUA_of pa_nil (q [] Z H r.refl r.box trivial)
/-- not a starred one -/
def plainArg : Expr → Bool
  | .Starred _ _ => false
  | _ => true
theorem starEach_plain (env : Env) (h : plainArg e = true) : starEach (e :: es) env = (false, eval e env) :: starEach es env := by
  cases e <;> first | rfl | cases h
theorem ResL.stp {K : PySem.W.Frag} {W : Wd} {H Z' H' Z2 H2 : Hp} (s : Stp W Z' H' Z2 H2) : ∀ {mds : List Md} {ds : List D} {vs : List V}, ResL K W mds H Z' H' ds vs → ResL K W mds H Z2 H2 ds vs
  | [], [], [], _ => trivial
  | _ :: _, _ :: _, _ :: _, ⟨h, r⟩ => ⟨h.stp s, ResL.stp s r⟩
  | [], [], _ :: _, h => h.elim
  | [], _ :: _, _, h => h.elim
  | _ :: _, [], _, h => h.elim
  | _ :: _, _ :: _, [], h => h.elim
theorem ResL.back {K : PySem.W.Frag} {W : Wd} {st st' : S} {H H0 Z Z' Z2 H2 : Hp} (b : BoxS.R st W.β W.γ H0) (b1 : BoxS.R st' W.β W.γ H) (s : Stp W Z H0 Z' H) : ∀ {mds : List Md} {ds : List D} {vs : List V}, ResL K W mds H Z2 H2 ds vs → ResL K W mds H0 Z2 H2 ds vs
  | [], [], [], _ => trivial
  | _ :: _, _ :: _, _ :: _, ⟨h, r⟩ => ⟨h.back b b1 s, ResL.back b b1 s r⟩
  | [], [], _ :: _, h => h.elim
  | [], _ :: _, _, h => h.elim
  | _ :: _, [], _, h => h.elim
  | _ :: _, _ :: _, [], h => h.elim
theorem Ok.cons {mds : List Md} {mr : M S (List D)} (ha : Ok md C Γ e m) (hr : OkA mds C Γ es mr) (hp : plainArg e = true := by rfl) : OkA (md :: mds) C Γ (e :: es) (bnd m fun x => bnd mr fun xs => ret (x :: xs)) :=
  fun X hX W σ Z H st ds st' Q r hm q => by
  obtain ⟨x, st1, h1, hm_1⟩ := bnd_some hm
  obtain ⟨xs, st2, h2, hm_2⟩ := bnd_some hm_1
  obtain ⟨rfl, rfl⟩ := ret_some hm_2
  refine tUA_of (pa_cons peU paU (starEach_plain _ hp)) ?_
  refine ha X hX W σ Z H st x st1 _ r h1 fun v Z1 H1 s1 b1 r1 => ?_
  refine hr X hX W σ Z1 H1 st1 xs _ _ (r.step s1 b1) h2 fun vs Z2 H2 s2 b2 r2 => ?_
  exact q _ Z2 H2 (s1.trans s2) b2 ⟨r1.stp s2, r2.back r.box b1 s1⟩
/-- two operands -/
theorem Ok.two {mda mdb : Md} (ha : Ok mda C Γ a ma) (hb : Ok mdb C Γ b mb) {X : Cx} (hX : CtxP C X) {W : Wd} {σ : L2.St} {Z H : Hp} {st st1 st2 : S} {x y : D} {R : V → V → Hp → Prop}
    (r : SR X.K W Γ σ Z H st) (h1 : ma st = some (x, st1)) (h2 : mb st1 = some (y, st2))
    (q : ∀ vx vy Z2 H2, Stp W Z H Z2 H2 → BoxS.R st2 W.β W.γ H2 → Res X.K W mda H Z2 H2 x vx → Res X.K W mdb H Z2 H2 y vy → R vx vy H2) : tU X a σ H fun vx H1 => tU X b σ H1 fun vy H2 => R vx vy H2 := by
  refine ha X hX W σ Z H st x st1 _ r h1 fun v Z1 H1 s1 b1 r1 => ?_
  refine hb X hX W σ Z1 H1 st1 y _ _ (r.step s1 b1) h2 fun u Z2 H2 s2 b2 r2 => ?_
  exact q _ _ Z2 H2 (s1.trans s2) b2 (r1.stp s2) (r2.back r.box b1 s1)
end

/-! ### operations by data -/
def lift {S : Type} (o : Option D) : M S D := fun s => o.map fun d => (d, s)
theorem lift_some {S : Type} {o : Option D} {s s' : S} {d : D} (h : lift o s = some (d, s')) : o = some d ∧ s' = s := by
  unfold lift at h
  cases o with
  | none => cases h
  | some x => simp only [Option.map_some, Option.some.injEq, Prod.mk.injEq] at h; exact ⟨by rw [h.1], h.2.symm⟩
/-- an operation of two values: g says what it makes of data -/
def Op2 (C : Stat) (f : Value → Value → Sem Value) (g : D → D → Option D) : Prop :=
  ∀ X, CtxP C X → ∀ {S : Type} [BoxS S] (W : Wd) (Z H : Hp) (st : S) (x y : V) (dx dy d : D) (Q : VK), (∀ a o, Z a = some o → H a = some o ∧ ¬ W.bx a) → Sz H → BoxS.R st W.β W.γ H →
    Rep1 X.K W.β Z H dx x → Rep1 X.K W.β Z H dy y → g dx dy = some d →
    (∀ v Z' H', Stp W Z H Z' H' → BoxS.R st W.β W.γ H' → Res X.K W .N H Z' H' d v → Q v H') → rU X f x y H Q
/-- a call of a built-in by data -/
def OpL (C : Stat) (f : Value) (g : List D → Option D) : Prop :=
  ∀ X, CtxP C X → ∀ {S : Type} [BoxS S] (W : Wd) (Z H : Hp) (st : S) (xs : List V) (dxs : List D) (d : D) (Q : VK), (∀ a o, Z a = some o → H a = some o ∧ ¬ W.bx a) → Sz H → BoxS.R st W.β W.γ H →
    ResL X.K W (dxs.map fun _ => Md.V) H Z H dxs xs → g dxs = some d →
    (∀ v Z' H', Stp W Z H Z' H' → BoxS.R st W.β W.γ H' → Res X.K W .N H Z' H' d v → Q v H') → cU X f xs H Q
section
variable {S : Type} [BoxS S] {C : Stat} {Γ : SCx} {e a b c : Expr} {es : List Expr} {m ma mb mc : M S D} {md : Md} {pos : Pos}
theorem Ok.op {op : Operator} {g : D → D → Option D} (ho : Op2 C (binaryOp op) g) (ha : Ok .V C Γ a ma) (hb : Ok .V C Γ b mb) : Ok .N C Γ (.BinOp a op b pos) (bnd ma fun x => bnd mb fun y => lift (g x y)) :=
  fun X hX W σ Z H st d st' Q r hm q => by
  obtain ⟨x, st1, h1, hm_3⟩ := bnd_some hm
  obtain ⟨y, st2, h2, hm_4⟩ := bnd_some hm_3
  obtain ⟨hg, rfl⟩ := lift_some hm_4
  refine tU_of (pe_op opU peU peU) (Ok.two ha hb hX r h1 h2 fun vx vy Z2 H2 s2 b2 r1 r2 => ?_)
  exact ho X hX W Z2 H2 _ vx vy x y d Q s2.zh (s2.sz r.sz) b2 r1.1 r2.1 hg fun v Z' H' s' b' r' => q v Z' H' (s2.trans s') b' (r'.back r.box b2 s2)
theorem Ok.cmp {op : CmpOp} {g : D → D → Option D} (ho : Op2 C (compareOp op) g) (ha : Ok .V C Γ a ma) (hb : Ok .V C Γ b mb) (hm : behindInMarks op b = false := by rfl) : Ok .N C Γ (.Compare a [op] [b] pos) (bnd ma fun x => bnd mb fun y => lift (g x y)) :=
  fun X hX W σ Z H st d st' Q r hm' q => by
  obtain ⟨x, st1, h1, kk1⟩ := bnd_some hm'
  obtain ⟨y, st2, h2, kk2⟩ := bnd_some kk1
  obtain ⟨hg, rfl⟩ := lift_some kk2
  refine tU_of (pe_cmpR opU peU peU hm) (Ok.two ha hb hX r h1 h2 fun vx vy Z2 H2 s2 b2 r1 r2 => ?_)
  exact ho X hX W Z2 H2 _ vx vy x y d Q s2.zh (s2.sz r.sz) b2 r1.1 r2.1 hg fun v Z' H' s' b' r' => q v Z' H' (s2.trans s') b' (r'.back r.box b2 s2)
/-- what is a bool -/
def asB {S : Type} : D → M S Bool
  | .bl b => ret b
  | _ => stuck
theorem asB_some {d : D} {s s' : S} {b : Bool} (h : asB d s = some (b, s')) : d = .bl b ∧ s' = s := by
  cases d with
  | bl c => obtain ⟨rfl, rfl⟩ := ret_some h; exact ⟨rfl, rfl⟩
  | _ => exact (stuck_some (S := S) (α := Bool) (s := s) h).elim
theorem OkT.cmp {op : CmpOp} {g : D → D → Option D} (ho : Op2 C (compareOp op) g) (ha : Ok .V C Γ a ma) (hb : Ok .V C Γ b mb) (hm : behindInMarks op b = false := by rfl) : OkT C Γ (.Compare a [op] [b] pos) (bnd ma fun x => bnd mb fun y => bnd (lift (g x y)) asB) :=
  fun X hX W σ Z H st d st' Q r hm' q => by
  obtain ⟨x, st1, h1, kk3⟩ := bnd_some hm'
  obtain ⟨y, st2, h2, kk4⟩ := bnd_some kk3
  obtain ⟨z, st3, h3, kk5⟩ := bnd_some kk4
  obtain ⟨hg, rfl⟩ := lift_some h3
  obtain ⟨rfl, rfl⟩ := asB_some kk5
  refine tUT_of (pt_cmpR opU peU peU hm) (Ok.two ha hb hX r h1 h2 fun vx vy Z2 H2 s2 b2 r1 r2 => ?_)
  refine ho X hX W Z2 H2 _ vx vy x y _ _ s2.zh (s2.sz r.sz) b2 r1.1 r2.1 hg fun v Z' H' s' b' r' => ?_
  cases r'.1
  exact ⟨d, rfl, q Z' H' (s2.trans s') b'⟩
/-- a chain of two comparisons -/
theorem Ok.chain {op op' : CmpOp} {g g' : D → D → Option D} (ho : Op2 C (compareOp op) g) (ho' : Op2 C (compareOp op') g') (ha : Ok .V C Γ a ma) (hb : Ok .V C Γ b mb) (hc : Ok .V C Γ c mc) (hm : lastMarks [op, op'] [b, c] = false := by with_unfolding_all rfl) :
    Ok .N C Γ (.Compare a [op, op'] [b, c] pos) (bnd ma fun x => bnd mb fun y => bnd (bnd (lift (g x y)) asB) fun t => if t = true then bnd mc fun z => lift (g' y z) else ret (.bl false)) :=
  fun X hX W σ Z H st d st' Q r hm' q => by
  obtain ⟨x, st1, h1, kk6⟩ := bnd_some hm'
  obtain ⟨y, st2, h2, kk7⟩ := bnd_some kk6
  obtain ⟨t, st3, h3, kk8⟩ := bnd_some kk7
  obtain ⟨z, st4, h4, h3_5⟩ := bnd_some h3
  obtain ⟨hg, rfl⟩ := lift_some h4
  obtain ⟨rfl, rfl⟩ := asB_some h3_5
  refine tU_of (pe_chain opU opU peU peU peU hm) (Ok.two ha hb hX r h1 h2 fun vx vy Z2 H2 s2 b2 r1 r2 => ?_)
  refine ho X hX W Z2 H2 _ vx vy x y _ _ s2.zh (s2.sz r.sz) b2 r1.1 r2.1 hg fun v Z3 H3 s3 b3 r3 => ?_
  cases r3.1
  refine ⟨t, rfl, ?_⟩
  have s23 := s2.trans s3
  cases t with
  | false =>
    rw [if_neg Bool.false_ne_true] at kk8 ⊢
    obtain ⟨rfl, rfl⟩ := ret_some kk8
    exact q _ Z3 H3 s23 b3 ⟨.bl false, fun a e => nomatch e⟩
  | true =>
    rw [if_pos rfl] at kk8 ⊢
    obtain ⟨z, st5, h5, kk9⟩ := bnd_some kk8
    obtain ⟨hg', rfl⟩ := lift_some kk9
    refine hc X hX W σ Z3 H3 _ z _ _ (r.step s23 b3) h5 fun vz Z4 H4 s4 b4 r4 => ?_
    have s24 := s23.trans s4
    exact ho' X hX W Z4 H4 _ vy vz y z d Q s24.zh (s24.sz r.sz) b4 ((r2.stp s3).stp s4).1 r4.1 hg' fun v Z' H' s' b' r' => q v Z' H' (s24.trans s') b' (r'.back r.box b4 s24)
theorem OkT.chain {op op' : CmpOp} {g g' : D → D → Option D} (ho : Op2 C (compareOp op) g) (ho' : Op2 C (compareOp op') g') (ha : Ok .V C Γ a ma) (hb : Ok .V C Γ b mb) (hc : Ok .V C Γ c mc) (hm : lastMarks [op, op'] [b, c] = false := by with_unfolding_all rfl) :
    OkT C Γ (.Compare a [op, op'] [b, c] pos) (bnd ma fun x => bnd mb fun y => bnd (bnd (lift (g x y)) asB) fun t => if t = true then bnd mc fun z => bnd (lift (g' y z)) asB else ret false) :=
  fun X hX W σ Z H st d st' Q r hm' q => by
  obtain ⟨x, st1, h1, kk10⟩ := bnd_some hm'
  obtain ⟨y, st2, h2, kk11⟩ := bnd_some kk10
  obtain ⟨t, st3, h3, kk12⟩ := bnd_some kk11
  obtain ⟨z, st4, h4, h3_6⟩ := bnd_some h3
  obtain ⟨hg, rfl⟩ := lift_some h4
  obtain ⟨rfl, rfl⟩ := asB_some h3_6
  refine tUT_of (pt_chain opU opU peU peU peU hm) (Ok.two ha hb hX r h1 h2 fun vx vy Z2 H2 s2 b2 r1 r2 => ?_)
  refine ho X hX W Z2 H2 _ vx vy x y _ _ s2.zh (s2.sz r.sz) b2 r1.1 r2.1 hg fun v Z3 H3 s3 b3 r3 => ?_
  cases r3.1
  refine ⟨t, rfl, ?_⟩
  have s23 := s2.trans s3
  cases t with
  | false =>
    rw [if_neg Bool.false_ne_true] at kk12 ⊢
    obtain ⟨rfl, rfl⟩ := ret_some kk12
    exact ⟨false, rfl, q Z3 H3 s23 b3⟩
  | true =>
    rw [if_pos rfl] at kk12 ⊢
    obtain ⟨z, st5, h5, kk13⟩ := bnd_some kk12
    obtain ⟨w, st6, h6, kk14⟩ := bnd_some kk13
    obtain ⟨hg', rfl⟩ := lift_some h6
    obtain ⟨rfl, rfl⟩ := asB_some kk14
    refine hc X hX W σ Z3 H3 _ z _ _ (r.step s23 b3) h5 fun vz Z4 H4 s4 b4 r4 => ?_
    have s24 := s23.trans s4
    refine ho' X hX W Z4 H4 _ vy vz y z _ _ s24.zh (s24.sz r.sz) b4 ((r2.stp s3).stp s4).1 r4.1 hg' fun v Z' H' s' b' r' => ?_
    cases r'.1
    exact ⟨d, rfl, q Z' H' (s24.trans s') b'⟩
/-! ### names, constants -/
theorem Ok.var {i : Nat} {x : Str} {d : D} (hN : C.N[i]? = some x) (hv : Vis C.sc x) (hg : Γ[i]? = some (some (.frz d))) (hd : (x == ("__debug__" : Str)) = false := by decide) (hcd : (x == ("__classdict__" : Str)) = false := by decide) : Ok (S := S) .E C Γ (.Name x pos) (ret d) :=
  fun X hX W σ Z H st d' st' Q r hm q => by
  obtain ⟨rfl, rfl⟩ := ret_some hm
  obtain ⟨v, e, rv⟩ := r.frz i _ hg
  exact tU_of (pe_var (by rw [hX.N]; exact hN) (by rw [hX.sc]; exact hv) hd hcd) ⟨v, e, q v Z H r.refl r.box rv⟩
theorem Ok.own {i : Nat} {x : Str} {d : D} (hN : C.N[i]? = some x) (hv : Vis C.sc x) (hg : Γ[i]? = some (some (.own d))) (hd : (x == ("__debug__" : Str)) = false := by decide) (hcd : (x == ("__classdict__" : Str)) = false := by decide) : Ok (S := S) .V C Γ (.Name x pos) (ret d) :=
  fun X hX W σ Z H st d' st' Q r hm q => by
  obtain ⟨rfl, rfl⟩ := ret_some hm
  obtain ⟨a, e, z, n, mu, rv⟩ := r.own i _ hg
  exact tU_of (pe_var (by rw [hX.N]; exact hN) (by rw [hX.sc]; exact hv) hd hcd) ⟨_, e, q _ Z H r.refl r.box ⟨rv, fun b eb _ => by cases eb; exact n⟩⟩
theorem Ok.int {i : Int} {j} : Ok (S := S) .E C Γ (.Constant (.int i) j pos) (ret (.int i)) := fun X hX W σ Z H st d' st' Q r hm q => by
  obtain ⟨rfl, rfl⟩ := ret_some hm
  exact tU_of pe_int (q _ Z H r.refl r.box (.int i))
theorem Ok.bl {i : Bool} {j} : Ok (S := S) .E C Γ (.Constant (.bool i) j pos) (ret (.bl i)) := fun X hX W σ Z H st d' st' Q r hm q => by
  obtain ⟨rfl, rfl⟩ := ret_some hm
  exact tU_of pe_bl (q _ Z H r.refl r.box (.bl i))
theorem Ok.non {j} : Ok (S := S) .E C Γ (.Constant .none j pos) (ret .non) := fun X hX W σ Z H st d' st' Q r hm q => by
  obtain ⟨rfl, rfl⟩ := ret_some hm
  exact tU_of pe_non (q _ Z H r.refl r.box .non)
theorem Ok.str {x : Str} {j} : Ok (S := S) .E C Γ (.Constant (.str x) j pos) (ret (.str x)) := fun X hX W σ Z H st d' st' Q r hm q => by
  obtain ⟨rfl, rfl⟩ := ret_some hm
  exact tU_of pe_str (q _ Z H r.refl r.box (.str x))
/-- a constant of the module: an int or a text -/
theorem Ok.cint {x : Str} {i : Int} {t : Tok} (hg : C.sc.names.lookup x = some .globalImplicit) (hm : C.G.mg x = some (.int i t)) (hd : (x == ("__debug__" : Str)) = false := by decide) : Ok (S := S) .E C Γ (.Name x pos) (ret (.int i)) := fun X hX W σ Z H st d' st' Q r hm' q => by
  obtain ⟨rfl, rfl⟩ := ret_some hm'
  exact tU_of (pe_glob (v := .int i) (hX.glob hg) (by rw [hX.mg]; exact hm) ⟨t, rfl⟩ hd) (q _ Z H r.refl r.box (.int i))
theorem Ok.cstr {x y : Str} {t : Tok} (hg : C.sc.names.lookup x = some .globalImplicit) (hm : C.G.mg x = some (.str y t)) (hd : (x == ("__debug__" : Str)) = false := by decide) : Ok (S := S) .E C Γ (.Name x pos) (ret (.str y)) := fun X hX W σ Z H st d' st' Q r hm' q => by
  obtain ⟨rfl, rfl⟩ := ret_some hm'
  exact tU_of (pe_glob (v := .str y) (hX.glob hg) (by rw [hX.mg]; exact hm) ⟨t, rfl⟩ hd) (q _ Z H r.refl r.box (.str y))
/-! ### tuples and lists written out -/
theorem ResL.E_repL {K : PySem.W.Frag} {W : Wd} {H Z' H' : Hp} : ∀ {ds : List D} {vs : List V} {mds : List Md}, (∀ md ∈ mds, md = Md.E) → ResL K W mds H Z' H' ds vs → RepL K W.β Z' ds vs
  | [], [], [], _, _ => .nil
  | d :: ds, v :: vs, md :: mds, hE, ⟨h, r⟩ => by
    have e := hE md List.mem_cons_self
    subst e
    exact .cons h (ResL.E_repL (fun m hm => hE m (List.mem_cons_of_mem _ hm)) r)
  | [], [], _ :: _, _, h => h.elim
  | [], _ :: _, [], _, h => h.elim
  | [], _ :: _, _ :: _, _, h => h.elim
  | _ :: _, [], [], _, h => h.elim
  | _ :: _, [], _ :: _, _, h => h.elim
  | _ :: _, _ :: _, [], _, h => h.elim
def tupD (ds : List D) : Option D := if ds.length ≤ sizeLine then some (.tup ds) else none
def lstD (ds : List D) : Option D := if ds.length ≤ sizeLine then some (.lst ds) else none
theorem tupD_some {ds : List D} {d : D} (h : tupD ds = some d) : ds.length ≤ sizeLine ∧ d = .tup ds := by
  unfold tupD at h
  split at h
  · cases h; exact ⟨by assumption, rfl⟩
  · cases h
theorem lstD_some {ds : List D} {d : D} (h : lstD ds = some d) : ds.length ≤ sizeLine ∧ d = .lst ds := by
  unfold lstD at h
  split at h
  · cases h; exact ⟨by assumption, rfl⟩
  · cases h
theorem Ok.tup {mds : List Md} {mr : M S (List D)} {x1} (hr : OkA mds C Γ es mr) (hE : ∀ md ∈ mds, md = Md.E := by decide) : Ok .E C Γ (.Tuple es x1 pos) (bnd mr fun xs => lift (tupD xs)) := fun X hX W σ Z H st d st' Q r hm q => by
  obtain ⟨xs, st1, h1, hm_7⟩ := bnd_some hm
  obtain ⟨hg, rfl⟩ := lift_some hm_7
  obtain ⟨hl, rfl⟩ := tupD_some hg
  refine tU_of (pe_tup paU) (hr X hX W σ Z H st xs _ _ r h1 fun vs Z1 H1 s1 b1 r1 => ?_)
  have rl := ResL.E_repL hE r1
  refine ⟨by rw [← rl.length]; exact hl, fun p hp => ?_⟩
  have hl' : vs.length ≤ sizeLine := by rw [← rl.length]; exact hl
  have s2 := Stp.layZ (o := .tup vs) s1.zh b1 hp hl'
  exact q _ _ _ (s1.trans s2) (box_lay b1 hp) (.tup (.inl upd_same) (rl.mono s2.zz))
theorem Ok.lst {mds : List Md} {mr : M S (List D)} (hr : OkA mds C Γ es mr) (hE : ∀ md ∈ mds, md = Md.E := by decide) : Ok .N C Γ (.List es pos) (bnd mr fun xs => lift (lstD xs)) := fun X hX W σ Z H st d st' Q r hm q => by
  obtain ⟨xs, st1, h1, hm_8⟩ := bnd_some hm
  obtain ⟨hg, rfl⟩ := lift_some hm_8
  obtain ⟨hl, rfl⟩ := lstD_some hg
  refine tU_of (pe_lst paU) (hr X hX W σ Z H st xs _ _ r h1 fun vs Z1 H1 s1 b1 r1 => ?_)
  have rl := ResL.E_repL hE r1
  refine ⟨by rw [← rl.length]; exact hl, fun p hp => ?_⟩
  have hl' : vs.length ≤ sizeLine := by rw [← rl.length]; exact hl
  have s2 := Stp.layH (o := .lst vs) s1.zh hp hl'
  refine q _ _ _ (s1.trans s2) (box_lay b1 hp) ⟨⟨p, vs, rfl, upd_same, rl⟩, fun a e _ => ?_⟩
  cases e
  exact ⟨fresh_back r.box b1 s1 hp, z_none s1.zh hp, BoxS.bxThere b1 hp⟩
/-! ### truth, and, or, not, if -/
def truD : D → Option Bool
  | .non => some false
  | .bl b => some b
  | .int i => some (i != 0)
  | .str x => if x.length ≤ sizeLine then some ((x.length : Int) != 0) else none
  | .tup xs => some (!xs.isEmpty)
  | .lst xs => some (!xs.isEmpty)
  | _ => none
def truM {S : Type} (d : D) : M S Bool := fun s => (truD d).map fun b => (b, s)
theorem truM_some {d : D} {s s' : S} {b : Bool} (h : truM d s = some (b, s')) : truD d = some b ∧ s' = s := by
  unfold truM at h
  cases e : truD d with
  | none => rw [e] at h; cases h
  | some x => rw [e] at h; simp only [Option.map_some, Option.some.injEq, Prod.mk.injEq] at h; exact ⟨by rw [h.1], h.2.symm⟩
theorem isEmpty_len {α β : Type} {xs : List α} {ys : List β} (h : xs.length = ys.length) : xs.isEmpty = ys.isEmpty := by
  cases xs <;> cases ys <;> first | rfl | (simp at h)
theorem truV_of {K : PySem.W.Frag} {W : Wd} {Z H : Hp} {d : D} {v : V} {b : Bool} (sz : Sub Z H) (r : Rep1 K W.β Z H d v) (h : truD d = some b) : TruV K v H b := by
  cases d with
  | non => cases r; cases h; rfl
  | bl c => cases r; cases h; rfl
  | int i => cases r; cases h; rfl
  | str x =>
    cases r
    have h' : (if x.length ≤ sizeLine then some ((x.length : Int) != 0) else none) = some b := h
    split at h'
    · cases h'; exact ⟨by assumption, rfl⟩
    · cases h'
  | tup xs => cases r with | tup hq rl => cases h; exact .inr (.inl ⟨_, sz.sqT hq, by rw [isEmpty_len rl.length]⟩)
  | lst xs =>
    obtain ⟨a, vs, rfl, ha, rl⟩ := r
    cases h
    exact .inl ⟨vs, .inl (.inl ha), by rw [isEmpty_len rl.length]⟩
  | dct xs => cases h
  | box => cases h
theorem OkT.val (ha : Ok .V C Γ a ma) (he : ∀ (env : Env) whole, isTrue a env whole = (do let v ← whole; standAt a.pos; holding [v] (truthy v)) := by intros; rfl) : OkT C Γ a (bnd ma truM) := fun X hX W σ Z H st d st' Q r hm q => by
  obtain ⟨x, st1, h1, hm_9⟩ := bnd_some hm
  obtain ⟨hg, rfl⟩ := truM_some hm_9
  refine tUT_of (pt_truth peU (he _)) (ha X hX W σ Z H st x _ _ r h1 fun v Z1 H1 s1 b1 r1 => ?_)
  exact ⟨d, truV_of s1.sub r1.1 hg, q Z1 H1 s1 b1⟩
theorem OkT.not {n : M S Bool} (ha : OkT C Γ a n) : OkT C Γ (.UnaryOp .Not a pos) (bnd n fun b => ret (!b)) := fun X hX W σ Z H st d st' Q r hm q => by
  obtain ⟨x, st1, h1, hm_10⟩ := bnd_some hm
  obtain ⟨rfl, rfl⟩ := ret_some hm_10
  exact tUT_of (pt_not ptU) (ha X hX W σ Z H st x _ _ r h1 fun Z1 H1 s1 b1 => q Z1 H1 s1 b1)
theorem OkW.pt {n : M S Bool} (h : OkW C Γ e n) : OkT C Γ e n := fun X hX W σ Z H st d st' Q r hm q => fun pins s I => h X hX W σ Z H st d st' Q r hm q _ pins s I
theorem OkW.and1 {n : M S Bool} (h : OkT C Γ a n) : OkW C Γ (.BoolOp .And [a] pos) n := fun X hX W σ Z H st d st' Q r hm q => tUW_of (pw_and1 ptU) (h X hX W σ Z H st d st' Q r hm q)
theorem OkW.or1 {n : M S Bool} (h : OkT C Γ a n) : OkW C Γ (.BoolOp .Or [a] pos) n := fun X hX W σ Z H st d st' Q r hm q => tUW_of (pw_or1 ptU) (h X hX W σ Z H st d st' Q r hm q)
theorem OkW.and {n k : M S Bool} (h : OkT C Γ a n) (hr : OkW C Γ (.BoolOp .And (b :: es) pos) k) : OkW C Γ (.BoolOp .And (a :: b :: es) pos) (bnd n fun t => if t = true then k else ret false) := fun X hX W σ Z H st d st' Q r hm q => by
  obtain ⟨t, st1, h1, hm_11⟩ := bnd_some hm
  refine tUW_of (pw_and ptU pwU) (h X hX W σ Z H st t _ _ r h1 fun Z1 H1 s1 b1 => ?_)
  cases t with
  | true => exact hr X hX W σ Z1 H1 st1 d st' Q (r.step s1 b1) hm_11 fun Z2 H2 s2 b2 => q Z2 H2 (s1.trans s2) b2
  | false =>
    rw [if_neg Bool.false_ne_true] at hm_11 ⊢
    obtain ⟨rfl, rfl⟩ := ret_some hm_11
    exact q Z1 H1 s1 b1
theorem OkW.or {n k : M S Bool} (h : OkT C Γ a n) (hr : OkW C Γ (.BoolOp .Or (b :: es) pos) k) : OkW C Γ (.BoolOp .Or (a :: b :: es) pos) (bnd n fun t => if t = true then ret true else k) := fun X hX W σ Z H st d st' Q r hm q => by
  obtain ⟨t, st1, h1, hm_12⟩ := bnd_some hm
  refine tUW_of (pw_or ptU pwU) (h X hX W σ Z H st t _ _ r h1 fun Z1 H1 s1 b1 => ?_)
  cases t with
  | false => exact hr X hX W σ Z1 H1 st1 d st' Q (r.step s1 b1) hm_12 fun Z2 H2 s2 b2 => q Z2 H2 (s1.trans s2) b2
  | true =>
    rw [if_pos rfl] at hm_12 ⊢
    obtain ⟨rfl, rfl⟩ := ret_some hm_12
    exact q Z1 H1 s1 b1
/-- as values -/
theorem Ok.one {op} (h : Ok md C Γ a ma) : Ok md C Γ (.BoolOp op [a] pos) ma := fun X hX W σ Z H st d st' Q r hm q => tU_of (pe_one peU) (h X hX W σ Z H st d st' Q r hm q)
theorem Ok.and (h : Ok .V C Γ a ma) (hr : Ok md C Γ (.BoolOp .And (b :: es) pos) mb) (hmd : md = .E ∨ md = .N := by first | exact Or.inl rfl | exact Or.inr rfl) : Ok md C Γ (.BoolOp .And (a :: b :: es) pos) (bnd (bnd ma asB) fun t => if t = true then mb else ret (.bl false)) := fun X hX W σ Z H st d st' Q r hm q => by
  obtain ⟨t, st1, h1, hm_13⟩ := bnd_some hm
  obtain ⟨x, st2, h2, h1_14⟩ := bnd_some h1
  obtain ⟨rfl, rfl⟩ := asB_some h1_14
  refine tU_of (pe_and peU peU) (h X hX W σ Z H st _ _ _ r h2 fun v Z1 H1 s1 b1 r1 => ?_)
  cases r1.1
  refine ⟨t, rfl, ?_⟩
  cases t with
  | true => exact hr X hX W σ Z1 H1 _ d st' Q (r.step s1 b1) hm_13 fun v Z2 H2 s2 b2 r2 => q v Z2 H2 (s1.trans s2) b2 (r2.back r.box b1 s1)
  | false =>
    rw [if_neg Bool.false_ne_true] at hm_13 ⊢
    obtain ⟨rfl, rfl⟩ := ret_some hm_13
    refine q _ Z1 H1 s1 b1 ?_
    rcases hmd with rfl | rfl
    · exact .bl false
    · exact ⟨.bl false, fun _ e => nomatch e⟩
theorem Ok.or (h : Ok .V C Γ a ma) (hr : Ok md C Γ (.BoolOp .Or (b :: es) pos) mb) (hmd : md = .E ∨ md = .N := by first | exact Or.inl rfl | exact Or.inr rfl) : Ok md C Γ (.BoolOp .Or (a :: b :: es) pos) (bnd (bnd ma asB) fun t => if t = true then ret (.bl true) else mb) := fun X hX W σ Z H st d st' Q r hm q => by
  obtain ⟨t, st1, h1, hm_15⟩ := bnd_some hm
  obtain ⟨x, st2, h2, h1_16⟩ := bnd_some h1
  obtain ⟨rfl, rfl⟩ := asB_some h1_16
  refine tU_of (pe_or peU peU) (h X hX W σ Z H st _ _ _ r h2 fun v Z1 H1 s1 b1 r1 => ?_)
  cases r1.1
  refine ⟨t, rfl, ?_⟩
  cases t with
  | false => exact hr X hX W σ Z1 H1 _ d st' Q (r.step s1 b1) hm_15 fun v Z2 H2 s2 b2 r2 => q v Z2 H2 (s1.trans s2) b2 (r2.back r.box b1 s1)
  | true =>
    rw [if_pos rfl] at hm_15 ⊢
    obtain ⟨rfl, rfl⟩ := ret_some hm_15
    refine q _ Z1 H1 s1 b1 ?_
    rcases hmd with rfl | rfl
    · exact .bl true
    · exact ⟨.bl true, fun _ e => nomatch e⟩
theorem Ok.not (h : Ok .V C Γ a ma) : Ok .E C Γ (.UnaryOp .Not a pos) (bnd (bnd ma truM) fun t => ret (.bl (!t))) := fun X hX W σ Z H st d st' Q r hm q => by
  obtain ⟨t, st1, h1, hm_17⟩ := bnd_some hm
  obtain ⟨x, st2, h2, h1_18⟩ := bnd_some h1
  obtain ⟨ht, rfl⟩ := truM_some h1_18
  obtain ⟨rfl, rfl⟩ := ret_some hm_17
  refine tU_of (pe_notT peU) (h X hX W σ Z H st _ _ _ r h2 fun v Z1 H1 s1 b1 r1 => ?_)
  exact ⟨t, truV_of s1.sub r1.1 ht, q _ Z1 H1 s1 b1 (.bl _)⟩
theorem Ok.neg (h : Ok .V C Γ a ma) : Ok .E C Γ (.UnaryOp .USub a pos) (bnd ma fun x => lift (match x with | .int i => some (.int (-i)) | _ => none)) := fun X hX W σ Z H st d st' Q r hm q => by
  obtain ⟨x, st1, h1, hm_19⟩ := bnd_some hm
  obtain ⟨ht, rfl⟩ := lift_some hm_19
  refine tU_of (pe_un un_neg peU) (h X hX W σ Z H st _ _ _ r h1 fun v Z1 H1 s1 b1 r1 => ?_)
  cases x with
  | int i => cases r1.1; cases ht; exact ⟨i, rfl, q _ Z1 H1 s1 b1 (.int _)⟩
  | _ => cases ht
theorem Ok.ife {n : M S Bool} (hc : OkT C Γ c n) (ha : Ok md C Γ a ma) (hb : Ok md C Γ b mb) : Ok md C Γ (.IfExp c a b pos) (bnd n fun t => if t = true then ma else mb) := fun X hX W σ Z H st d st' Q r hm q => by
  obtain ⟨t, st1, h1, hm_20⟩ := bnd_some hm
  refine tU_of (pe_ifExp ptU peU peU) (hc X hX W σ Z H st _ _ _ r h1 fun Z1 H1 s1 b1 => ?_)
  cases t with
  | true => exact ha X hX W σ Z1 H1 _ d st' Q (r.step s1 b1) hm_20 fun v Z2 H2 s2 b2 r2 => q v Z2 H2 (s1.trans s2) b2 (r2.back r.box b1 s1)
  | false => exact hb X hX W σ Z1 H1 _ d st' Q (r.step s1 b1) hm_20 fun v Z2 H2 s2 b2 r2 => q v Z2 H2 (s1.trans s2) b2 (r2.back r.box b1 s1)
end
end Sn

namespace Sn
open PySem PySem.Spec PyProof.Rows L2

def tUS (X : Cx) (ss : List Stmt) : TS := fun D σ H => ∀ (pins : List (Addr × Obj)) (s : Shared), Inv X pins σ H s → wpAny (model X.prog X.w) X.A (execs ss X.env) (SP X pins D) X.xe s
theorem pssU {X : Cx} {ss : List Stmt} : PSs X ss (tUS X ss) := ⟨fun pins s _ _ _ I h => h pins s I⟩
theorem tUS_of {X : Cx} {ss : List Stmt} {t : TS} {σ : L2.St} {H : Hp} {D : Ends} (h : PSs X ss t) (q : t D σ H) : tUS X ss D σ H := fun pins s I => h.run pins s σ H D I q
def tUG (X : Cx) (tg : Expr) : TG := fun v σ H Q => ∀ (pins : List (Addr × Obj)) (s : Shared) (u : Value), Inv X pins σ H s → RelV v u → wpAny (model X.prog X.w) X.A (assign tg X.env u) (fun _ s' => ∃ σ' H', Inv X pins σ' H' s' ∧ Q σ' H') X.xe s
theorem pgU {X : Cx} {tg : Expr} : PG X tg (tUG X tg) := ⟨fun pins s _ _ _ u _ I r h => h pins s u I r⟩
theorem tUG_of {X : Cx} {tg : Expr} {t : TG} {v : V} {σ : L2.St} {H : Hp} {Q : L2.St → Hp → Prop} (h : PG X tg t) (q : t v σ H Q) : tUG X tg v σ H Q := fun pins s u I r => h.run pins s σ H v u Q I r q
def tUI (X : Cx) (tg iter : Expr) : TI := fun σ H R => ∀ (pins : List (Addr × Obj)) (s : Shared), Inv X pins σ H s →
  wpAny (model X.prog X.w) X.A (eval iter X.env) (fun v s1 => wpAny (model X.prog X.w) X.A (pyIter v) (PIE X pins σ tg R) X.xe s1) X.xe s
theorem piU {X : Cx} {tg iter : Expr} : PI X tg iter (tUI X tg iter) := ⟨fun pins s _ _ _ I h => h pins s I⟩
theorem tUI_of {X : Cx} {tg iter : Expr} {t : TI} {σ : L2.St} {H : Hp} {R : It → Hp → Prop} (h : PI X tg iter t) (q : t σ H R) : tUI X tg iter σ H R := fun pins s I => h.run pins s σ H R I q

/-! ### the slots change -/
section
variable {S : Type} [BoxS S] {K : PySem.W.Frag} {W : Wd} {Γ Γ' : SCx} {σ σ' : L2.St} {Z H Z' H' Z1 H1 : Hp} {st st' : S} {i : Nat} {d : D} {v : V}
theorem set_cases {α : Type} {l : List α} {i j : Nat} {x y : α} (h : (l.set i x)[j]? = some y) : (j = i ∧ y = x ∧ i < l.length) ∨ (j ≠ i ∧ l[j]? = some y) := by
  by_cases e : i = j
  · subst e
    by_cases hl : i < l.length
    · rw [List.getElem?_set_self hl] at h; cases h; exact .inl ⟨rfl, rfl, hl⟩
    · rw [List.getElem?_eq_none (by simpa using hl)] at h; cases h
  · rw [List.getElem?_set_ne e] at h; exact .inr ⟨fun z => e z.symm, h⟩
theorem SR.setF (r : SR K W Γ σ Z H st) (q : Rep K W.β Z d v) : SR K W (Γ.set i (some (.frz d))) (σ.set i (some v)) Z H st where
  ln := by rw [List.length_set, List.length_set]; exact r.ln
  sz := r.sz
  box := r.box
  zh := r.zh
  frz := fun j e h => by
    rcases set_cases h with ⟨rfl, he, hl⟩ | ⟨hn, h⟩
    · cases he
      exact ⟨v, List.getElem?_set_self (by rw [r.ln]; exact hl), q⟩
    · rw [List.getElem?_set_ne (Ne.symm hn)]; exact r.frz j e h
  own := fun j e h => by
    rcases set_cases h with ⟨rfl, he, hl⟩ | ⟨hn, h⟩
    · cases he
    · rw [List.getElem?_set_ne (Ne.symm hn)]; exact r.own j e h
  dis := fun j k e f a h1 h2 h3 h4 => by
    rcases set_cases h1 with ⟨rfl, he, hl⟩ | ⟨hn, h1⟩
    · cases he
    · rcases set_cases h2 with ⟨rfl, he, hl⟩ | ⟨hm, h2⟩
      · cases he
      · rw [List.getElem?_set_ne (Ne.symm hn)] at h3
        rw [List.getElem?_set_ne (Ne.symm hm)] at h4
        exact r.dis j k e f a h1 h2 h3 h4
theorem own_setF {a : Addr} (h : ownA (Γ.set i (some (.frz d))) (σ.set i (some v)) a) : ownA Γ σ a := by
  obtain ⟨j, e, h1, h2⟩ := h
  rcases set_cases h1 with ⟨rfl, he, hl⟩ | ⟨hn, h1⟩
  · cases he
  · rw [List.getElem?_set_ne (Ne.symm hn)] at h2
    exact ⟨j, e, h1, h2⟩
theorem SR.setO {p : Addr} (r : SR K W Γ σ Z H st) (mu : isMut d = true) (q : Rep1 K W.β Z H d (.ref p)) (z : Z p = none) (nb : ¬ W.bx p) (no : ¬ ownA Γ σ p) : SR K W (Γ.set i (some (.own d))) (σ.set i (some (.ref p))) Z H st where
  ln := by rw [List.length_set, List.length_set]; exact r.ln
  sz := r.sz
  box := r.box
  zh := r.zh
  frz := fun j e h => by
    rcases set_cases h with ⟨rfl, he, hl⟩ | ⟨hn, h⟩
    · cases he
    · rw [List.getElem?_set_ne (Ne.symm hn)]; exact r.frz j e h
  own := fun j e h => by
    rcases set_cases h with ⟨rfl, he, hl⟩ | ⟨hn, h⟩
    · cases he
      exact ⟨p, List.getElem?_set_self (by rw [r.ln]; exact hl), z, nb, mu, q⟩
    · rw [List.getElem?_set_ne (Ne.symm hn)]; exact r.own j e h
  dis := fun j k e f a h1 h2 h3 h4 => by
    rcases set_cases h1 with ⟨ej, he, hl⟩ | ⟨hn, g1⟩
    · rcases set_cases h2 with ⟨ek, he', hl'⟩ | ⟨hm, g2⟩
      · rw [ej, ek]
      · rw [ej, List.getElem?_set_self (by rw [r.ln]; exact hl)] at h3
        cases h3
        rw [List.getElem?_set_ne (Ne.symm hm)] at h4
        exact (no ⟨k, f, g2, h4⟩).elim
    · rcases set_cases h2 with ⟨ek, he', hl'⟩ | ⟨hm, g2⟩
      · rw [ek, List.getElem?_set_self (by rw [r.ln]; exact hl')] at h4
        cases h4
        rw [List.getElem?_set_ne (Ne.symm hn)] at h3
        exact (no ⟨j, e, g1, h3⟩).elim
      · rw [List.getElem?_set_ne (Ne.symm hn)] at h3
        rw [List.getElem?_set_ne (Ne.symm hm)] at h4
        exact r.dis j k e f a g1 g2 h3 h4
theorem own_setO {a p : Addr} (h : ownA (Γ.set i (some (.own d))) (σ.set i (some (.ref p))) a) : ownA Γ σ a ∨ a = p := by
  obtain ⟨j, e, h1, h2⟩ := h
  rcases set_cases h1 with ⟨rfl, he, hl⟩ | ⟨hn, h1⟩
  · by_cases hs : j < σ.length
    · rw [List.getElem?_set_self hs] at h2
      cases h2
      exact .inr rfl
    · rw [List.getElem?_eq_none (by simpa using hs)] at h2; cases h2
  · rw [List.getElem?_set_ne (Ne.symm hn)] at h2
    exact .inl ⟨j, e, h1, h2⟩
/-- the object of an own slot changes -/
theorem SR.mut {p : Addr} {o : HO} {d' : D} (r : SR K W Γ σ Z H st) (h0 : Γ[i]? = some (some (En.own d))) (hp : σ[i]? = some (some (V.ref p))) (mu : isMut d' = true) (q : Rep1 K W.β Z (upd H p o) d' (.ref p)) (so : SzO o) :
    SR K W (Γ.set i (some (.own d'))) σ Z (upd H p o) st := by
  obtain ⟨p', e', z, nb, _, _⟩ := r.own i d h0
  rw [hp] at e'; cases e'
  have np : ∀ a u, Z a = some u → a ≠ p := fun a u h e => by rw [e, z] at h; cases h
  refine ⟨by rw [List.length_set]; exact r.ln, r.sz.upd so, BoxS.congr r.box (upd_ne fun e => nb (.inl e.symm)) (upd_ne fun e => nb (.inr e.symm)), fun a u h => ⟨by rw [upd_ne (np a u h)]; exact (r.zh a u h).1, (r.zh a u h).2⟩, fun j e h => ?_, fun j e h => ?_, fun j k e f a h1 h2 h3 h4 => ?_⟩
  · rcases set_cases h with ⟨rfl, he, hl⟩ | ⟨hn, h⟩
    · cases he
    · exact r.frz j e h
  · rcases set_cases h with ⟨rfl, he, hl⟩ | ⟨hn, h⟩
    · cases he
      exact ⟨p, hp, z, nb, mu, q⟩
    · obtain ⟨a, ea, za, na, ma, qa⟩ := r.own j e h
      refine ⟨a, ea, za, na, ma, qa.mono (Sub.refl _) fun b eb u hb => ?_⟩
      cases eb
      rw [upd_ne (fun z => hn (r.dis j i e d a h h0 ea (by rw [z]; exact hp)))]
      exact hb
  · have g : ∀ (j : Nat) (e : D), (Γ.set i (some (En.own d')))[j]? = some (some (En.own e)) → ∃ e', Γ[j]? = some (some (En.own e')) := fun j e h => by
      rcases set_cases h with ⟨rfl, he, hl⟩ | ⟨hn, h⟩
      · exact ⟨d, h0⟩
      · exact ⟨e, h⟩
    obtain ⟨e', h1'⟩ := g j e h1
    obtain ⟨f', h2'⟩ := g k f h2
    exact r.dis j k e' f' a h1' h2' h3 h4
theorem own_mut {d' : D} {a : Addr} (h0 : Γ[i]? = some (some (En.own d))) (h : ownA (Γ.set i (some (.own d'))) σ a) : ownA Γ σ a := by
  obtain ⟨j, e, h1, h2⟩ := h
  rcases set_cases h1 with ⟨rfl, he, hl⟩ | ⟨hn, h1⟩
  · exact ⟨j, d, h0, h2⟩
  · exact ⟨j, e, h1, h2⟩
/-- less is known -/
def Wk (Γ Γ' : SCx) : Prop := Γ'.length = Γ.length ∧ ∀ (i : Nat) (e : En), Γ'[i]? = some (some e) → Γ[i]? = some (some e)
def maskOut : List Bool → SCx → SCx
  | b :: bs, e :: es => (if b then e else none) :: maskOut bs es
  | [], es => es
  | _ :: _, [] => []
theorem wk_mask : ∀ {bs : List Bool} {Γ : SCx}, Wk Γ (maskOut bs Γ)
  | [], Γ => ⟨by cases Γ <;> rfl, fun i e h => by cases Γ <;> exact h⟩
  | b :: bs, [] => ⟨rfl, fun i e h => by simp [maskOut] at h⟩
  | b :: bs, x :: es => by
    obtain ⟨h1, h2⟩ := wk_mask (bs := bs) (Γ := es)
    refine ⟨by simp only [maskOut, List.length_cons]; rw [h1], fun i e h => ?_⟩
    cases i with
    | zero =>
      have h' : (if b then x else none) = some e := by simpa [maskOut] using h
      cases b with
      | true => rw [if_pos rfl] at h'; subst h'; simp
      | false => cases h'
    | succ i =>
      have h' : (maskOut bs es)[i]? = some (some e) := by simpa [maskOut] using h
      simpa using h2 i e h'
theorem SR.wk (r : SR K W Γ σ Z H st) (k : Wk Γ Γ') : SR K W Γ' σ Z H st :=
  ⟨by rw [k.1]; exact r.ln, r.sz, r.box, r.zh, fun i d h => r.frz i d (k.2 i _ h), fun i d h => r.own i d (k.2 i _ h), fun i j d e a h1 h2 => r.dis i j d e a (k.2 i _ h1) (k.2 j _ h2)⟩
theorem own_wk (k : Wk Γ Γ') {a : Addr} (h : ownA Γ' σ a) : ownA Γ σ a := by
  obtain ⟨i, d, h1, h2⟩ := h
  exact ⟨i, d, k.2 i _ h1, h2⟩
/-- an own list is never changed any more -/
theorem SR.freeze (r : SR K W Γ σ Z H st) (h0 : Γ[i]? = some (some (En.own d))) : ∃ p o, σ[i]? = some (some (V.ref p)) ∧ ownA Γ σ p ∧ Z p = none ∧ H p = some o ∧ SR K W (Γ.set i (some (.frz d))) σ (upd Z p o) H st ∧ Rep K W.β (upd Z p o) d (.ref p) := by
  obtain ⟨p, hp, z, nb, mu, q⟩ := r.own i d h0
  have hx : ∃ o, H p = some o := r.ownThere ⟨i, d, h0, hp⟩
  obtain ⟨o, ho⟩ := hx
  have sz : Sub Z (upd Z p o) := fun a u h => upd_none z h
  have rq : Rep K W.β (upd Z p o) d (.ref p) := Rep1.rep (H := H) (q.mono sz fun _ _ _ h => h) fun a e _ => by cases e; rw [upd_same, ho]
  refine ⟨p, o, hp, ⟨i, d, h0, hp⟩, z, ho, ⟨by rw [List.length_set]; exact r.ln, r.sz, r.box, fun a u h => ?_, fun j e h => ?_, fun j e h => ?_, fun j k e f a h1 h2 h3 h4 => ?_⟩, rq⟩
  · rcases upd_get h with ⟨rfl, rfl⟩ | ⟨_, h⟩
    · exact ⟨ho, nb⟩
    · exact r.zh a u h
  · rcases set_cases h with ⟨rfl, he, hl⟩ | ⟨hn, h⟩
    · cases he; exact ⟨_, hp, rq⟩
    · obtain ⟨v, ev, rv⟩ := r.frz j e h
      exact ⟨v, ev, rv.mono sz⟩
  · rcases set_cases h with ⟨rfl, he, hl⟩ | ⟨hn, h⟩
    · cases he
    · obtain ⟨a, ea, za, na, ma, qa⟩ := r.own j e h
      refine ⟨a, ea, ?_, na, ma, qa.mono sz fun _ _ _ h => h⟩
      rw [upd_ne (fun z' => hn (r.dis j i e d a h h0 ea (by rw [z']; exact hp)))]
      exact za
  · rcases set_cases h1 with ⟨rfl, he, hl⟩ | ⟨hn, h1⟩
    · cases he
    · rcases set_cases h2 with ⟨rfl, he, hl⟩ | ⟨hm, h2⟩
      · cases he
      · exact r.dis j k e f a h1 h2 h3 h4
theorem own_freeze {a : Addr} (h : ownA (Γ.set i (some (.frz d))) σ a) : ownA Γ σ a := by
  obtain ⟨j, e, h1, h2⟩ := h
  rcases set_cases h1 with ⟨rfl, he, hl⟩ | ⟨hn, h1⟩
  · cases he
  · exact ⟨j, e, h1, h2⟩
end

/-! ### blocks -/
structure Tg (τ l : Type) where
  nx : τ → SCx
  lp : l → SCx
inductive Fl (τ l : Type) where
  | nx (s : τ) | rt (d : D) | bk (s : l) | ct (s : l)
/-- what a block may do -/
structure BSt (W : Wd) (Γ : SCx) (σ : L2.St) (Z H Z' H' : Hp) : Prop where
  zz : Sub Z Z'
  hh : ∀ a o, H a = some o → ¬ W.bx a → ¬ ownA Γ σ a → H' a = some o
  nw : ∀ a o, Z' a = some o → Z a = some o ∨ H a = none ∨ ownA Γ σ a
  sz : Sz H → Sz H'
def OwLe (Γ : SCx) (σ : L2.St) (H : Hp) (Γ' : SCx) (σ' : L2.St) : Prop := ∀ a, ownA Γ' σ' a → ownA Γ σ a ∨ H a = none
def FlOk {S : Type} [BoxS S] {τ l : Type} (K : PySem.W.Frag) (W : Wd) (Γ : SCx) (σ : L2.St) (Z H : Hp) (T : Tg τ l) (f : Fl τ l) (st' : S) (D : Ends) : Prop :=
  match f with
  | .nx s => ∀ σ' Z' H', SR K W (T.nx s) σ' Z' H' st' → BSt W Γ σ Z H Z' H' → OwLe Γ σ H (T.nx s) σ' → D.nx σ' H'
  | .ct s => ∀ σ' Z' H', SR K W (T.lp s) σ' Z' H' st' → BSt W Γ σ Z H Z' H' → OwLe Γ σ H (T.lp s) σ' → D.ct σ' H'
  | .bk s => ∀ σ' Z' H', SR K W (T.lp s) σ' Z' H' st' → BSt W Γ σ Z H Z' H' → OwLe Γ σ H (T.lp s) σ' → D.bk σ' H'
  | .rt d => ∀ v Z' H', (∀ a o, Z' a = some o → H' a = some o ∧ ¬ W.bx a) → BoxS.R st' W.β W.γ H' → BSt W Γ σ Z H Z' H' → Rep K W.β Z' d v → D.rt v H'
def OkB {S : Type} [BoxS S] {τ l : Type} (C : Stat) (Γ : SCx) (ss : List Stmt) (T : Tg τ l) (m : M S (Fl τ l)) : Prop :=
  ∀ X, CtxP C X → ∀ (W : Wd) (σ : L2.St) (Z H : Hp) (st : S) (f : Fl τ l) (st' : S) (D : Ends), SR X.K W Γ σ Z H st → m st = some (f, st') → FlOk X.K W Γ σ Z H T f st' D → tUS X ss D σ H

section
variable {S : Type} [BoxS S] {K : PySem.W.Frag} {W : Wd} {Γ Γ1 : SCx} {σ σ1 : L2.St} {Z H Z1 H1 Z2 H2 : Hp} {st st' : S} {τ l : Type}
theorem Stp.bst (s : Stp W Z H Z1 H1) : BSt W Γ σ Z H Z1 H1 := ⟨s.zz, fun a o h n _ => s.hh a o h n, fun a o h => (s.nw a o h).elim .inl fun q => .inr (.inl q), s.sz⟩
theorem BSt.refl : BSt W Γ σ Z H Z H := ⟨Sub.refl _, fun _ _ h _ _ => h, fun _ _ h => .inl h, id⟩
theorem OwLe.refl : OwLe Γ σ H Γ σ := fun _ h => .inl h
theorem BSt.trans (nb : ∀ a o, Z2 a = some o → ¬ W.bx a) (s : BSt W Γ σ Z H Z1 H1) (w : OwLe Γ σ H Γ1 σ1) (t : BSt W Γ1 σ1 Z1 H1 Z2 H2) : BSt W Γ σ Z H Z2 H2 where
  zz := s.zz.trans t.zz
  hh := fun a o h n no => t.hh a o (s.hh a o h n no) n fun q => by
    rcases w a q with q | q
    · exact no q
    · rw [h] at q; cases q
  nw := fun a o h => by
    rcases t.nw a o h with q | q | q
    · exact s.nw a o q
    · cases e : H a with
      | none => exact .inr (.inl rfl)
      | some u =>
        by_cases no : ownA Γ σ a
        · exact .inr (.inr no)
        · rw [s.hh a u e (nb a o h) no] at q; cases q
    · rcases w a q with q | q
      · exact .inr (.inr q)
      · exact .inr (.inl q)
  sz := fun h => t.sz (s.sz h)
theorem OwLe.trans {Γ2 : SCx} {σ2 : L2.St} (s : BSt W Γ σ Z H Z1 H1) (w : OwLe Γ σ H Γ1 σ1) (t : OwLe Γ1 σ1 H1 Γ2 σ2) (nb : ∀ a, ownA Γ2 σ2 a → ¬ W.bx a) : OwLe Γ σ H Γ2 σ2 := fun a h => by
  rcases t a h with q | q
  · exact w a q
  · cases e : H a with
    | none => exact .inr rfl
    | some u =>
      by_cases no : ownA Γ σ a
      · exact .inl no
      · rw [s.hh a u e (nb a h) no] at q; cases q
theorem SR.ownNb (r : SR K W Γ σ Z H st) {a : Addr} (h : ownA Γ σ a) : ¬ W.bx a := by
  obtain ⟨i, d, h1, h2⟩ := h
  obtain ⟨b, e, z, n, mu, q⟩ := r.own i d h1
  rw [h2] at e; cases e
  exact n
/-- behind a first part -/
theorem FlOk.after {T : Tg τ l} {f : Fl τ l} {D : Ends} (s : BSt W Γ σ Z H Z1 H1) (w : OwLe Γ σ H Γ1 σ1) (h : FlOk K W Γ σ Z H T f st' D) : FlOk K W Γ1 σ1 Z1 H1 T f st' D := by
  cases f with
  | nx x => exact fun σ' Z' H' r t u => h σ' Z' H' r (s.trans (fun a o e => (r.zh a o e).2) w t) (w.trans s u fun a => r.ownNb)
  | ct x => exact fun σ' Z' H' r t u => h σ' Z' H' r (s.trans (fun a o e => (r.zh a o e).2) w t) (w.trans s u fun a => r.ownNb)
  | bk x => exact fun σ' Z' H' r t u => h σ' Z' H' r (s.trans (fun a o e => (r.zh a o e).2) w t) (w.trans s u fun a => r.ownNb)
  | rt d => exact fun v Z' H' zh b t r => h v Z' H' zh b (s.trans (fun a o e => (zh a o e).2) w t) r
end

section
variable {S : Type} [BoxS S] {C : Stat} {Γ Γ' : SCx} {e a b c : Expr} {rest body : List Stmt} {m : M S D} {pos : Pos} {τ l τ' l' : Type} {T : Tg τ l} {i : Nat} {x : Str}
theorem OkB.nil {s : τ} (k : Wk Γ (T.nx s)) : OkB (S := S) C Γ [] T (ret (.nx s)) := fun X hX W σ Z H st f st' D r hm q => by
  obtain ⟨rfl, rfl⟩ := ret_some hm
  exact tUS_of pss_nil (q σ Z H (r.wk k) BSt.refl fun a h => .inl (own_wk k h))
theorem OkB.cont {s : l} (k : Wk Γ (T.lp s)) : OkB (S := S) C Γ (.Continue pos :: rest) T (ret (.ct s)) := fun X hX W σ Z H st f st' D r hm q => by
  obtain ⟨rfl, rfl⟩ := ret_some hm
  exact tUS_of (pss_cons ps_continue pssU) (q σ Z H (r.wk k) BSt.refl fun a h => .inl (own_wk k h))
theorem OkB.brk {s : l} (k : Wk Γ (T.lp s)) : OkB (S := S) C Γ (.Break pos :: rest) T (ret (.bk s)) := fun X hX W σ Z H st f st' D r hm q => by
  obtain ⟨rfl, rfl⟩ := ret_some hm
  exact tUS_of (pss_cons ps_break pssU) (q σ Z H (r.wk k) BSt.refl fun a h => .inl (own_wk k h))
theorem OkB.ret (he : Ok .E C Γ e m) : OkB C Γ (.Return (some e) pos :: rest) T (bnd m fun d => ret (.rt d)) := fun X hX W σ Z H st f st' D r hm q => by
  obtain ⟨d, st1, h1, hm1⟩ := bnd_some hm
  obtain ⟨rfl, rfl⟩ := ret_some hm1
  refine tUS_of (pss_cons (ps_ret peU) pssU) (he X hX W σ Z H st d _ _ r h1 fun v Z' H' s b r' => ?_)
  exact q v Z' H' s.zh b s.bst r'
theorem OkB.retN : OkB (S := S) C Γ (.Return none pos :: rest) T (Sn.ret (.rt .non)) := fun X hX W σ Z H st f st' D r hm q => by
  obtain ⟨rfl, rfl⟩ := ret_some hm
  exact tUS_of (pss_cons ps_retN pssU) (q _ Z H r.zh r.box BSt.refl .non)
/-- an own list is never changed any more -/
theorem OkB.freeze {d : D} {ss : List Stmt} {mb : M S (Fl τ l)} (i : Nat) (h0 : Γ[i]? = some (some (.own d))) (hb : OkB C (Γ.set i (some (.frz d))) ss T mb) : OkB C Γ ss T mb := fun X hX W σ Z H st f st' D r hm q => by
  obtain ⟨p, o, hp, ow, z, ho, r', rq⟩ := r.freeze h0
  have s : BSt W Γ σ Z H (upd Z p o) H := ⟨fun a u h => upd_none z h, fun _ _ h _ _ => h, fun a u h => by
    rcases upd_get h with ⟨rfl, rfl⟩ | ⟨_, h⟩
    · exact .inr (.inr ow)
    · exact .inl h, id⟩
  exact hb X hX W σ (upd Z p o) H st f st' D r' hm (q.after s fun a h => .inl (own_freeze h))
theorem store_hyp {X : Cx} (hX : CtxP C X) (h : C.fn x = true ∨ C.sc.names.lookup x = some .local) : X.fn x = true ∨ X.env.scope.names.lookup x = some .local := by
  rcases h with h | h
  · exact .inl (hX.fn x h)
  · exact .inr (by rw [hX.sc]; exact h)
theorem sw_cell {elt : Expr} {gs : List Comprehension} {scope sc : Scope} {p py : Pos} {y : Str} {ln : Nat} {env : Env} (he : env.scope = sc) (hy : sc.names.lookup y = some .cell) : swapsWith (.ListComp elt gs scope p) (some (.Name y py)) ln env = pure false := by
  have ky : env.kindOf y = some .cell := by show env.scope.names.lookup y = _; rw [he]; exact hy
  unfold swapsWith
  simp only [ky]
  cases env.blockKind == .function <;> rfl
/-- name = e -/
theorem OkB.set {k : D → M S (Fl τ l)} {pos' : Pos} (hN : C.N[i]? = some x) (hx : Loc C.sc x) (hf : C.fn x = true ∨ C.sc.names.lookup x = some .local) (he : Ok .E C Γ e m) (hb : ∀ d, OkB C (Γ.set i (some (.frz d))) rest T (k d))
    (hs : ∀ env : Env, env.scope = C.sc → swapsWith e (some (.Name x pos')) pos.line env = pure false := by intro _ _; rfl) : OkB C Γ (.Assign [.Name x pos'] e pos :: rest) T (bnd m k) := fun X hX W σ Z H st f st' D r hm q => by
  obtain ⟨d, st1, h1, hm1⟩ := bnd_some hm
  refine tUS_of (pss_cons (ps_set (i := i) (by rw [hX.N]; exact hX.nd) (by rw [hX.N]; exact hN) (by rw [hX.sc]; exact hx) peU (hs _ hX.sc) (store_hyp hX hf)) pssU) ?_
  refine he X hX W σ Z H st d st1 _ r h1 fun v Z1 H1 s1 b1 r1 => ?_
  exact hb d X hX W (σ.set i (some v)) Z1 H1 st1 f st' D ((r.step s1 b1).setF r1) hm1 (q.after s1.bst fun a h => .inl (own_setF h))
/-- .. a new list, to be changed -/
theorem OkB.setO {k : D → M S (Fl τ l)} {pos' : Pos} (hN : C.N[i]? = some x) (hx : Loc C.sc x) (hf : C.fn x = true ∨ C.sc.names.lookup x = some .local) (he : Ok .N C Γ e m) (hb : ∀ d, OkB C (Γ.set i (some (.own d))) rest T (k d))
    (hs : ∀ env : Env, env.scope = C.sc → swapsWith e (some (.Name x pos')) pos.line env = pure false := by intro _ _; rfl) : OkB C Γ (.Assign [.Name x pos'] e pos :: rest) T (bnd m fun d => if isMut d = true then k d else stuck) := fun X hX W σ Z H st f st' D r hm q => by
  obtain ⟨d, st1, h1, hm1⟩ := bnd_some hm
  by_cases mu : isMut d = true
  · rw [if_pos mu] at hm1
    refine tUS_of (pss_cons (ps_set (i := i) (by rw [hX.N]; exact hX.nd) (by rw [hX.N]; exact hN) (by rw [hX.sc]; exact hx) peU (hs _ hX.sc) (store_hyp hX hf)) pssU) ?_
    refine he X hX W σ Z H st d st1 _ r h1 fun v Z1 H1 s1 b1 r1 => ?_
    have hv : ∃ p, v = .ref p := by
      obtain ⟨q4, _⟩ := r1
      cases d with
      | lst ds => obtain ⟨b, vs, eb, _⟩ := q4; exact ⟨b, eb⟩
      | dct ds => obtain ⟨b, eb, _⟩ := q4; exact ⟨b, eb⟩
      | _ => cases mu
    obtain ⟨p, rfl⟩ := hv
    obtain ⟨f1, f2, f3⟩ := r1.2 p rfl mu
    have no : ¬ ownA Γ σ p := fun h => by
      obtain ⟨o, ho⟩ := r.ownThere h
      rw [f1] at ho; cases ho
    refine hb d X hX W (σ.set i (some (.ref p))) Z1 H1 st1 f st' D ((r.step s1 b1).setO mu r1.1 f2 f3 no) hm1 (q.after s1.bst fun a h => ?_)
    rcases own_setO h with h | rfl
    · exact .inl h
    · exact .inr f1
  · rw [if_neg mu] at hm1; exact (stuck_some hm1).elim
/-- what follows an inner block -/
def seqF {S : Type} {τ l τ' : Type} (f : Fl τ' l) (k : τ' → M S (Fl τ l)) : M S (Fl τ l) :=
  match f with
  | .nx s => k s
  | .rt d => Sn.ret (.rt d)
  | .bk s => Sn.ret (.bk s)
  | .ct s => Sn.ret (.ct s)
theorem OkB.ite {n : M S Bool} {A B : List Stmt} {Γj : τ' → SCx} {mA mB : M S (Fl τ' l)} {k : τ' → M S (Fl τ l)} (hc : OkT C Γ c n) (hA : OkB C Γ A ⟨Γj, T.lp⟩ mA) (hB : OkB C Γ B ⟨Γj, T.lp⟩ mB) (hk : ∀ s, OkB C (Γj s) rest T (k s)) :
    OkB C Γ (.If c A B pos :: rest) T (bnd n fun t => bnd (if t = true then mA else mB) fun f => seqF f k) := fun X hX W σ Z H st f st' D r hm q => by
  obtain ⟨t, st1, h1, hm1⟩ := bnd_some hm
  obtain ⟨g, st2, h2, hm2⟩ := bnd_some hm1
  refine tUS_of (pss_cons (ps_if ptU pssU pssU) pssU) ?_
  refine hc X hX W σ Z H st t st1 _ r h1 fun Z1 H1 s1 b1 => ?_
  have r1 := r.step s1 b1
  have q1 : FlOk X.K W Γ σ Z1 H1 T f st' D := q.after s1.bst OwLe.refl
  have inner : FlOk X.K W Γ σ Z1 H1 ⟨Γj, T.lp⟩ g st2 { D with nx := tUS X rest D } := by
    cases g with
    | nx s => exact fun σ' Z' H' r' s' w' => hk s X hX W σ' Z' H' st2 f st' D r' hm2 (q1.after s' w')
    | rt d => obtain ⟨rfl, rfl⟩ := ret_some hm2; exact q1
    | bk s => obtain ⟨rfl, rfl⟩ := ret_some hm2; exact q1
    | ct s => obtain ⟨rfl, rfl⟩ := ret_some hm2; exact q1
  cases t with
  | true => exact hA X hX W σ Z1 H1 st1 g st2 _ r1 h2 inner
  | false => exact hB X hX W σ Z1 H1 st1 g st2 _ r1 h2 inner

/-! ### targets -/
def TgOk (C : Stat) (Γ : SCx) (tg : Expr) (d : D) (Γ' : SCx) (vs : List Nat) : Prop :=
  ∀ X, CtxP C X → ∀ {S : Type} [BoxS S] (W : Wd) (σ : L2.St) (Z H : Hp) (st : S) (v : V) (Q : L2.St → Hp → Prop), SR X.K W Γ σ Z H st → Rep X.K W.β Z d v →
    (∀ σ', SR X.K W Γ' σ' Z H st → (∀ ws : List Nat, (∀ i ∈ vs, i ∈ ws) → wipe σ' ws = wipe σ ws) → (∀ a, ownA Γ' σ' a → ownA Γ σ a) → Q σ' H) → tUG X tg v σ H Q
def TgsOk (C : Stat) (Γ : SCx) (tgs : List Expr) (ds : List D) (Γ' : SCx) (vs : List Nat) : Prop :=
  match tgs, ds with
  | [], [] => Γ' = Γ ∧ vs = []
  | t :: ts, d :: ds => ∃ Γ1 v1 v2, TgOk C Γ t d Γ1 v1 ∧ TgsOk C Γ1 ts ds Γ' v2 ∧ vs = v1 ++ v2
  | _, _ => False
theorem wipe_set {σ : L2.St} {i : Nat} {o : Option V} : ∀ {ws : List Nat}, i ∈ ws → wipe (σ.set i o) ws = wipe σ ws
  | [], h => by cases h
  | w :: ws, h => by
    show (wipe (σ.set i o) ws).set w none = (wipe σ ws).set w none
    by_cases hi : i ∈ ws
    · rw [wipe_set hi]
    · have e : w = i := by
        rcases List.mem_cons.mp h with h | h
        · exact h.symm
        · exact absurd h hi
      subst e
      clear h
      have g : ∀ (us : List Nat), w ∉ us → wipe (σ.set w o) us = (wipe σ us).set w o := by
        intro us
        induction us with
        | nil => intro _; rfl
        | cons u us ih =>
          intro hu
          show (wipe (σ.set w o) us).set u none = ((wipe σ us).set u none).set w o
          rw [ih fun z => hu (List.mem_cons_of_mem _ z)]
          exact List.set_comm _ _ (fun z => hu (z ▸ List.mem_cons_self))
      rw [g ws hi, List.set_set]
theorem TgOk.name {d : D} (hN : C.N[i]? = some x) (hx : Loc C.sc x) (hf : C.fn x = true ∨ C.sc.names.lookup x = some .local) : TgOk C Γ (.Name x pos) d (Γ.set i (some (.frz d))) [i] := fun X hX S _ W σ Z H st v Q r rv q =>
  tUG_of (pg_name (i := i) (by rw [hX.N]; exact hX.nd) (by rw [hX.N]; exact hN) (by rw [hX.sc]; exact hx) (store_hyp hX hf)) (q _ (r.setF rv) (fun ws h => wipe_set (h i (by simp))) fun a h => own_setF h)
def tUGs (X : Cx) (tgs : List Expr) : TGs := fun vs σ H Q => ∀ (pins : List (Addr × Obj)) (s : Shared) (us : List Value), Inv X pins σ H s → Vals vs us → wpAny (model X.prog X.w) X.A (assignInOrder ((assignEach tgs X.env).map (·.2)) us) (fun _ s' => ∃ σ' H', Inv X pins σ' H' s' ∧ Q σ' H') X.xe s
theorem pgsU {X : Cx} {tgs : List Expr} : PGs X tgs (tUGs X tgs) := ⟨fun pins s _ _ _ us _ I r h => h pins s us I r⟩
theorem tUGs_of {X : Cx} {tgs : List Expr} {t : TGs} {vs : List V} {σ : L2.St} {H : Hp} {Q : L2.St → Hp → Prop} (h : PGs X tgs t) (q : t vs σ H Q) : tUGs X tgs vs σ H Q := fun pins s us I r => h.run pins s σ H vs us Q I r q
/-- a target that is a name or a tuple of such -/
def plainTg : Expr → Bool
  | .Name _ _ => true
  | .Tuple es _ _ => !es.isEmpty
  | _ => false
theorem each_plain (env : Env) {t : Expr} {ts : List Expr} (h : plainTg t = true) : (assignEach (t :: ts) env) = (false, assign t env) :: assignEach ts env := by
  cases t <;> first | rfl | cases h
theorem TgsOk.run {X : Cx} (hX : CtxP C X) {W : Wd} : ∀ {tgs : List Expr} {ds : List D} {Γ Γ' : SCx} {vs : List Nat} {us : List V} {σ : L2.St} {Z H : Hp} {st : S} {Q : L2.St → Hp → Prop}, (tgs.all plainTg = true) → TgsOk C Γ tgs ds Γ' vs → SR X.K W Γ σ Z H st → RepL X.K W.β Z ds us →
    (∀ σ', SR X.K W Γ' σ' Z H st → (∀ ws : List Nat, (∀ i ∈ vs, i ∈ ws) → wipe σ' ws = wipe σ ws) → (∀ a, ownA Γ' σ' a → ownA Γ σ a) → Q σ' H) → tUGs X tgs us σ H Q
  | [], [], _, _, _, _, _, _, _, _, _, _, h, r, rl, q => by
    obtain ⟨rfl, rfl⟩ := h
    cases rl
    exact tUGs_of pgs_nil ⟨rfl, q _ r (fun _ _ => rfl) fun _ h => h⟩
  | t :: ts, d :: ds, _, _, _, _, σ, _, _, _, _, hp, h, r, rl, q => by
    obtain ⟨Γ1, v1, v2, h1, h2, rfl⟩ := h
    cases rl with
    | cons rd rs =>
      rw [List.all_cons, Bool.and_eq_true] at hp
      refine tUGs_of (pgs_cons pgU pgsU (by rw [each_plain _ hp.1]; rfl)) ⟨_, _, rfl, ?_⟩
      refine h1 X hX W σ _ _ _ _ _ r rd fun σ1 r1 w1 o1 => ?_
      refine TgsOk.run hX hp.2 h2 r1 rs fun σ2 r2 w2 o2 => ?_
      exact q σ2 r2 (fun ws hw => (w2 ws fun i hi => hw i (List.mem_append_right _ hi)).trans (w1 ws fun i hi => hw i (List.mem_append_left _ hi))) fun a h => o1 a (o2 a h)
  | [], _ :: _, _, _, _, _, _, _, _, _, _, _, h, _, _, _ => h.elim
  | _ :: _, [], _, _, _, _, _, _, _, _, _, _, h, _, _, _ => h.elim
theorem each_len (env : Env) : ∀ {ts : List Expr}, ts.all plainTg = true → (assignEach ts env).length = ts.length ∧ (assignEach ts env).findIdx? (·.1) = none
  | [], _ => ⟨rfl, rfl⟩
  | t :: ts, h => by
    rw [List.all_cons, Bool.and_eq_true] at h
    obtain ⟨h1, h2⟩ := each_len env h.2
    rw [each_plain _ h.1]
    refine ⟨by rw [List.length_cons, List.length_cons, h1], ?_⟩
    rw [List.findIdx?_cons, h2]
    rfl
theorem TgsOk.len : ∀ {tgs : List Expr} {ds : List D} {Γ Γ' : SCx} {vs : List Nat}, TgsOk C Γ tgs ds Γ' vs → tgs.length = ds.length
  | [], [], _, _, _, _ => rfl
  | t :: ts, d :: ds, _, _, _, ⟨_, _, _, _, h, _⟩ => by rw [List.length_cons, List.length_cons, TgsOk.len h]
  | [], _ :: _, _, _, _, h => h.elim
  | _ :: _, [], _, _, _, h => h.elim
theorem TgOk.tup {tgs : List Expr} {ds : List D} {vs : List Nat} {k : Nat} (h : TgsOk C Γ tgs ds Γ' vs) (hp : tgs.all plainTg = true) : TgOk C Γ (.Tuple tgs k pos) (.tup ds) Γ' vs := fun X hX S _ W σ Z H st v Q r rv q => by
  cases rv with
  | tup hq rl =>
    refine tUG_of (pg_tup (n := tgs.length) hX.calm pgsU (each_len _ hp).1 (each_len _ hp).2) ⟨_, _, rfl, r.sub.sqT hq, ?_, TgsOk.run hX hp h r rl q⟩
    rw [← rl.length, h.len]
/-- data bound to targets, then what K says of what is known and of the rest -/
def BindOk {α : Type} (C : Stat) (Γ : SCx) (tgs : List Expr) (ds : List D) (Wp : Nat → Prop) (K : SCx → M S α → Prop) (m : M S α) : Prop :=
  (∀ st, m st = none) ∨ ∃ Γ' vs, TgsOk C Γ tgs ds Γ' vs ∧ (∀ i ∈ vs, Wp i) ∧ K Γ' m
def pat2 {S α : Type} (f : D → D → M S α) : D → M S α
  | .tup [a, b] => f a b
  | _ => stuck
def pat3 {S α : Type} (f : D → D → D → M S α) : D → M S α
  | .tup [a, b, c] => f a b c
  | _ => stuck
def pat4 {S α : Type} (f : D → D → D → D → M S α) : D → M S α
  | .tup [a, b, c, d] => f a b c d
  | _ => stuck
section
variable {α : Type} {tgs : List Expr} {ds : List D} {Wp : Nat → Prop} {KK : SCx → M S α → Prop} {mm : M S α}
theorem BindOk.nil (h : KK Γ mm) : BindOk C Γ [] [] Wp KK mm := .inr ⟨Γ, [], ⟨rfl, rfl⟩, (fun _ h => nomatch h), h⟩
theorem BindOk.name {d : D} (hN : C.N[i]? = some x) (hx : Loc C.sc x) (hf : C.fn x = true ∨ C.sc.names.lookup x = some .local) (h : BindOk C (Γ.set i (some (.frz d))) tgs ds Wp KK mm) (hw : Wp i := by first | exact True.intro | decide) : BindOk C Γ (.Name x pos :: tgs) (d :: ds) Wp KK mm := by
  rcases h with h | ⟨Γ', vs, h1, h3, h2⟩
  · exact .inl h
  · exact .inr ⟨Γ', _, ⟨_, _, _, TgOk.name hN hx hf, h1, rfl⟩, (fun j hj => by
      rcases List.mem_append.mp hj with hj | hj
      · rw [List.mem_singleton.mp hj]; exact hw
      · exact h3 j hj), h2⟩
theorem BindOk.tupN {es : List Expr} {ts : List D} {k : Nat} (hp : es.all plainTg = true) (hl : es.length = ts.length) (h : BindOk C Γ (es ++ tgs) (ts ++ ds) Wp KK mm) : BindOk C Γ (.Tuple es k pos :: tgs) (.tup ts :: ds) Wp KK mm := by
  rcases h with h | ⟨Γ', vs, h1, h3, h2⟩
  · exact .inl h
  · have split : ∀ (es : List Expr) (ts : List D) (Γ : SCx) (vs : List Nat), es.length = ts.length → TgsOk C Γ (es ++ tgs) (ts ++ ds) Γ' vs → ∃ Γ1 v1 v2, TgsOk C Γ es ts Γ1 v1 ∧ TgsOk C Γ1 tgs ds Γ' v2 ∧ vs = v1 ++ v2 := by
      intro es
      induction es with
      | nil =>
        intro ts Γ vs hl h
        cases ts with
        | nil => exact ⟨Γ, [], vs, ⟨rfl, rfl⟩, h, rfl⟩
        | cons _ _ => cases hl
      | cons e es ih =>
        intro ts Γ vs hl h
        cases ts with
        | nil => cases hl
        | cons t ts =>
          obtain ⟨Γ1, v1, v2, g1, g2, rfl⟩ := h
          obtain ⟨Γ2, w1, w2, k1, k2, rfl⟩ := ih ts Γ1 v2 (by simpa using hl) g2
          exact ⟨Γ2, v1 ++ w1, w2, ⟨Γ1, v1, w1, g1, k1, rfl⟩, k2, by rw [List.append_assoc]⟩
    obtain ⟨Γ1, v1, v2, k1, k2, rfl⟩ := split es ts Γ vs hl h1
    exact .inr ⟨Γ', _, ⟨Γ1, v1, v2, TgOk.tup k1 hp, k2, rfl⟩, h3, h2⟩
theorem BindOk.tup2 {t1 t2 : Expr} {k : Nat} {d : D} {f : D → D → M S α} (hp : [t1, t2].all plainTg = true) (h : ∀ a b, BindOk C Γ (t1 :: t2 :: tgs) (a :: b :: ds) Wp KK (f a b)) : BindOk C Γ (.Tuple [t1, t2] k pos :: tgs) (d :: ds) Wp KK (pat2 f d) := by
  cases d with
  | tup xs =>
    match xs with
    | [a, b] => exact BindOk.tupN (ts := [a, b]) hp rfl (h a b)
    | [] => exact .inl fun _ => rfl
    | [_] => exact .inl fun _ => rfl
    | _ :: _ :: _ :: _ => exact .inl fun _ => rfl
  | _ => exact .inl fun _ => rfl
theorem BindOk.tup3 {t1 t2 t3 : Expr} {k : Nat} {d : D} {f : D → D → D → M S α} (hp : [t1, t2, t3].all plainTg = true) (h : ∀ a b c, BindOk C Γ (t1 :: t2 :: t3 :: tgs) (a :: b :: c :: ds) Wp KK (f a b c)) : BindOk C Γ (.Tuple [t1, t2, t3] k pos :: tgs) (d :: ds) Wp KK (pat3 f d) := by
  cases d with
  | tup xs =>
    match xs with
    | [a, b, c] => exact BindOk.tupN (ts := [a, b, c]) hp rfl (h a b c)
    | [] => exact .inl fun _ => rfl
    | [_] => exact .inl fun _ => rfl
    | [_, _] => exact .inl fun _ => rfl
    | _ :: _ :: _ :: _ :: _ => exact .inl fun _ => rfl
  | _ => exact .inl fun _ => rfl
theorem BindOk.tup4 {t1 t2 t3 t4 : Expr} {k : Nat} {d : D} {f : D → D → D → D → M S α} (hp : [t1, t2, t3, t4].all plainTg = true) (h : ∀ a b c e, BindOk C Γ (t1 :: t2 :: t3 :: t4 :: tgs) (a :: b :: c :: e :: ds) Wp KK (f a b c e)) : BindOk C Γ (.Tuple [t1, t2, t3, t4] k pos :: tgs) (d :: ds) Wp KK (pat4 f d) := by
  cases d with
  | tup xs =>
    match xs with
    | [a, b, c, e] => exact BindOk.tupN (ts := [a, b, c, e]) hp rfl (h a b c e)
    | [] => exact .inl fun _ => rfl
    | [_] => exact .inl fun _ => rfl
    | [_, _] => exact .inl fun _ => rfl
    | [_, _, _] => exact .inl fun _ => rfl
    | _ :: _ :: _ :: _ :: _ :: _ => exact .inl fun _ => rfl
  | _ => exact .inl fun _ => rfl
end
/-- a, b = e -/
theorem OkB.unpack {tg : Expr} {k : D → M S (Fl τ l)} (he : Ok .E C Γ e m) (hb : ∀ d, BindOk C Γ [tg] [d] (fun _ => True) (fun Γ' n => OkB C Γ' rest T n) (k d))
    (hs : ∀ env : Env, swapsWithSole [tg] e pos.line env = pure false := by intro _; rfl) (hw : ∀ env : Env, swappedStores [tg] e env = pure none := by intro _; rfl) (h1 : ∀ env : Env, (assignEach [tg] env).map (·.2) = [assign tg env] := by intro _; rfl) :
    OkB C Γ (.Assign [tg] e pos :: rest) T (bnd m k) := fun X hX W σ Z H st f st' D r hm q => by
  obtain ⟨d, st1, h2, hm1⟩ := bnd_some hm
  refine tUS_of (pss_cons (ps_asg peU pgU (hs _) (hw _) (h1 _)) pssU) ?_
  refine he X hX W σ Z H st d st1 _ r h2 fun v Z1 H1 s1 b1 r1 => ?_
  rcases hb d with hb | ⟨Γ', vs, ⟨Γ1, v1, v2, t1, ⟨e1, _⟩, _⟩, _, hb⟩
  · rw [hb st1] at hm1; cases hm1
  · subst e1
    refine t1 X hX W σ Z1 H1 st1 v _ (r.step s1 b1) r1 fun σ' r' w' o' => ?_
    exact hb X hX W σ' Z1 H1 st1 f st' D r' hm1 (q.after s1.bst fun a h => .inl (o' a h))
end

/-! ### what is walked -/
def Yld (K : PySem.W.Frag) (W : Wd) (J : It) (xs : List D) (A : Addr → Prop) (Z H : Hp) : Prop :=
  (∀ a, A a → (∃ o, H a = some o) ∧ ¬ W.bx a) ∧
  ∀ {S : Type} [BoxS S] (i : Nat) (Z2 H2 : Hp) (st : S), Sub Z Z2 → (∀ a o, Z2 a = some o → H2 a = some o ∧ ¬ W.bx a) → (∀ a o, A a → H a = some o → H2 a = some o) → Sz H2 → BoxS.R st W.β W.γ H2 →
    (xs.length ≤ i → J.stop i H2) ∧ ∀ d, xs[i]? = some d → J.go i H2 ∧ ∀ x H3, J.yld i H2 x H3 → ∃ Z3, Stp W Z2 H2 Z3 H3 ∧ BoxS.R st W.β W.γ H3 ∧ Rep K W.β Z3 d x
def OkI {S : Type} [BoxS S] (b : Bool) (C : Stat) (Γ : SCx) (tg iter : Expr) (m : M S (List D)) : Prop :=
  ∀ X, CtxP C X → ∀ (W : Wd) (σ : L2.St) (Z H : Hp) (st : S) (xs : List D) (st' : S) (R : It → Hp → Prop), SR X.K W Γ σ Z H st → m st = some (xs, st') →
    (∀ J A Z' H', Stp W Z H Z' H' → BoxS.R st' W.β W.γ H' → Yld X.K W J xs A Z' H' → (b = true → ∀ a, A a → ¬ ownA Γ σ a) → R J H') → tUI X tg iter σ H R
section
variable {S : Type} [BoxS S] {τ l : Type}
def forL {S : Type} {τ τ' l' : Type} (f : τ → D → M S (Fl τ τ)) (k : τ → M S (Fl τ' l')) : List D → τ → M S (Fl τ' l')
  | [], s => k s
  | x :: xs, s => bnd (f s x) fun fl => match fl with
    | .nx s' => forL f k xs s'
    | .ct s' => forL f k xs s'
    | .bk s' => k s'
    | .rt d => Sn.ret (.rt d)
variable {C : Stat} {Γ Γ' : SCx} {e a b c tg iter : Expr} {rest body : List Stmt} {pos : Pos} {T : Tg τ l}
theorem OkB.forR {τ' : Type} {Γl : τ' → SCx} {mi : M S (List D)} {f : τ' → D → M S (Fl τ' τ')} {k : τ' → M S (Fl τ l)} {s0 : τ'} (hi : OkI true C Γ tg iter mi) (h0 : Wk Γ (Γl s0))
    (hb : ∀ s d, BindOk C (Γl s) [tg] [d] (fun _ => True) (fun Γ' n => OkB C Γ' body ⟨Γl, Γl⟩ n) (f s d)) (hk : ∀ s, OkB C (Γl s) rest T (k s))
    (hs : ∀ (env : Env) x, foldedSetIterable iter env x = pure x := by intro _ _; rfl) : OkB C Γ (.For tg iter body [] pos :: rest) T (bnd mi fun xs => forL f k xs s0) := fun X hX W σ Z H st fl st' D r hm q => by
  obtain ⟨xs, st1, h1, hm1⟩ := bnd_some hm
  refine tUS_of (pss_cons (ps_for (by rw [hX.xe]; exact PassesOwn.never) hX.calm piU pgU pssU (hs _)) pssU) ?_
  refine hi X hX W σ Z H st xs st1 _ r h1 fun J A Z1 H1 s1 b1 y1 dj => ?_
  have r1 := (r.step s1 b1).wk h0
  refine ⟨fun i n σ' H' => ∃ s Z' st2, n = xs.length - i ∧ i ≤ xs.length ∧ SR X.K W (Γl s) σ' Z' H' st2 ∧ BSt W Γ σ Z H Z' H' ∧ OwLe Γ σ H (Γl s) σ' ∧ Sub Z1 Z' ∧ (∀ a o, A a → H1 a = some o → H' a = some o) ∧ (∀ a, ownA (Γl s) σ' a → ¬ A a) ∧ forL f k (xs.drop i) s st2 = some (fl, st'),
    ⟨xs.length, s0, Z1, st1, by omega, Nat.zero_le _, r1, s1.bst, fun a h => .inl (own_wk h0 h), Sub.refl _, fun _ _ _ h => h, fun a h ha => dj rfl a ha (own_wk h0 h), hm1⟩, ?_⟩
  rintro i n σ2 H2 ⟨s, Z2, st2, rfl, hi, r2, bs2, ow2, sz2, ka2, na2, run2⟩
  have yy := y1.2 i Z2 H2 st2 sz2 r2.zh ka2 r2.sz r2.box
  by_cases hlt : i < xs.length
  · have hd : xs[i]? = some xs[i] := List.getElem?_eq_getElem hlt
    rw [List.drop_eq_getElem_cons hlt] at run2
    obtain ⟨g, st3, h3, run3⟩ := bnd_some (show bnd (f s xs[i]) _ st2 = some (fl, st') from run2)
    obtain ⟨go, yl⟩ := yy.2 _ hd
    refine .inr ⟨go, fun σ' H' => ∃ s Z' st3, SR X.K W (Γl s) σ' Z' H' st3 ∧ BSt W Γ σ Z H Z' H' ∧ OwLe Γ σ H (Γl s) σ' ∧ Sub Z1 Z' ∧ (∀ a o, A a → H1 a = some o → H' a = some o) ∧ (∀ a, ownA (Γl s) σ' a → ¬ A a) ∧ forL f k (xs.drop (i + 1)) s st3 = some (fl, st'), fun σ' H' hN => ?_, fun x H3 hy => ?_⟩
    · obtain ⟨s', Z', st3, q1, q2, q3, q4, q5, q6, q7⟩ := hN
      exact ⟨xs.length - (i + 1), by omega, s', Z', st3, rfl, hlt, q1, q2, q3, q4, q5, q6, q7⟩
    · obtain ⟨Z3, s3, b3, rx⟩ := yl x H3 hy
      have r3 := r2.step s3 b3
      have bs3 : BSt W Γ σ Z H Z3 H3 := bs2.trans (fun a o h => (s3.zh a o h).2) ow2 (Γ1 := Γl s) (σ1 := σ2) s3.bst
      have ka3 : ∀ a o, A a → H1 a = some o → H3 a = some o := fun a o ha h => s3.hh a o (ka2 a o ha h) (y1.1 a ha).2
      rcases hb s xs[i] with hb | ⟨Γ', vs, ⟨Γ1, v1, v2, t1, ⟨e1, _⟩, _⟩, _, hb⟩
      · rw [hb st2] at h3; cases h3
      · subst e1
        refine t1 X hX W σ2 Z3 H3 st2 x _ r3 rx fun σ3 r4 w4 o4 => ?_
        -- the body
        have fin : ∀ {s' : τ'} {σ' : L2.St} {Z' H' : Hp}, SR X.K W (Γl s') σ' Z' H' st3 → BSt W Γ' σ3 Z3 H3 Z' H' → OwLe Γ' σ3 H3 (Γl s') σ' →
            BSt W Γ σ Z H Z' H' ∧ OwLe Γ σ H (Γl s') σ' ∧ Sub Z1 Z' ∧ (∀ a o, A a → H1 a = some o → H' a = some o) ∧ (∀ a, ownA (Γl s') σ' a → ¬ A a) := by
          intro s' σ' Z' H' r' bs' ow'
          have ow3 : OwLe Γ σ H Γ' σ3 := fun a h => ow2 a (o4 a h)
          refine ⟨bs3.trans (fun a o h => (r'.zh a o h).2) ow3 bs', ow3.trans bs3 ow' fun a => r'.ownNb, (sz2.trans s3.zz).trans bs'.zz, fun a o ha h => ?_, fun a h ha => ?_⟩
          · exact bs'.hh a o (ka3 a o ha h) (y1.1 a ha).2 fun z => na2 a (o4 a z) ha
          · rcases ow' a h with z | z
            · exact na2 a (o4 a z) ha
            · obtain ⟨⟨o, ho⟩, _⟩ := y1.1 a ha
              rw [ka3 a o ha ho] at z; cases z
        refine hb X hX W σ3 Z3 H3 st2 g st3 _ r4 h3 ?_
        cases g with
        | nx s' =>
          intro σ' Z' H' r' bs' ow'
          obtain ⟨f1, f2, f3, f4, f5⟩ := fin r' bs' ow'
          exact ⟨s', Z', st3, r', f1, f2, f3, f4, f5, run3⟩
        | ct s' =>
          intro σ' Z' H' r' bs' ow'
          obtain ⟨f1, f2, f3, f4, f5⟩ := fin r' bs' ow'
          exact ⟨s', Z', st3, r', f1, f2, f3, f4, f5, run3⟩
        | bk s' =>
          intro σ' Z' H' r' bs' ow'
          obtain ⟨f1, f2, f3, f4, f5⟩ := fin r' bs' ow'
          exact hk s' X hX W σ' Z' H' st3 fl st' D r' run3 (q.after f1 f2)
        | rt d =>
          intro v Z' H' zh' b' bs' rv
          obtain ⟨rfl, rfl⟩ := ret_some run3
          have ow3 : OwLe Γ σ H Γ' σ3 := fun a h => ow2 a (o4 a h)
          exact q v Z' H' zh' b' (bs3.trans (fun a o h => (zh' a o h).2) ow3 bs') rv
  · have e : i = xs.length := by omega
    subst e
    rw [List.drop_length] at run2
    exact .inl ⟨yy.1 (Nat.le_refl _), hk s X hX W σ2 Z2 H2 st2 fl st' D r2 run2 (q.after bs2 ow2)⟩
/-! ### while -/
def whileL {S : Type} {τ τ' l' : Type} (c : τ → M S Bool) (f : τ → M S (Fl τ τ)) (k : τ → M S (Fl τ' l')) : Nat → τ → M S (Fl τ' l')
  | 0, _ => stuck
  | n + 1, s => bnd (c s) fun t => if t = true then bnd (f s) fun fl => match fl with
      | .nx s' => whileL c f k n s'
      | .ct s' => whileL c f k n s'
      | .bk s' => k s'
      | .rt d => Sn.ret (.rt d)
    else k s
theorem OkB.whileR {τ' : Type} {Γl : τ' → SCx} {mc : τ' → M S Bool} {f : τ' → M S (Fl τ' τ')} {k : τ' → M S (Fl τ l)} {s0 : τ'} {n0 : Nat} (h0 : Wk Γ (Γl s0)) (hc : ∀ s, OkT C (Γl s) c (mc s))
    (hb : ∀ s, OkB C (Γl s) body ⟨Γl, Γl⟩ (f s)) (hk : ∀ s, OkB C (Γl s) rest T (k s)) : OkB C Γ (.While c body [] pos :: rest) T (whileL mc f k n0 s0) := fun X hX W σ Z H st fl st' D r hm q => by
  refine tUS_of (pss_cons (ps_while (by rw [hX.xe]; exact PassesOwn.never) ptU pssU) pssU) ?_
  refine ⟨fun n σ' H' => ∃ s Z' st2, SR X.K W (Γl s) σ' Z' H' st2 ∧ BSt W Γ σ Z H Z' H' ∧ OwLe Γ σ H (Γl s) σ' ∧ whileL mc f k n s st2 = some (fl, st'), ⟨n0, s0, Z, st, r.wk h0, BSt.refl, fun a h => .inl (own_wk h0 h), hm⟩, ?_⟩
  rintro n σ2 H2 ⟨s, Z2, st2, r2, bs2, ow2, run2⟩
  cases n with
  | zero => exact (stuck_some run2).elim
  | succ n =>
    obtain ⟨t, st3, h3, run3⟩ := bnd_some (show bnd (mc s) _ st2 = some (fl, st') from run2)
    refine hc s X hX W σ2 Z2 H2 st2 t st3 _ r2 h3 fun Z3 H3 s3 b3 => ?_
    have r3 := r2.step s3 b3
    have bs3 : BSt W Γ σ Z H Z3 H3 := bs2.trans (fun a o h => (s3.zh a o h).2) ow2 (Γ1 := Γl s) (σ1 := σ2) s3.bst
    cases t with
    | true =>
      rw [if_pos rfl] at run3 ⊢
      obtain ⟨g, st4, h4, run4⟩ := bnd_some run3
      refine ⟨fun σ' H' => ∃ s Z' st4, SR X.K W (Γl s) σ' Z' H' st4 ∧ BSt W Γ σ Z H Z' H' ∧ OwLe Γ σ H (Γl s) σ' ∧ whileL mc f k n s st4 = some (fl, st'), fun σ' H' hN => ⟨n, Nat.lt_succ_self n, hN⟩, ?_⟩
      refine hb s X hX W σ2 Z3 H3 st3 g st4 _ r3 h4 ?_
      have fin : ∀ {s' : τ'} {σ' : L2.St} {Z' H' : Hp}, SR X.K W (Γl s') σ' Z' H' st4 → BSt W (Γl s) σ2 Z3 H3 Z' H' → OwLe (Γl s) σ2 H3 (Γl s') σ' → BSt W Γ σ Z H Z' H' ∧ OwLe Γ σ H (Γl s') σ' := by
        intro s' σ' Z' H' r' bs' ow'
        exact ⟨bs3.trans (fun a o h => (r'.zh a o h).2) ow2 bs', ow2.trans bs3 ow' fun a => r'.ownNb⟩
      cases g with
      | nx s' => intro σ' Z' H' r' bs' ow'; obtain ⟨f1, f2⟩ := fin r' bs' ow'; exact ⟨s', Z', st4, r', f1, f2, run4⟩
      | ct s' => intro σ' Z' H' r' bs' ow'; obtain ⟨f1, f2⟩ := fin r' bs' ow'; exact ⟨s', Z', st4, r', f1, f2, run4⟩
      | bk s' => intro σ' Z' H' r' bs' ow'; obtain ⟨f1, f2⟩ := fin r' bs' ow'; exact hk s' X hX W σ' Z' H' st4 fl st' D r' run4 (q.after f1 f2)
      | rt d =>
        intro v Z' H' zh' b' bs' rv
        obtain ⟨rfl, rfl⟩ := ret_some run4
        exact q v Z' H' zh' b' (bs3.trans (fun a o h => (zh' a o h).2) ow2 bs') rv
    | false =>
      rw [if_neg Bool.false_ne_true] at run3 ⊢
      exact hk s X hX W σ2 Z3 H3 st3 fl st' D r3 run3 (q.after bs3 ow2)
end
end Sn

namespace Sn
open PySem PySem.Spec PyProof.Rows L2

/-! ### defs -/
def spF (K : PySem.W.Frag) {S : Type} [BoxS S] (n : Nat) (m : List D → M S D) : Sp := fun vs H Q _ => vs.length = n ∧ ∃ (W : Wd) (Z : Hp) (ds : List D) (st : S) (d : D) (st' : S),
  (∀ a o, Z a = some o → H a = some o ∧ ¬ W.bx a) ∧ Sz H ∧ BoxS.R st W.β W.γ H ∧ RepL K W.β Z ds vs ∧ m ds st = some (d, st') ∧
  ∀ v Z' H', Stp W Z H Z' H' → BoxS.R st' W.β W.γ H' → Rep K W.β Z' d v → Q v H'
structure HasF {S : Type} [BoxS S] (G : Glob) (k : Nat) (x : Str) (n : Nat) (m : List D → M S D) : Prop where
  ex : ∃ (f : Addr) (fd : FuncData) (ps : List Str), G.mg x = some (.ref f) ∧ PySem.W.keepIn G.K (.ref f) = true ∧ Binds G.K fd ps [] ∧ FnOk G.P G.w G.K G.mg G.base CX0 k f fd ps (spF G.K n m)
section
variable {S : Type} [BoxS S] {C : Stat} {Γ Γ' : SCx} {e a b c : Expr} {es : List Expr} {rest body : List Stmt} {m : M S D} {pos p : Pos} {τ l : Type} {T : Tg τ l} {i : Nat} {x : Str}
theorem ResL.E_len {K : PySem.W.Frag} {W : Wd} {H Z' H' : Hp} : ∀ {ds : List D} {vs : List V} {mds : List Md}, ResL K W mds H Z' H' ds vs → vs.length = mds.length
  | [], [], [], _ => rfl
  | _ :: _, _ :: _, _ :: _, ⟨_, r⟩ => by rw [List.length_cons, List.length_cons, ResL.E_len r]
  | [], [], _ :: _, h => h.elim
  | [], _ :: _, [], h => h.elim
  | [], _ :: _, _ :: _, h => h.elim
  | _ :: _, [], [], h => h.elim
  | _ :: _, [], _ :: _, h => h.elim
  | _ :: _, _ :: _, [], h => h.elim
theorem Ok.call {n : Nat} {mf : List D → M S D} {mds : List Md} {ma : M S (List D)} {j : Nat} (h : HasF C.G j x n mf) (hj : j ≤ C.k) (hg : C.sc.names.lookup x = some .globalImplicit) (ha : OkA mds C Γ (e :: es) ma) (hE : ∀ md ∈ mds, md = Md.E := by decide) (hn : mds.length = n := by rfl)
    (hp : plainArg e = true := by rfl) (hd : (x == ("__debug__" : Str)) = false := by decide) (hes : ∀ env : Env, (backTo pos (starEach es env)).any (·.1) = false := by intro _; rfl) :
    Ok .E C Γ (.Call (.Name x p) (e :: es) [] pos) (bnd ma mf) := fun X hX W σ Z H st d st' Q r hm q => by
  obtain ⟨ds, st1, h1, hm1⟩ := bnd_some hm
  obtain ⟨f, fd, ps, g1, g2, g3, g4⟩ := h.ex
  have F : FnOk X.prog X.w X.K X.mg X.base CX0 j f fd ps (spF X.K n mf) := by rw [hX.prog, hX.w, hX.K, hX.mg, hX.base]; exact g4
  refine tU_of (pe_call (E := E0) (dvs := []) (ds := []) F (hX.room.mono hj) (hX.glob hg) (by rw [hX.mg]; exact g1) (by rw [hX.K]; exact g2) (by rw [hX.K]; exact g3) .nil pass0 paU hd (starEach_plain _ hp) (hes _)) ?_
  refine ha X hX W σ Z H st ds st1 _ r h1 fun vs Z1 H1 s1 b1 r1 => ?_
  rw [List.append_nil]
  refine ⟨by rw [r1.E_len, hn], W, Z1, ds, st1, d, st', s1.zh, s1.sz r.sz, b1, ResL.E_repL hE r1, hm1, fun v Z2 H2 s2 b2 r2 => ?_⟩
  exact q v Z2 H2 (s1.trans s2) b2 r2
/-- f() -/
theorem Ok.call0 {mf : List D → M S D} {j : Nat} (h : HasF C.G j x 0 mf) (hj : j ≤ C.k) (hg : C.sc.names.lookup x = some .globalImplicit) (hd : (x == ("__debug__" : Str)) = false := by decide) : Ok .E C Γ (.Call (.Name x p) [] [] pos) (mf []) := fun X hX W σ Z H st d st' Q r hm q => by
  obtain ⟨f, fd, ps, g1, g2, g3, g4⟩ := h.ex
  have F : FnOk X.prog X.w X.K X.mg X.base CX0 j f fd ps (spF X.K 0 mf) := by rw [hX.prog, hX.w, hX.K, hX.mg, hX.base]; exact g4
  refine tU_of (pe_call0 (E := E0) (dvs := []) (ds := []) F (hX.room.mono hj) (hX.glob hg) (by rw [hX.mg]; exact g1) (by rw [hX.K]; exact g2) (by rw [hX.K]; exact g3) .nil pass0 hd) ?_
  exact ⟨rfl, W, Z, [], st, d, st', r.zh, r.sz, r.box, .nil, hm, fun v Z2 H2 s2 b2 r2 => q v Z2 H2 s2 b2 r2⟩
def endF {S : Type} {l : Type} : Fl Unit l → M S D
  | .nx _ => ret .non
  | .rt d => ret d
  | _ => stuck
theorem RepL.start {K : PySem.W.Frag} {β : Addr} {Z : Hp} {N : List Str} : ∀ {ds : List D} {vs : List V}, RepL K β Z ds vs → ∀ (i : Nat) (d : D), (ds.map fun d => some (En.frz d))[i]? = some (some (En.frz d)) → ∃ v, (vs.map some)[i]? = some (some v) ∧ Rep K β Z d v
  | ds, vs, r, i, d, h => by
    rw [List.getElem?_map] at h
    cases e : ds[i]? with
    | none => rw [e] at h; cases h
    | some d' =>
      rw [e] at h
      simp only [Option.map_some, Option.some.injEq, En.frz.injEq] at h
      subst h
      obtain ⟨v, h1, h2⟩ := r.get e
      exact ⟨v, by rw [List.getElem?_map, h1]; rfl, h2⟩
def startΓ (N : List Str) (ds : List D) : SCx := (ds.map fun d => some (En.frz d)) ++ List.replicate (N.length - ds.length) none
/-- a def of the text keeps the promise that its body's mirror makes -/
theorem hasF_mk {G : Glob} {st : Stmt} {f : Addr} {fd : FuncData} {N ps : List Str} {k n : Nat} {mb : List D → M S (Fl Unit Unit)} {qual : Str} (hm : G.mg x = some (.ref f)) (F : Fun G.K x qual st f fd) (Sc : FnScope N ps (defScope st)) (hB : Binds G.K fd ps []) (hn : ps.length = n)
    (hbody : ∀ ds : List D, ds.length = n → OkB ⟨G, N, defScope st, k, fun _ => true⟩ (startΓ N ds) (defBody st) ⟨fun _ : Unit => List.replicate N.length none, fun _ : Unit => List.replicate N.length none⟩ (mb ds)) : HasF G (k + 1) x n fun ds => bnd (mb ds) endF := by
  refine ⟨f, fd, ps, hm, F.kp, hB, F.ok Sc (fun vs H Q E h => by rw [hn]; exact h.1) fun cdv A outer s H vs Q E hr h => ?_⟩
  obtain ⟨hl, W, Z, ds, st0, d, st', zh, sz, bx, rl, hm1, q⟩ := h
  obtain ⟨fl, st1, h1, h2⟩ := bnd_some hm1
  refine ⟨_, pssU, ?_⟩
  have hpl : ps.length ≤ N.length := by have := congrArg List.length Sc.pre; rw [List.length_take] at this; omega
  have dl : ds.length = vs.length := rl.length
  refine hbody ds (by rw [dl, hl]) _ ⟨rfl, rfl, rfl, rfl, rfl, rfl, rfl, Sc.nd, rfl, hr, rfl, fun _ _ => rfl⟩ W (start N vs) Z H st0 fl st1 _ ?_ h1 ?_
  · refine ⟨?_, sz, bx, zh, fun i d' h => ?_, fun i d' h => ?_, fun i j d' e' a h => ?_⟩
    · unfold startΓ L2.start
      simp only [List.length_append, List.length_map, List.length_replicate, dl]
    · unfold startΓ at h
      unfold L2.start
      by_cases hi : i < ds.length
      · rw [List.getElem?_append_left (by simpa using hi)] at h
        rw [List.getElem?_append_left (by simpa [← dl] using hi)]
        exact RepL.start (N := N) rl i d' h
      · rw [List.getElem?_append_right (by simp; omega)] at h
        rw [List.getElem?_replicate] at h
        split at h <;> simp at h
    · unfold startΓ at h
      by_cases hi : i < ds.length
      · rw [List.getElem?_append_left (by simpa using hi), List.getElem?_map] at h
        cases e : ds[i]? with
        | none => rw [e] at h; cases h
        | some d2 => rw [e] at h; simp at h
      · rw [List.getElem?_append_right (by simp; omega), List.getElem?_replicate] at h
        split at h <;> simp at h
    · unfold startΓ at h
      by_cases hi : i < ds.length
      · rw [List.getElem?_append_left (by simpa using hi), List.getElem?_map] at h
        cases e : ds[i]? with
        | none => rw [e] at h; cases h
        | some d2 => rw [e] at h; simp at h
      · rw [List.getElem?_append_right (by simp; omega), List.getElem?_replicate] at h
        split at h <;> simp at h
  · have noOwn : ∀ a, ¬ ownA (startΓ N ds) (start N vs) a := fun a ⟨i, d', h, _⟩ => by
      unfold startΓ at h
      by_cases hi : i < ds.length
      · rw [List.getElem?_append_left (by simpa using hi), List.getElem?_map] at h
        cases e : ds[i]? with
        | none => rw [e] at h; cases h
        | some d2 => rw [e] at h; simp at h
      · rw [List.getElem?_append_right (by simp; omega), List.getElem?_replicate] at h
        split at h <;> simp at h
    have st_of : ∀ {Z' H' : Hp}, (∀ a o, Z' a = some o → H' a = some o ∧ ¬ W.bx a) → BSt W (startΓ N ds) (start N vs) Z H Z' H' → Stp W Z H Z' H' := fun zh' bs =>
      ⟨bs.zz, zh', fun a o h nb => bs.hh a o h nb (noOwn a), fun a o h => (bs.nw a o h).elim .inl fun w => w.elim .inr fun z => (noOwn a z).elim, bs.sz⟩
    cases fl with
    | nx s =>
      intro σ' Z' H' r' bs' _
      obtain ⟨rfl, rfl⟩ := ret_some h2
      exact q _ Z' H' (st_of r'.zh bs') r'.box .non
    | rt d' =>
      intro v Z' H' zh' b' bs' rv
      obtain ⟨rfl, rfl⟩ := ret_some h2
      exact q v Z' H' (st_of zh' bs') b' rv
    | bk s => exact (stuck_some (S := S) (α := D) (s := st1) h2).elim
    | ct s => exact (stuck_some (S := S) (α := D) (s := st1) h2).elim
end

/-! ### comprehensions -/
def Stat.blk (C : Stat) (scope : Scope) : Stat := ⟨C.G, C.N, relS scope C.sc, C.k, fun x => scope.names.lookup x == some .cell⟩
theorem CtxP.blk {C : Stat} {X : Cx} (h : CtxP C X) (scope : Scope) (s : Shared) (H : Hp) (C' : Addr) (cl : List (Str × Addr)) (fp : List Addr) : CtxP (C.blk scope) (X.blk s H scope (compEnvC scope cl C' X.env) fp) :=
  ⟨h.prog, h.w, h.K, h.mg, h.base, h.N, by show relS scope X.env.scope = relS scope C.sc; rw [h.sc], h.nd, h.calm, h.room, rfl, fun _ q => q⟩
def wipeΓ (Γ : SCx) : List Nat → SCx
  | [] => Γ
  | v :: vs => (wipeΓ Γ vs).set v none
section
variable {S : Type} [BoxS S] {K : PySem.W.Frag} {W : Wd} {Γ : SCx} {σ : L2.St} {Z H : Hp} {st : S}
theorem wipeΓ_some {i : Nat} {e : En} : ∀ {vs : List Nat}, (wipeΓ Γ vs)[i]? = some (some e) → Γ[i]? = some (some e) ∧ i ∉ vs
  | [], h => ⟨h, by simp⟩
  | v :: vs, h => by
    unfold wipeΓ at h
    rcases set_cases h with ⟨rfl, he, hl⟩ | ⟨hn, h⟩
    · cases he
    · obtain ⟨h1, h2⟩ := wipeΓ_some h
      exact ⟨h1, by simp only [List.mem_cons, not_or]; exact ⟨hn, h2⟩⟩
theorem wipeΓ_len : ∀ {vs : List Nat}, (wipeΓ Γ vs).length = Γ.length
  | [] => rfl
  | v :: vs => by unfold wipeΓ; rw [List.length_set, wipeΓ_len]
theorem wipe_get {i : Nat} : ∀ {vs : List Nat}, i ∉ vs → (wipe σ vs)[i]? = σ[i]?
  | [], _ => rfl
  | v :: vs, h => by
    simp only [List.mem_cons, not_or] at h
    unfold wipe
    rw [List.getElem?_set_ne (Ne.symm h.1), wipe_get h.2]
theorem SR.wipe {vs : List Nat} (r : SR K W Γ σ Z H st) : SR K W (wipeΓ Γ vs) (L2.wipe σ vs) Z H st where
  ln := by rw [wipeΓ_len, wipe_length]; exact r.ln
  sz := r.sz
  box := r.box
  zh := r.zh
  frz := fun i d h => by
    obtain ⟨h1, h2⟩ := wipeΓ_some h
    rw [wipe_get h2]; exact r.frz i d h1
  own := fun i d h => by
    obtain ⟨h1, h2⟩ := wipeΓ_some h
    rw [wipe_get h2]; exact r.own i d h1
  dis := fun i j d e a h1 h2 h3 h4 => by
    obtain ⟨g1, n1⟩ := wipeΓ_some h1
    obtain ⟨g2, n2⟩ := wipeΓ_some h2
    rw [wipe_get n1] at h3
    rw [wipe_get n2] at h4
    exact r.dis i j d e a g1 g2 h3 h4
end
def tUTs (X : Cx) (ifs : List Expr) : TT := fun σ H Q => ∀ (pins : List (Addr × Obj)) (s : Shared), Inv X pins σ H s →
    wpAny (model X.prog X.w) X.A (forIn ifs true fun c r => if r = true then do let ok ← isTrue c X.env (eval c X.env); pure (ForInStep.yield ok) else pure (ForInStep.yield r)) (TP X pins σ Q) X.xe s
theorem ptsU {X : Cx} {ifs : List Expr} : PTs X ifs (tUTs X ifs) := ⟨fun pins s _ _ _ I h => h pins s I⟩
theorem tUTs_of {X : Cx} {ifs : List Expr} {t : TT} {σ : L2.St} {H : Hp} {Q : Bool → Hp → Prop} (h : PTs X ifs t) (q : t σ H Q) : tUTs X ifs σ H Q := fun pins s I => h.run pins s σ H Q I q
def OkTs {S : Type} [BoxS S] (C : Stat) (Γ : SCx) (ifs : List Expr) (m : M S Bool) : Prop :=
  ∀ X, CtxP C X → ∀ (W : Wd) (σ : L2.St) (Z H : Hp) (st : S) (d : Bool) (st' : S) (Q : Bool → Hp → Prop), SR X.K W Γ σ Z H st → m st = some (d, st') →
    (∀ Z' H', Stp W Z H Z' H' → BoxS.R st' W.β W.γ H' → Q d H') → tUTs X ifs σ H Q
section
variable {S : Type} [BoxS S] {C : Stat} {Γ Γ' : SCx} {c elt tg iter tg1 iter1 : Expr} {ifs ifs1 : List Expr} {pos : Pos}
theorem OkTs.nil : OkTs (S := S) C Γ [] (ret true) := fun X hX W σ Z H st d st' Q r hm q => by
  obtain ⟨rfl, rfl⟩ := ret_some hm
  exact tUTs_of pts_nil (q Z H r.refl r.box)
theorem OkTs.one {n : M S Bool} (h : OkT C Γ c n) : OkTs C Γ [c] n := fun X hX W σ Z H st d st' Q r hm q => tUTs_of (pts_one ptU) (h X hX W σ Z H st d st' Q r hm q)
def compL {S α β : Type} (f : α → M S (Option β)) : List α → M S (List β)
  | [] => ret []
  | x :: xs => bnd (f x) fun o => bnd (compL f xs) fun ys => ret (match o with | some y => y :: ys | none => ys)
/-- a clause's tests, then the element -/
def eltM {S : Type} (mt : M S Bool) (me : M S D) : M S (Option D) := bnd mt fun t => if t = true then bnd me fun y => ret (some y) else ret none
theorem compL_len {S α β : Type} {f : α → M S (Option β)} : ∀ {xs : List α} {st st' : S} {ys : List β}, compL f xs st = some (ys, st') → ys.length ≤ xs.length
  | [], st, st', ys, h => by obtain ⟨rfl, rfl⟩ := ret_some h; exact Nat.le_refl _
  | x :: xs, st, st', ys, h => by
    obtain ⟨o, st1, h1, h2⟩ := bnd_some (show bnd (f x) _ st = some (ys, st') from h)
    obtain ⟨zs, st2, h3, h4⟩ := bnd_some h2
    obtain ⟨rfl, rfl⟩ := ret_some h4
    have := compL_len h3
    cases o with
    | none => exact Nat.le_succ_of_le this
    | some y => exact Nat.succ_le_succ this
/-- the readings that any parts of a comprehension's block have -/
def bG (X : Cx) (scope : Scope) (tg : Expr) : TG := fun v σ H Q => ∀ (s : Shared) (H0 : Hp) (C' : Addr) (cl : List (Str × Addr)) (fp : List Addr), tUG (X.blk s H0 scope (compEnvC scope cl C' X.env) fp) tg v σ H Q
def bT (X : Cx) (scope : Scope) (ifs : List Expr) : TT := fun σ H Q => ∀ (s : Shared) (H0 : Hp) (C' : Addr) (cl : List (Str × Addr)) (fp : List Addr), tUTs (X.blk s H0 scope (compEnvC scope cl C' X.env) fp) ifs σ H Q
def bE (X : Cx) (scope : Scope) (e : Expr) : TE := fun σ H Q => ∀ (s : Shared) (H0 : Hp) (C' : Addr) (cl : List (Str × Addr)) (fp : List Addr), tU (X.blk s H0 scope (compEnvC scope cl C' X.env) fp) e σ H Q
def bI (X : Cx) (scope : Scope) (tg e : Expr) : TI := fun σ H Q => ∀ (s : Shared) (H0 : Hp) (C' : Addr) (cl : List (Str × Addr)) (fp : List Addr), tUI (X.blk s H0 scope (compEnvC scope cl C' X.env) fp) tg e σ H Q
theorem bG_ok {X : Cx} {scope : Scope} (s : Shared) (H0 : Hp) (C' : Addr) (cl : List (Str × Addr)) (fp : List Addr) : PG (X.blk s H0 scope (compEnvC scope cl C' X.env) fp) tg (bG X scope tg) := ⟨fun pins s' σ' H' v u Q' I rv h => h s H0 C' cl fp pins s' u I rv⟩
theorem bT_ok {X : Cx} {scope : Scope} (s : Shared) (H0 : Hp) (C' : Addr) (cl : List (Str × Addr)) (fp : List Addr) : PTs (X.blk s H0 scope (compEnvC scope cl C' X.env) fp) ifs (bT X scope ifs) := ⟨fun pins s' σ' H' Q' I h => h s H0 C' cl fp pins s' I⟩
theorem bE_ok {X : Cx} {scope : Scope} (s : Shared) (H0 : Hp) (C' : Addr) (cl : List (Str × Addr)) (fp : List Addr) : PE (X.blk s H0 scope (compEnvC scope cl C' X.env) fp) elt (bE X scope elt) := ⟨fun pins s' σ' H' Q' I h => h s H0 C' cl fp pins s' I⟩
theorem bI_ok {X : Cx} {scope : Scope} (s : Shared) (H0 : Hp) (C' : Addr) (cl : List (Str × Addr)) (fp : List Addr) : PI (X.blk s H0 scope (compEnvC scope cl C' X.env) fp) tg iter (bI X scope tg iter) := ⟨fun pins s' σ' H' Q' I h => h s H0 C' cl fp pins s' I⟩
/-- the run from the i-th item on, the list so far -/
theorem lc_rd {scope : Scope} (own : List (Str × Nat)) {mi : M S (List D)} {f : D → M S (Option D)} (hi : OkI false C Γ tg iter mi)
    (hb : ∀ d, BindOk (C.blk scope) (wipeΓ Γ (own.map (·.2))) [tg] [d] (fun i => i ∈ own.map (·.2)) (fun Γ' n => ∃ mt me, OkTs (C.blk scope) Γ' ifs mt ∧ Ok .E (C.blk scope) Γ' elt me ∧ n = eltM mt me) (f d))
    (X : Cx) (hX : CtxP C X) (W : Wd) (σ : L2.St) (Z H : Hp) (st : S) (d : D) (st' : S) (Q : VK) (r : SR X.K W Γ σ Z H st) (hm : (bnd mi fun xs => if xs.length ≤ sizeLine then bnd (compL f xs) fun ys => ret (.lst ys) else stuck) st = some (d, st'))
    (q : ∀ v Z' H', Stp W Z H Z' H' → BoxS.R st' W.β W.γ H' → Res X.K W .N H Z' H' d v → Q v H') : tLc (tUI X tg iter) (bG X scope tg) (bT X scope ifs) (bE X scope elt) (own.map (·.2)) σ H Q := by
  obtain ⟨xs, st1, h1, hm1⟩ := bnd_some hm
  by_cases hxs : xs.length ≤ sizeLine
  · rw [if_pos hxs] at hm1
    obtain ⟨ys, st2, h2, hm2⟩ := bnd_some hm1
    obtain ⟨rfl, rfl⟩ := ret_some hm2
    refine hi X hX W σ Z H st xs st1 _ r h1 fun J A Z1 H1 s1 b1 y1 _ => fun D hD => ?_
    have r1 := r.step s1 b1
    have nbD : ¬ W.bx D := BoxS.bxThere b1 hD
    have zD : Z1 D = none := z_none s1.zh hD
    refine ⟨fun i n H' => ∃ Z' acc dacc st3 rst, n = xs.length - i ∧ i ≤ xs.length ∧ Stp W Z1 (upd H1 D (.lst [])) Z' (upd H' D (.lst [])) ∧ H' D = some (.lst acc) ∧ Z' D = none ∧ (∀ a o, Z' a = some o → H' a = some o ∧ ¬ W.bx a) ∧ Sz H' ∧ acc.length ≤ i ∧ BoxS.R st3 W.β W.γ H' ∧ RepL X.K W.β Z' dacc acc ∧ compL f (xs.drop i) st3 = some (rst, st') ∧ ys = dacc ++ rst,
      ⟨xs.length, Z1, [], [], st1, ys, by omega, Nat.zero_le _, ?_, upd_same, zD, fun a o h => ⟨by rw [upd_ne (ne_of_none (s1.zh a o h).1 hD)]; exact (s1.zh a o h).1, (s1.zh a o h).2⟩, (s1.sz r.sz).upd (Nat.zero_le _), Nat.le_refl _, box_lay b1 hD, .nil, h2, rfl⟩, ?_⟩
    · rw [upd_upd]
      exact Stp.refl fun a o h => ⟨by rw [upd_ne (ne_of_none (s1.zh a o h).1 hD)]; exact (s1.zh a o h).1, (s1.zh a o h).2⟩
    rintro i n H2 ⟨Z2, acc, dacc, st3, rst, rfl, hi2, s2, hD2, zD2, zh2, sz2, hac, b2, rl2, run2, ey⟩
    have ka : ∀ a o, A a → H1 a = some o → H2 a = some o := fun a o ha h => by
      have hne : a ≠ D := ne_of_none h hD
      have := s2.hh a o (by rw [upd_ne hne]; exact h) (y1.1 a ha).2
      rwa [upd_ne hne] at this
    have yy := y1.2 i Z2 H2 st3 s2.zz zh2 ka sz2 b2
    -- the slots behind
    have rr : SR X.K W Γ σ Z2 H2 st3 := by
      have q1 : Stp W Z1 H1 Z2 H2 := ⟨s2.zz, zh2, fun a o h nb => by
          have hne : a ≠ D := ne_of_none h hD
          have := s2.hh a o (by rw [upd_ne hne]; exact h) nb
          rwa [upd_ne hne] at this, fun a o h => by
          rcases s2.nw a o h with w | w
          · exact .inl w
          · by_cases e : a = D
            · subst e; rw [zD2] at h; cases h
            · rw [upd_ne e] at w; exact .inr w, fun _ => sz2⟩
      exact r1.step q1 b2
    by_cases hlt : i < xs.length
    · have hd : xs[i]? = some xs[i] := List.getElem?_eq_getElem hlt
      rw [List.drop_eq_getElem_cons hlt] at run2
      obtain ⟨o, st4, h4, run3⟩ := bnd_some (show bnd (f xs[i]) _ st3 = some (rst, st') from run2)
      obtain ⟨zs, st5, h5, run4⟩ := bnd_some run3
      obtain ⟨er, rfl⟩ := ret_some run4
      obtain ⟨go, yl⟩ := yy.2 _ hd
      refine .inr ⟨go, fun H' => ∃ Z' acc dacc st3 rst, Stp W Z1 (upd H1 D (.lst [])) Z' (upd H' D (.lst [])) ∧ H' D = some (.lst acc) ∧ Z' D = none ∧ (∀ a o, Z' a = some o → H' a = some o ∧ ¬ W.bx a) ∧ Sz H' ∧ acc.length ≤ i + 1 ∧ BoxS.R st3 W.β W.γ H' ∧ RepL X.K W.β Z' dacc acc ∧ compL f (xs.drop (i + 1)) st3 = some (rst, st') ∧ ys = dacc ++ rst, fun H' hN => ?_, fun x H3 hy => ?_⟩
      · obtain ⟨Z', acc, dacc, st3, rst, q1, q2, q3, q4, q5, q6, q7, q8, q9, q10⟩ := hN
        exact ⟨xs.length - (i + 1), by omega, Z', acc, dacc, st3, rst, rfl, hlt, q1, q2, q3, q4, q5, q6, q7, q8, q9, q10⟩
      · obtain ⟨Z3, s3, b3, rx⟩ := yl x H3 hy
        intro s0 H0 C' cl fp
        have hXb := hX.blk scope s0 H0 C' cl fp
        rcases hb xs[i] with hb' | ⟨Γ', vs, ht, hvs, mt, me, ot, oe, en⟩
        · rw [hb' st3] at h4; cases h4
        · obtain ⟨Γ1, v1, v2, t1, ⟨e1, e2⟩, e3⟩ := ht
          subst e1
          subst e2
          rw [List.append_nil] at e3
          subst e3
          rw [en] at h4
          obtain ⟨t, st6, h6, h7⟩ := bnd_some h4
          refine t1 _ hXb W (wipe σ (own.map (·.2))) Z3 H3 st3 x _ ((rr.step s3 b3).wipe) rx fun σ3 r4 w4 o4 => ?_
          refine ⟨by
            have := w4 (own.map (·.2)) hvs
            rw [this]
            have idem : ∀ (us ws : List Nat) (ρ : L2.St), (∀ i ∈ us, i ∈ ws) → wipe (wipe ρ us) ws = wipe ρ ws := by
              intro us ws ρ
              induction us with
              | nil => intro _; rfl
              | cons u us ih =>
                intro h
                show wipe ((wipe ρ us).set u none) ws = wipe ρ ws
                rw [wipe_set (h u List.mem_cons_self), ih fun i hi => h i (List.mem_cons_of_mem _ hi)]
            exact idem _ _ σ fun _ h => h, fun s5 H5 C5 cl5 fp5 => ?_⟩
          have hXc := hX.blk scope s5 H5 C5 cl5 fp5
          refine ot _ hXc W σ3 Z3 H3 st3 t st6 _ r4 h6 fun Z6 H6 s6 b6 => ?_
          have s36 := s3.trans s6
          have D6 : H6 D = some (.lst acc) := s36.hh D _ hD2 nbD
          have zD6 : Z6 D = none := by
            cases q : Z6 D with
            | none => rfl
            | some u =>
              rcases s36.nw D u q with w | w
              · rw [zD2] at w; cases w
              · rw [hD2] at w; cases w
          have push : ∀ {H' Z' Hn : Hp} {ac : List V}, Stp W Z2 H2 Z' H' → Z' D = none → SzO (.lst ac) → Stp W Z1 (upd H1 D (.lst [])) Z' (upd (upd H' D (.lst ac)) D (.lst [])) := by
            intro H' Z' Hn ac sx zx _
            rw [upd_upd]
            refine s2.trans ⟨sx.zz, fun a o h => ?_, fun a o h nb => ?_, fun a o h => ?_, fun hs => ?_⟩
            · have hne : a ≠ D := fun z => by rw [z, zx] at h; cases h
              exact ⟨by rw [upd_ne hne]; exact (sx.zh a o h).1, (sx.zh a o h).2⟩
            · rcases upd_get h with ⟨rfl, rfl⟩ | ⟨hne, h⟩
              · exact upd_same
              · rw [upd_ne hne]; exact sx.hh a o h nb
            · rcases sx.nw a o h with w | w
              · exact .inl w
              · by_cases e : a = D
                · subst e; rw [zx] at h; cases h
                · exact .inr (by rw [upd_ne e]; exact w)
            · exact (sx.sz sz2).upd (Nat.zero_le _)
          have zhp : ∀ {H' Z' : Hp} {ac : List V}, (∀ a o, Z' a = some o → H' a = some o ∧ ¬ W.bx a) → Z' D = none → ∀ a o, Z' a = some o → (upd H' D (.lst ac)) a = some o ∧ ¬ W.bx a := by
            intro H' Z' ac zx zn a o h
            have hne : a ≠ D := fun z => by rw [z, zn] at h; cases h
            exact ⟨by rw [upd_ne hne]; exact (zx a o h).1, (zx a o h).2⟩
          have bxp : ∀ {H' : Hp} {ac : List V} {s' : S}, BoxS.R s' W.β W.γ H' → BoxS.R s' W.β W.γ (upd H' D (.lst ac)) := fun b => BoxS.congr b (upd_ne fun e => nbD (.inl e.symm)) (upd_ne fun e => nbD (.inr e.symm))
          cases t with
          | true =>
            rw [if_pos rfl] at h7 ⊢
            obtain ⟨y, st7, h8, h9⟩ := bnd_some h7
            obtain ⟨rfl, rfl⟩ := ret_some h9
            intro s8 H8 C8 cl8 fp8
            have hXd := hX.blk scope s8 H8 C8 cl8 fp8
            refine oe _ hXd W σ3 Z6 H6 st6 y _ _ (r4.step s6 b6) h8 fun v Z7 H7 s7 b7 r7 => ?_
            have s37 := s36.trans s7
            have D7 : H7 D = some (.lst acc) := s37.hh D _ hD2 nbD
            have zD7 : Z7 D = none := by
              cases q : Z7 D with
              | none => rfl
              | some u =>
                rcases s37.nw D u q with w | w
                · rw [zD2] at w; cases w
                · rw [hD2] at w; cases w
            have hlen : (acc ++ [v]).length ≤ sizeLine := by rw [List.length_append, List.length_singleton]; omega
            refine ⟨acc, D7, by omega, Z7, acc ++ [v], dacc ++ [y], st4, zs, push (Hn := H7) s37 zD7 hlen, upd_same, zD7, zhp s37.zh zD7, (s37.sz sz2).upd hlen, by rw [List.length_append, List.length_singleton]; omega, bxp b7, (rl2.mono s37.zz).append (.cons r7 .nil), h5, ?_⟩
            rw [ey, er, List.append_assoc]; rfl
          | false =>
            rw [if_neg Bool.false_ne_true] at h7 ⊢
            obtain ⟨rfl, rfl⟩ := ret_some h7
            refine ⟨Z6, acc, dacc, st4, zs, ?_, D6, zD6, s36.zh, s36.sz sz2, by omega, b6, rl2.mono s36.zz, h5, by rw [ey, er]⟩
            have := push (Hn := H6) (ac := []) s36 zD6 (Nat.zero_le _)
            rwa [upd_upd] at this
    · have e : i = xs.length := by omega
      subst e
      rw [List.drop_length] at run2
      obtain ⟨rfl, rfl⟩ := ret_some run2
      rw [List.append_nil] at ey
      subst ey
      refine .inl ⟨yy.1 (Nat.le_refl _), ?_⟩
      refine q (.ref D) Z2 H2 ⟨s1.zz.trans s2.zz, zh2, fun a o h nb => ?_, fun a o h => ?_, fun _ => sz2⟩ b2 ⟨⟨D, acc, rfl, hD2, rl2⟩, fun a ea _ => ?_⟩
      · have h' := s1.hh a o h nb
        have hne : a ≠ D := ne_of_none h' hD
        have := s2.hh a o (by rw [upd_ne hne]; exact h') nb
        rwa [upd_ne hne] at this
      · rcases s2.nw a o h with w | w
        · exact s1.nw a o w
        · by_cases e : a = D
          · subst e; rw [zD2] at h; cases h
          · rw [upd_ne e] at w
            cases q' : H a with
            | none => exact .inr rfl
            | some u => rw [s1.hh a u q' (zh2 a o h).2] at w; cases w
      · cases ea
        exact ⟨fresh_back r.box b1 s1 hD, zD2, nbD⟩
  · rw [if_neg hxs] at hm1; exact (stuck_some hm1).elim
/-- a comprehension, as a value and as what a name is bound to -/
def OkC (C : Stat) (Γ : SCx) (e : Expr) (m : M S D) : Prop :=
  Ok .N C Γ e m ∧ ∀ X, CtxP C X → ∀ (i : Nat) (y : Str) (py spos : Pos), C.N[i]? = some y → C.sc.names.lookup y = some .local → swapsWith e (some (.Name y py)) spos.line X.env = pure true →
    ∀ (W : Wd) (σ : L2.St) (Z H : Hp) (st : S) (d : D) (st' : S), SR X.K W Γ σ Z H st → m st = some (d, st') →
      ∃ te, PS X (.Assign [.Name y py] e spos) (tAsg te (gName i)) ∧ ∀ Q : VK, (∀ v Z' H', Stp W Z H Z' H' → BoxS.R st' W.β W.γ H' → Res X.K W .N H Z' H' d v → Q v H') → te σ H Q
theorem Ok.lc {scope : Scope} (own : List (Str × Nat)) {mi : M S (List D)} {f : D → M S (Option D)} (hi : OkI false C Γ tg iter mi)
    (hb : ∀ d, BindOk (C.blk scope) (wipeΓ Γ (own.map (·.2))) [tg] [d] (fun i => i ∈ own.map (·.2)) (fun Γ' n => ∃ mt me, OkTs (C.blk scope) Γ' ifs mt ∧ Ok .E (C.blk scope) Γ' elt me ∧ n = eltM mt me) (f d))
    (ok : blkC C.N C.sc scope own = true := by (try dsimp only [Stat.blk]); decide +kernel) (hs : ∀ (env : Env) x, foldedSetIterable iter env x = pure x := by intro _ _; rfl) : OkC C Γ (.ListComp elt [⟨tg, iter, ifs, 0⟩] scope pos) (bnd mi fun xs => if xs.length ≤ sizeLine then bnd (compL f xs) fun ys => ret (.lst ys) else stuck) := by
  refine ⟨fun X hX W σ Z H st d st' Q r hm q => ?_, fun X hX i y py spos hN hyl hsw W σ Z H st d st' r hm => ?_⟩
  · exact tU_of (pe_lc (own := own) hX.calm (by rw [hX.N]; exact hX.nd) piU (blkOk_by (by rw [hX.N, hX.sc]; exact ok)) bG_ok bT_ok bE_ok (hs _)) (lc_rd own hi hb X hX W σ Z H st d st' Q r hm q)
  · exact ⟨_, ps_setLc (own := own) hX.calm (by rw [hX.N]; exact hX.nd) (by rw [hX.N]; exact hN) (by rw [hX.sc]; exact hyl) hsw piU (blkOk_by (by rw [hX.N, hX.sc]; exact ok)) bG_ok bT_ok bE_ok (hs _), fun Q q => lc_rd own hi hb X hX W σ Z H st d st' Q r hm q⟩
theorem OkC.n {e : Expr} {m : M S D} (h : OkC C Γ e m) : Ok .N C Γ e m := h.1
/-- name = [..] on one line -/
theorem OkB.setC {τ l : Type} {T : Tg τ l} {rest : List Stmt} {m : M S D} {k : D → M S (Fl τ l)} {i : Nat} {x : Str} {pos' : Pos} {gs : List Comprehension} {scope : Scope} {cpos : Pos} (hN : C.N[i]? = some x) (hx : C.sc.names.lookup x = some .local) (hfk : C.sc.kind = .function) (he : OkC C Γ (.ListComp elt gs scope cpos) m) (hb : ∀ d, OkB C (Γ.set i (some (.frz d))) rest T (k d))
    (ha : (scope.names.any fun (n, k) => n == x && (k == .local || k == .cell)) = false := by decide +kernel) (hl : (pos'.line == cpos.line) = true := by rfl) : OkB C Γ (.Assign [.Name x pos'] (.ListComp elt gs scope cpos) pos :: rest) T (bnd m k) := fun X hX W σ Z H st f st' D r hm q => by
  obtain ⟨d, st1, h1, hm1⟩ := bnd_some hm
  obtain ⟨te, ps, qe⟩ := he.2 X hX i x pos' pos hN hx (sw_true (by rw [hX.sc]; exact hfk) (by rw [hX.sc]; exact hx) hl ha) W σ Z H st d st1 r h1
  refine tUS_of (pss_cons ps pssU) (qe _ fun v Z1 H1 s1 b1 r1 => ?_)
  have r1' : ∃ Z2, Stp W Z H Z2 H1 ∧ Rep X.K W.β Z2 d v := by
    by_cases mu : isMut d = true
    · obtain ⟨q4, q5⟩ := r1
      have hv : ∃ p o, v = .ref p ∧ H1 p = some o := by
        cases d with
        | lst ds => obtain ⟨b, vs, eb, hb, _⟩ := q4; exact ⟨b, _, eb, hb⟩
        | dct ds =>
          obtain ⟨b, eb, ⟨kvs, h, _⟩ | ⟨kvs, h, _⟩⟩ := q4
          · exact ⟨b, _, eb, h⟩
          · exact ⟨b, _, eb, h⟩
        | _ => cases mu
      obtain ⟨p, o, rfl, ho⟩ := hv
      obtain ⟨f1, f2, f3⟩ := q5 p rfl mu
      have sz : Sub Z1 (upd Z1 p o) := fun a u h => upd_none f2 h
      refine ⟨upd Z1 p o, ⟨s1.zz.trans sz, fun a u h => ?_, s1.hh, fun a u h => ?_, s1.sz⟩, Rep1.rep (H := H1) (q4.mono sz fun _ _ _ h => h) fun a ea _ => by cases ea; rw [upd_same, ho]⟩
      · rcases upd_get h with ⟨rfl, rfl⟩ | ⟨_, h⟩
        · exact ⟨ho, f3⟩
        · exact s1.zh a u h
      · rcases upd_get h with ⟨rfl, rfl⟩ | ⟨_, h⟩
        · exact .inr f1
        · exact s1.nw a u h
    · refine ⟨Z1, s1, ?_⟩
      have := r1.1
      cases d with
      | lst ds => exact absurd rfl mu
      | dct ds => exact absurd rfl mu
      | _ => exact this
  obtain ⟨Z2, s2, r2⟩ := r1'
  exact hb d X hX W (σ.set i (some v)) Z2 H1 st1 f st' D ((r.step s2 b1).setF r2) hm1 (q.after s2.bst fun a h => .inl (own_setF h))
theorem OkB.setCO {τ l : Type} {T : Tg τ l} {rest : List Stmt} {m : M S D} {k : D → M S (Fl τ l)} {i : Nat} {x : Str} {pos' : Pos} {gs : List Comprehension} {scope : Scope} {cpos : Pos} (hN : C.N[i]? = some x) (hx : C.sc.names.lookup x = some .local) (hfk : C.sc.kind = .function) (he : OkC C Γ (.ListComp elt gs scope cpos) m) (hb : ∀ d, OkB C (Γ.set i (some (.own d))) rest T (k d))
    (ha : (scope.names.any fun (n, k) => n == x && (k == .local || k == .cell)) = false := by decide +kernel) (hl : (pos'.line == cpos.line) = true := by rfl) : OkB C Γ (.Assign [.Name x pos'] (.ListComp elt gs scope cpos) pos :: rest) T (bnd m fun d => if isMut d = true then k d else stuck) := fun X hX W σ Z H st f st' D r hm q => by
  obtain ⟨d, st1, h1, hm1⟩ := bnd_some hm
  by_cases mu : isMut d = true
  · rw [if_pos mu] at hm1
    obtain ⟨te, ps, qe⟩ := he.2 X hX i x pos' pos hN hx (sw_true (by rw [hX.sc]; exact hfk) (by rw [hX.sc]; exact hx) hl ha) W σ Z H st d st1 r h1
    refine tUS_of (pss_cons ps pssU) (qe _ fun v Z1 H1 s1 b1 r1 => ?_)
    have hv : ∃ p, v = .ref p := by
      obtain ⟨q4, _⟩ := r1
      cases d with
      | lst ds => obtain ⟨b, vs, eb, _⟩ := q4; exact ⟨b, eb⟩
      | dct ds => obtain ⟨b, eb, _⟩ := q4; exact ⟨b, eb⟩
      | _ => cases mu
    obtain ⟨p, rfl⟩ := hv
    obtain ⟨f1, f2, f3⟩ := r1.2 p rfl mu
    have no : ¬ ownA Γ σ p := fun h => by
      obtain ⟨o, ho⟩ := r.ownThere h
      rw [f1] at ho; cases ho
    refine hb d X hX W (σ.set i (some (.ref p))) Z1 H1 st1 f st' D ((r.step s1 b1).setO mu r1.1 f2 f3 no) hm1 (q.after s1.bst fun a h => ?_)
    rcases own_setO h with h | rfl
    · exact .inl h
    · exact .inr f1
  · rw [if_neg mu] at hm1; exact (stuck_some hm1).elim
end
end Sn

namespace Sn
open PySem PySem.Spec PyProof.Rows L2

/-! ### what operations make of data -/
mutual
def toPy : D → PyData
  | .non => .none
  | .bl b => .bool b
  | .int i => .int i
  | .str x => .str x
  | .tup xs => .tuple (toPys xs)
  | .lst xs => .list (toPys xs)
  | .dct _ => .dict []
  | .box => .dict []
def toPys : List D → List PyData
  | [] => []
  | x :: xs => toPy x :: toPys xs
end
section
variable {K : PySem.W.Frag} {β : Addr} {Z H : Hp}
mutual
theorem Rep.dp : ∀ {d : D} {v : V}, Rep K β Z d v → (toPy d).canLay0 = true → Dp K Z v (toPy d)
  | _, _, .non, _ => .non
  | _, _, .bl b, _ => .bl b
  | _, _, .int i, _ => .int i
  | _, _, .str x, _ => .str x
  | _, _, .box, h => by simp [toPy, PyData.canLay0] at h
  | _, _, .tup h r, c => .tup ((Sub.refl _).sqT h) (RepL.dp r (by simpa [toPy, PyData.canLay0] using c))
  | _, _, .lst h r, c => .lst (.inl (.inl h)) (RepL.dp r (by simpa [toPy, PyData.canLay0] using c))
  | _, _, .dK h r, c => by simp [toPy, PyData.canLay0] at c
  | _, _, .dT h r, c => by simp [toPy, PyData.canLay0] at c
theorem RepL.dp : ∀ {d : List D} {v : List V}, RepL K β Z d v → PyData.canLayAll0 (toPys d) = true → DpAll K Z v (toPys d)
  | _, _, .nil, _ => .nil
  | _, _, .cons h r, c => by
    simp only [toPys, PyData.canLayAll0, Bool.and_eq_true] at c
    exact .cons (Rep.dp h c.1) (RepL.dp r c.2)
end
mutual
theorem dp_mono {H' : Hp} (s : Sub H H') : ∀ {v : V} {d : PyData}, Dp K H v d → Dp K H' v d
  | _, _, .non => .non
  | _, _, .bl b => .bl b
  | _, _, .int i => .int i
  | _, _, .str x => .str x
  | _, _, .lst h r => .lst (s.sqL h) (dpAll_mono s r)
  | _, _, .tup h r => .tup (s.sqTT h) (dpAll_mono s r)
theorem dpAll_mono {H' : Hp} (s : Sub H H') : ∀ {v : List V} {d : List PyData}, DpAll K H v d → DpAll K H' v d
  | _, _, .nil => .nil
  | _, _, .cons h r => .cons (dp_mono s h) (dpAll_mono s r)
end
theorem Rep1.dp {d : D} {v : V} (s : Sub Z H) (r : Rep1 K β Z H d v) (c : (toPy d).canLay0 = true) : Dp K H v (toPy d) := by
  cases d with
  | lst ds =>
    obtain ⟨a, vs, rfl, h, r⟩ := r
    exact .lst (.inl (.inl h)) (dpAll_mono s (RepL.dp r (by simpa [toPy, PyData.canLay0] using c)))
  | dct ds => simp [toPy, PyData.canLay0] at c
  | non => exact dp_mono s (Rep.dp r c)
  | bl b => exact dp_mono s (Rep.dp r c)
  | int i => exact dp_mono s (Rep.dp r c)
  | str x => exact dp_mono s (Rep.dp r c)
  | tup x => exact dp_mono s (Rep.dp r c)
  | box => exact dp_mono s (Rep.dp r c)
end
/-- deep, plain: may be compared at any depth -/
def shD (d : D) : Bool := SeqAt.shaped (toPy d)
def eqB (x y : D) : Bool := PyData.eqv (toPy x) (toPy y)
def eqD (x y : D) : Option D := if shD x = true ∧ shD y = true then some (.bl (eqB x y)) else none
def neD (x y : D) : Option D := if shD x = true ∧ shD y = true then some (.bl (!eqB x y)) else none
def inD (x y : D) : Option D :=
  match y with
  | .lst ys => if shD x = true ∧ shD (.lst ys) = true then some (.bl (ys.any fun z => eqB z x)) else none
  | .tup ys => if shD x = true ∧ shD (.tup ys) = true then some (.bl (ys.any fun z => eqB z x)) else none
  | _ => none
def ninD (x y : D) : Option D :=
  match y with
  | .lst ys => if shD x = true ∧ shD (.lst ys) = true then some (.bl (!ys.any fun z => eqB z x)) else none
  | .tup ys => if shD x = true ∧ shD (.tup ys) = true then some (.bl (!ys.any fun z => eqB z x)) else none
  | _ => none
def addD : D → D → Option D
  | .int i, .int j => some (.int (i + j))
  | .str x, .str y => if x.length + y.length ≤ sizeLine then some (.str (x ++ y)) else none
  | .tup xs, .tup ys => if xs.length + ys.length ≤ sizeLine then some (.tup (xs ++ ys)) else none
  | .lst xs, .lst ys => if xs.length + ys.length ≤ sizeLine then some (.lst (xs ++ ys)) else none
  | _, _ => none
def subD : D → D → Option D
  | .int i, .int j => some (.int (i - j))
  | _, _ => none
def mulOk (i j : Int) : Prop := (-(2 ^ 64) < i ∧ i < 2 ^ 64) ∨ (-(2 ^ 64) < j ∧ j < 2 ^ 64)
instance (i j : Int) : Decidable (mulOk i j) := by unfold mulOk; infer_instance
def mulD : D → D → Option D
  | .int i, .int j => if mulOk i j then some (.int (i * j)) else none
  | .lst xs, .int k => if -(2 ^ 63) ≤ k ∧ k < 2 ^ 63 ∧ xs.length * k.toNat ≤ sizeLine then some (.lst (List.replicate k.toNat xs).flatten) else none
  | _, _ => none
def divD : D → D → Option D
  | .int i, .int j => if 0 < j ∧ j < 1073741824 then some (.int (i / j)) else none
  | _, _ => none
def modD : D → D → Option D
  | .int i, .int j => if 0 < j then some (.int (i % j)) else none
  | _, _ => none
def ltD : D → D → Option D
  | .int i, .int j => some (.bl (decide (i < j)))
  | _, _ => none
def leD : D → D → Option D
  | .int i, .int j => some (.bl (decide (i ≤ j)))
  | _, _ => none
def gtD : D → D → Option D
  | .int i, .int j => some (.bl (decide (j < i)))
  | _, _ => none
def geD : D → D → Option D
  | .int i, .int j => some (.bl (decide (j ≤ i)))
  | _, _ => none
def isNonD : D → Bool
  | .non => true
  | _ => false
/-- is None; is of two bools -/
def isD : D → D → Option D
  | x, .non => some (.bl (isNonD x))
  | .bl a, .bl b => some (.bl (decide (a = b)))
  | _, _ => none
def isntD : D → D → Option D
  | x, .non => some (.bl (!isNonD x))
  | .bl a, .bl b => some (.bl (!decide (a = b)))
  | _, _ => none

section
variable {C : Stat}
theorem lift_int {X : Cx} {f : Value → Value → Sem Value} {i j : Int} {r : V} {d : D} {W : Wd} {Z H : Hp} {Q : VK} {S : Type} [BoxS S] {st : S} (zh : ∀ a o, Z a = some o → H a = some o ∧ ¬ W.bx a) (bx : BoxS.R st W.β W.γ H)
    (hr : Rep X.K W.β Z d r) (hm : isMut d = false) (q : ∀ v Z' H', Stp W Z H Z' H' → BoxS.R st W.β W.γ H' → Res X.K W .N H Z' H' d v → Q v H') : Q r H := by
  refine q r Z H (Stp.refl zh) bx ⟨?_, fun a _ h => by rw [hm] at h; cases h⟩
  cases d with
  | lst ds => cases hm
  | dct ds => cases hm
  | _ => exact hr
theorem fin_plain {K : PySem.W.Frag} {r : V} {d : D} {W : Wd} {Z H : Hp} {Q : VK} {S : Type} [BoxS S] {st : S} (zh : ∀ a o, Z a = some o → H a = some o ∧ ¬ W.bx a) (bx : BoxS.R st W.β W.γ H)
    (hr : Rep K W.β Z d r) (hm : isMut d = false) (q : ∀ v Z' H', Stp W Z H Z' H' → BoxS.R st W.β W.γ H' → Res K W .N H Z' H' d v → Q v H') : Q r H := by
  refine q r Z H (Stp.refl zh) bx ⟨?_, fun a _ h => by rw [hm] at h; cases h⟩
  cases d with
  | lst ds => cases hm
  | dct ds => cases hm
  | _ => exact hr
/-- a new tuple -/
theorem fin_tup {K : PySem.W.Frag} {ds : List D} {vs : List V} {p : Addr} {W : Wd} {Z H : Hp} {Q : VK} {S : Type} [BoxS S] {st : S} (zh : ∀ a o, Z a = some o → H a = some o ∧ ¬ W.bx a) (bx : BoxS.R st W.β W.γ H)
    (hp : H p = none) (hr : RepL K W.β Z ds vs) (hl : vs.length ≤ sizeLine) (q : ∀ v Z' H', Stp W Z H Z' H' → BoxS.R st W.β W.γ H' → Res K W .N H Z' H' (.tup ds) v → Q v H') : Q (.ref p) (upd H p (.tup vs)) := by
  have s2 := Stp.layZ (o := .tup vs) zh bx hp hl
  exact q _ _ _ s2 (box_lay bx hp) ⟨Rep.tup (.inl upd_same) (hr.mono s2.zz), fun a _ h => by cases h⟩
/-- a new list -/
theorem fin_lst {K : PySem.W.Frag} {ds : List D} {vs : List V} {p : Addr} {W : Wd} {Z H : Hp} {Q : VK} {S : Type} [BoxS S] {st : S} (zh : ∀ a o, Z a = some o → H a = some o ∧ ¬ W.bx a) (bx : BoxS.R st W.β W.γ H)
    (hp : H p = none) (hr : RepL K W.β Z ds vs) (hl : vs.length ≤ sizeLine) (q : ∀ v Z' H', Stp W Z H Z' H' → BoxS.R st W.β W.γ H' → Res K W .N H Z' H' (.lst ds) v → Q v H') : Q (.ref p) (upd H p (.lst vs)) := by
  have s2 := Stp.layH (o := .lst vs) zh hp hl
  refine q _ _ _ s2 (box_lay bx hp) ⟨⟨p, vs, rfl, upd_same, hr⟩, fun a e _ => ?_⟩
  cases e
  exact ⟨hp, z_none zh hp, BoxS.bxThere bx hp⟩
theorem subOf {W : Wd} {Z H : Hp} (zh : ∀ a o, Z a = some o → H a = some o ∧ ¬ W.bx a) : Sub Z H := fun a o h => (zh a o h).1
theorem o_add : Op2 C (binaryOp .Add) addD := fun X hX S _ W Z H st x y dx dy d Q zh sz bx r1 r2 hg q => by
  cases dx with
  | int i => cases dy with
    | int j => cases r1; cases r2; cases hg; exact rU_of op_add ⟨i, j, rfl, rfl, fin_plain zh bx (.int _) rfl q⟩
    | _ => cases hg
  | str i => cases dy with
    | str j =>
      cases r1; cases r2
      have hg' : (if i.length + j.length ≤ sizeLine then some (D.str (i ++ j)) else none) = some d := hg
      split at hg'
      · cases hg'; exact rU_of op_add_str ⟨i, j, rfl, rfl, by assumption, fin_plain zh bx (.str _) rfl q⟩
      · cases hg'
    | _ => cases hg
  | tup xs => cases dy with
    | tup ys =>
      have hg' : (if xs.length + ys.length ≤ sizeLine then some (D.tup (xs ++ ys)) else none) = some d := hg
      split at hg'
      · rename_i hl
        cases hg'
        cases r1 with | @tup a vs _ h1 l1 => cases r2 with | @tup b us _ h2 l2 =>
          have hv := l1.length
          have hu := l2.length
          refine rU_of op_catA ⟨a, b, vs, us, rfl, rfl, (subOf zh).sqT h1, (subOf zh).sqT h2, by omega, fun e => ?_, fun e e2 => ?_, fun _ _ p hp => ?_⟩
          · subst e
            cases l1
            exact fin_plain zh bx (.tup h2 l2) rfl q
          · subst e2
            cases l2
            rw [List.append_nil] at q
            exact fin_plain zh bx (.tup h1 l1) rfl q
          · exact fin_tup zh bx hp (l1.append l2) (by rw [List.length_append]; omega) q
      · cases hg'
    | _ => cases hg
  | lst xs => cases dy with
    | lst ys =>
      have hg' : (if xs.length + ys.length ≤ sizeLine then some (D.lst (xs ++ ys)) else none) = some d := hg
      split at hg'
      · rename_i hl
        cases hg'
        obtain ⟨a, vs, rfl, h1, l1⟩ := r1
        obtain ⟨b, us, rfl, h2, l2⟩ := r2
        have hv := l1.length
        have hu := l2.length
        exact rU_of op_cat ⟨a, b, vs, us, rfl, rfl, h1, h2, by omega, fun p hp => fin_lst zh bx hp (l1.append l2) (by rw [List.length_append]; omega) q⟩
      · cases hg'
    | _ => cases hg
  | _ => cases hg
theorem o_sub : Op2 C (binaryOp .Sub) subD := fun X hX S _ W Z H st x y dx dy d Q zh sz bx r1 r2 hg q => by
  cases dx with
  | int i => cases dy with
    | int j => cases r1; cases r2; cases hg; exact rU_of op_sub ⟨i, j, rfl, rfl, fin_plain zh bx (.int _) rfl q⟩
    | _ => cases hg
  | _ => cases hg
theorem RepL.rep {K : PySem.W.Frag} {β : Addr} {Z : Hp} {ds : List D} {vs : List V} (r : RepL K β Z ds vs) : ∀ k : Nat, RepL K β Z (List.replicate k ds).flatten (List.replicate k vs).flatten
  | 0 => .nil
  | k + 1 => by
    rw [List.replicate_succ, List.replicate_succ, List.flatten_cons, List.flatten_cons]
    exact r.append (RepL.rep r k)
theorem o_mul : Op2 C (binaryOp .Mult) mulD := fun X hX S _ W Z H st x y dx dy d Q zh sz bx r1 r2 hg q => by
  cases dx with
  | int i => cases dy with
    | int j =>
      cases r1; cases r2
      have hg' : (if mulOk i j then some (D.int (i * j)) else none) = some d := hg
      split at hg'
      · rename_i hc
        cases hg'; exact rU_of op_mul ⟨i, j, rfl, rfl, hc, fin_plain zh bx (.int _) rfl q⟩
      · cases hg'
    | _ => cases hg
  | lst xs => cases dy with
    | int k =>
      cases r2
      have hg' : (if -(2 ^ 63) ≤ k ∧ k < 2 ^ 63 ∧ xs.length * k.toNat ≤ sizeLine then some (D.lst (List.replicate k.toNat xs).flatten) else none) = some d := hg
      split at hg'
      · rename_i hc
        cases hg'
        obtain ⟨a, vs, rfl, h1, l1⟩ := r1
        have hv := l1.length
        rw [hv] at hc
        refine rU_of op_rep ⟨a, k, vs, rfl, rfl, h1, hc.1, hc.2.1, hc.2.2, fun p hp => fin_lst zh bx hp (l1.rep _) ?_ q⟩
        rw [List.length_flatten, List.map_replicate, List.sum_replicate_nat, Nat.mul_comm]
        exact hc.2.2
      · cases hg'
    | _ => cases hg
  | _ => cases hg
theorem o_div : Op2 C (binaryOp .FloorDiv) divD := fun X hX S _ W Z H st x y dx dy d Q zh sz bx r1 r2 hg q => by
  cases dx with
  | int i => cases dy with
    | int j =>
      cases r1; cases r2
      have hg' : (if 0 < j ∧ j < 1073741824 then some (D.int (i / j)) else none) = some d := hg
      split at hg'
      · rename_i hc
        cases hg'; exact rU_of op_fdiv ⟨i, j, rfl, rfl, hc, fin_plain zh bx (.int _) rfl q⟩
      · cases hg'
    | _ => cases hg
  | _ => cases hg
theorem o_mod : Op2 C (binaryOp .Mod) modD := fun X hX S _ W Z H st x y dx dy d Q zh sz bx r1 r2 hg q => by
  cases dx with
  | int i => cases dy with
    | int j =>
      cases r1; cases r2
      have hg' : (if 0 < j then some (D.int (i % j)) else none) = some d := hg
      split at hg'
      · rename_i hc
        cases hg'; exact rU_of op_mod ⟨i, j, rfl, rfl, hc, fin_plain zh bx (.int _) rfl q⟩
      · cases hg'
    | _ => cases hg
  | _ => cases hg
theorem o_lt : Op2 C (compareOp .Lt) ltD := fun X hX S _ W Z H st x y dx dy d Q zh sz bx r1 r2 hg q => by
  cases dx with
  | int i => cases dy with
    | int j => cases r1; cases r2; cases hg; exact rU_of op_lt ⟨i, j, rfl, rfl, fin_plain zh bx (.bl _) rfl q⟩
    | _ => cases hg
  | _ => cases hg
theorem o_le : Op2 C (compareOp .LtE) leD := fun X hX S _ W Z H st x y dx dy d Q zh sz bx r1 r2 hg q => by
  cases dx with
  | int i => cases dy with
    | int j => cases r1; cases r2; cases hg; exact rU_of op_le ⟨i, j, rfl, rfl, fin_plain zh bx (.bl _) rfl q⟩
    | _ => cases hg
  | _ => cases hg
theorem o_gt : Op2 C (compareOp .Gt) gtD := fun X hX S _ W Z H st x y dx dy d Q zh sz bx r1 r2 hg q => by
  cases dx with
  | int i => cases dy with
    | int j => cases r1; cases r2; cases hg; exact rU_of op_gt ⟨i, j, rfl, rfl, fin_plain zh bx (.bl _) rfl q⟩
    | _ => cases hg
  | _ => cases hg
theorem o_ge : Op2 C (compareOp .GtE) geD := fun X hX S _ W Z H st x y dx dy d Q zh sz bx r1 r2 hg q => by
  cases dx with
  | int i => cases dy with
    | int j => cases r1; cases r2; cases hg; exact rU_of op_ge ⟨i, j, rfl, rfl, fin_plain zh bx (.bl _) rfl q⟩
    | _ => cases hg
  | _ => cases hg
theorem o_eq : Op2 C (compareOp .Eq) eqD := fun X hX S _ W Z H st x y dx dy d Q zh sz bx r1 r2 hg q => by
  unfold eqD at hg
  split at hg
  · rename_i hc
    cases hg
    exact rU_of (op_eqD (by have := hX.units; omega)) ⟨toPy dx, toPy dy, r1.dp (subOf zh) (SeqAt.canLay_of_shaped hc.1), r2.dp (subOf zh) (SeqAt.canLay_of_shaped hc.2), hc.1, hc.2, fin_plain zh bx (.bl _) rfl q⟩
  · cases hg
theorem o_ne : Op2 C (compareOp .NotEq) neD := fun X hX S _ W Z H st x y dx dy d Q zh sz bx r1 r2 hg q => by
  unfold neD at hg
  split at hg
  · rename_i hc
    cases hg
    exact rU_of (op_neD (by have := hX.units; omega)) ⟨toPy dx, toPy dy, r1.dp (subOf zh) (SeqAt.canLay_of_shaped hc.1), r2.dp (subOf zh) (SeqAt.canLay_of_shaped hc.2), hc.1, hc.2, fin_plain zh bx (.bl _) rfl q⟩
  · cases hg
theorem any_toPys (p : PyData → Bool) : ∀ ys : List D, (toPys ys).any p = ys.any fun z => p (toPy z)
  | [] => rfl
  | y :: ys => by rw [toPys, List.any_cons, List.any_cons, any_toPys p ys]
def rInT (K : PySem.W.Frag) : R2 := fun x y H Q => ∃ d ds, Dp K H x d ∧ Dp K H y (.tuple ds) ∧ SeqAt.shaped d = true ∧ SeqAt.shaped (.tuple ds) = true ∧ Q (.bl (ds.any fun z => PyData.eqv z d)) H
def rNotInT (K : PySem.W.Frag) : R2 := fun x y H Q => ∃ d ds, Dp K H x d ∧ Dp K H y (.tuple ds) ∧ SeqAt.shaped d = true ∧ SeqAt.shaped (.tuple ds) = true ∧ Q (.bl (!ds.any fun z => PyData.eqv z d)) H
theorem room_inT {A : Around} {d : PyData} {n : Nat} (h : SeqAt.shaped d = true) (hu : A.units + 65 < cLine) : A.units + 1 + min n d.depth < cLine := by
  have h1 := SeqAt.depth_of_shaped h
  have h2 : min n d.depth ≤ d.depth := Nat.min_le_right _ _
  omega
theorem op_inT {X : Cx} (hu : X.A.units + 65 < cLine) : OpR X (compareOp .In) (rInT X.K) := by
  intro pins s σ H x y v u Q I rx ry h
  obtain ⟨d, ds, hd, he, sd, se, q⟩ := h
  obtain ⟨as, r1⟩ := Dp.reads I d x v hd rx
  obtain ⟨bs, r2⟩ := Dp.reads I (.tuple ds) y u he ry
  exact SeqAt.in_tuple_reads r2 r1 (by simpa [PyData.canLay0] using SeqAt.canLay_of_shaped se) (SeqAt.canLay_of_shaped sd) (room_inT sd hu) ⟨.bl _, H, I, rfl, q⟩
theorem op_notInT {X : Cx} (hu : X.A.units + 65 < cLine) : OpR X (compareOp .NotIn) (rNotInT X.K) := by
  intro pins s σ H x y v u Q I rx ry h
  obtain ⟨d, ds, hd, he, sd, se, q⟩ := h
  obtain ⟨as, r1⟩ := Dp.reads I d x v hd rx
  obtain ⟨bs, r2⟩ := Dp.reads I (.tuple ds) y u he ry
  exact SeqAt.notIn_tuple_reads r2 r1 (by simpa [PyData.canLay0] using SeqAt.canLay_of_shaped se) (SeqAt.canLay_of_shaped sd) (room_inT sd hu) ⟨.bl _, H, I, rfl, q⟩
theorem o_in : Op2 C (compareOp .In) inD := fun X hX S _ W Z H st x y dx dy d Q zh sz bx r1 r2 hg q => by
  cases dy with
  | lst ys =>
    unfold inD at hg
    simp only at hg
    split at hg
    · rename_i hc
      cases hg
      refine rU_of (op_inD hX.units) ⟨toPy dx, toPys ys, r1.dp (subOf zh) (SeqAt.canLay_of_shaped hc.1), r2.dp (subOf zh) (SeqAt.canLay_of_shaped hc.2), hc.1, hc.2, ?_⟩
      rw [any_toPys]
      exact fin_plain zh bx (.bl _) rfl q
    · cases hg
  | tup ys =>
    unfold inD at hg
    simp only at hg
    split at hg
    · rename_i hc
      cases hg
      refine rU_of (op_inT hX.units) ⟨toPy dx, toPys ys, r1.dp (subOf zh) (SeqAt.canLay_of_shaped hc.1), r2.dp (subOf zh) (SeqAt.canLay_of_shaped hc.2), hc.1, hc.2, ?_⟩
      rw [any_toPys]
      exact fin_plain zh bx (.bl _) rfl q
    · cases hg
  | _ => cases hg
theorem o_nin : Op2 C (compareOp .NotIn) ninD := fun X hX S _ W Z H st x y dx dy d Q zh sz bx r1 r2 hg q => by
  cases dy with
  | lst ys =>
    unfold ninD at hg
    simp only at hg
    split at hg
    · rename_i hc
      cases hg
      refine rU_of (op_notInD hX.units) ⟨toPy dx, toPys ys, r1.dp (subOf zh) (SeqAt.canLay_of_shaped hc.1), r2.dp (subOf zh) (SeqAt.canLay_of_shaped hc.2), hc.1, hc.2, ?_⟩
      rw [any_toPys]
      exact fin_plain zh bx (.bl _) rfl q
    · cases hg
  | tup ys =>
    unfold ninD at hg
    simp only at hg
    split at hg
    · rename_i hc
      cases hg
      refine rU_of (op_notInT hX.units) ⟨toPy dx, toPys ys, r1.dp (subOf zh) (SeqAt.canLay_of_shaped hc.1), r2.dp (subOf zh) (SeqAt.canLay_of_shaped hc.2), hc.1, hc.2, ?_⟩
      rw [any_toPys]
      exact fin_plain zh bx (.bl _) rfl q
    · cases hg
  | _ => cases hg
theorem Rep1.isNon {K : PySem.W.Frag} {β : Addr} {Z H : Hp} {d : D} {v : V} (r : Rep1 K β Z H d v) : decide (v = .non) = isNonD d := by
  cases d with
  | non => cases r; rfl
  | bl b => cases r; rfl
  | int i => cases r; rfl
  | str x => cases r; rfl
  | tup xs => cases r; rfl
  | lst xs => obtain ⟨a, vs, rfl, _⟩ := r; rfl
  | dct xs => obtain ⟨a, rfl, _⟩ := r; rfl
  | box => cases r; rfl
theorem o_is : Op2 C (compareOp .Is) isD := fun X hX S _ W Z H st x y dx dy d Q zh sz bx r1 r2 hg q => by
  cases dy with
  | non =>
    cases r2
    have e : d = .bl (isNonD dx) := by cases dx <;> exact (Option.some.inj hg).symm
    subst e
    exact rU_of op_isN ⟨rfl, by rw [r1.isNon]; exact fin_plain zh bx (.bl _) rfl q⟩
  | bl b =>
    cases dx with
    | bl a => cases r1; cases r2; cases hg; exact rU_of op_is_bl ⟨a, b, rfl, rfl, fin_plain zh bx (.bl _) rfl q⟩
    | _ => cases hg
  | _ => cases dx <;> cases hg
theorem o_isnt : Op2 C (compareOp .IsNot) isntD := fun X hX S _ W Z H st x y dx dy d Q zh sz bx r1 r2 hg q => by
  cases dy with
  | non =>
    cases r2
    have e : d = .bl (!isNonD dx) := by cases dx <;> exact (Option.some.inj hg).symm
    subst e
    exact rU_of op_notN ⟨rfl, by rw [r1.isNon]; exact fin_plain zh bx (.bl _) rfl q⟩
  | bl b =>
    cases dx with
    | bl a => cases r1; cases r2; cases hg; exact rU_of op_isnot_bl ⟨a, b, rfl, rfl, fin_plain zh bx (.bl _) rfl q⟩
    | _ => cases hg
  | _ => cases dx <;> cases hg
end

/-! ### calls of built-ins -/
section
variable {S : Type} [BoxS S] {C : Stat} {Γ : SCx} {e a b : Expr} {es : List Expr} {m ma mb : M S D} {md : Md} {pos p : Pos} {x : Str}
theorem ResL.views {K : PySem.W.Frag} {W : Wd} {H Z' H' : Hp} (zh : ∀ a o, Z' a = some o → H' a = some o ∧ ¬ W.bx a) : ∀ {mds : List Md} {ds : List D} {vs : List V}, ResL K W mds H Z' H' ds vs → ResL K W (ds.map fun _ => Md.V) H' Z' H' ds vs
  | [], [], [], _ => trivial
  | _ :: _, _ :: _, _ :: _, ⟨h, r⟩ => ⟨h.view zh, ResL.views zh r⟩
  | [], [], _ :: _, h => h.elim
  | [], _ :: _, _, h => h.elim
  | _ :: _, [], _, h => h.elim
  | _ :: _, _ :: _, [], h => h.elim
theorem Ok.bfun {id : String} {g : List D → Option D} {mds : List Md} {mr : M S (List D)} (ho : OpL C (.builtin id) g) (hv : bootBuiltins x = some (.builtin id)) (hg : C.sc.names.lookup x = some .globalImplicit) (hm : C.G.mg x = none) (ha : OkA mds C Γ (e :: es) mr)
    (hn : x ≠ "__name__" := by decide) (hdb : (x == ("__debug__" : Str)) = false := by decide) (hp : plainArg e = true := by rfl) (hes : ∀ env : Env, (backTo pos (starEach es env)).any (·.1) = false := by intro _; rfl) : Ok .N C Γ (.Call (.Name x p) (e :: es) [] pos) (bnd mr fun xs => lift (g xs)) := fun X hX W σ Z H st d st' Q r hm' q => by
  obtain ⟨xs, st1, h1, hm1⟩ := bnd_some hm'
  obtain ⟨hg', rfl⟩ := lift_some hm1
  refine tU_of (pe_callB crU (hX.glob hg) (hX.none hm) hv paU hn hdb (starEach_plain _ hp) (hes _)) ?_
  refine ha X hX W σ Z H st xs _ _ r h1 fun vs Z1 H1 s1 b1 r1 => ?_
  exact ho X hX W Z1 H1 _ vs xs d Q s1.zh (s1.sz r.sz) b1 (r1.views s1.zh) hg' fun v Z' H' s' b' r' => q v Z' H' (s1.trans s') b' (r'.back r.box b1 s1)
theorem Ok.tfun {T : String} {g : List D → Option D} {mds : List Md} {mr : M S (List D)} (ho : OpL C (.type T) g) (hv : bootBuiltins x = some (.type T)) (hg : C.sc.names.lookup x = some .globalImplicit) (hm : C.G.mg x = none) (ha : OkA mds C Γ (e :: es) mr)
    (hn : x ≠ "__name__" := by decide) (hdb : (x == ("__debug__" : Str)) = false := by decide) (hp : plainArg e = true := by rfl) (hes : ∀ env : Env, (backTo pos (starEach es env)).any (·.1) = false := by intro _; rfl) : Ok .N C Γ (.Call (.Name x p) (e :: es) [] pos) (bnd mr fun xs => lift (g xs)) := fun X hX W σ Z H st d st' Q r hm' q => by
  obtain ⟨xs, st1, h1, hm1⟩ := bnd_some hm'
  obtain ⟨hg', rfl⟩ := lift_some hm1
  refine tU_of (pe_callTy crU (hX.glob hg) (hX.none hm) hv paU hn hdb (starEach_plain _ hp) (hes _)) ?_
  refine ha X hX W σ Z H st xs _ _ r h1 fun vs Z1 H1 s1 b1 r1 => ?_
  exact ho X hX W Z1 H1 _ vs xs d Q s1.zh (s1.sz r.sz) b1 (r1.views s1.zh) hg' fun v Z' H' s' b' r' => q v Z' H' (s1.trans s') b' (r'.back r.box b1 s1)
end
section
variable {C : Stat}
theorem ResL.one {K : PySem.W.Frag} {W : Wd} {H Z' H' : Hp} {d : D} {vs : List V} (h : ResL K W ([d].map fun _ => Md.V) H Z' H' [d] vs) : ∃ v, vs = [v] ∧ Rep1 K W.β Z' H' d v := by
  match vs, h with
  | [v], h => exact ⟨v, rfl, h.1.1⟩
  | [], h => exact h.elim
  | _ :: _ :: _, h => exact h.2.elim
theorem ResL.two {K : PySem.W.Frag} {W : Wd} {H Z' H' : Hp} {d e : D} {vs : List V} (h : ResL K W ([d, e].map fun _ => Md.V) H Z' H' [d, e] vs) : ∃ v u, vs = [v, u] ∧ Rep1 K W.β Z' H' d v ∧ Rep1 K W.β Z' H' e u := by
  match vs, h with
  | [v, u], h => exact ⟨v, u, rfl, h.1.1, h.2.1.1⟩
  | [], h => exact h.elim
  | [_], h => exact h.2.elim
  | _ :: _ :: _ :: _, h => exact h.2.2.elim
def lenD : List D → Option D
  | [.tup xs] => some (.int xs.length)
  | [.lst xs] => some (.int xs.length)
  | [.str x] => if x.length ≤ sizeLine then some (.int x.length) else none
  | _ => none
theorem o_len : OpL C (.builtin "len") lenD := fun X hX S _ W Z H st xs dxs d Q zh sz bx r0 hg q => by
  match dxs, hg with
  | [.tup xs], hg =>
    cases hg
    obtain ⟨v, rfl, r⟩ := r0.one
    cases r with | tup h l => exact cU_of call_len ⟨_, _, rfl, .inr ⟨_, (subOf zh).sqT h, rfl⟩, by rw [← l.length]; exact fin_plain zh bx (.int _) rfl q⟩
  | [.lst xs], hg =>
    cases hg
    obtain ⟨v, rfl, r⟩ := r0.one
    obtain ⟨a, vs, rfl, h, l⟩ := r
    exact cU_of call_len ⟨_, _, rfl, .inl ⟨_, .inl (.inl h), rfl⟩, by rw [← l.length]; exact fin_plain zh bx (.int _) rfl q⟩
  | [.str x], hg =>
    have hg' : (if x.length ≤ sizeLine then some (D.int x.length) else none) = some d := hg
    split at hg'
    · cases hg'
      obtain ⟨v, rfl, r⟩ := r0.one
      cases r
      exact cU_of call_len ⟨_, _, rfl, ⟨by assumption, rfl⟩, fin_plain zh bx (.int _) rfl q⟩
    · cases hg'
def tupleD : List D → Option D
  | [.tup xs] => some (.tup xs)
  | [.lst xs] => some (.tup xs)
  | _ => none
theorem o_tuple : OpL C (.type "tuple") tupleD := fun X hX S _ W Z H st xs dxs d Q zh sz bx r0 hg q => by
  match dxs, hg with
  | [.tup xs], hg =>
    cases hg
    obtain ⟨v, rfl, r⟩ := r0.one
    cases r with | tup h l => exact cU_of call_tuple_of ⟨_, _, rfl, .inr ⟨(subOf zh).sqT h, fin_plain zh bx (.tup h l) rfl q⟩⟩
  | [.lst xs], hg =>
    cases hg
    obtain ⟨v, rfl, r⟩ := r0.one
    obtain ⟨a, vs, rfl, h, l⟩ := r
    exact cU_of call_tuple_of ⟨_, _, rfl, .inl ⟨.inl (.inl h), fun p hp => fin_tup zh bx hp l (sz.lst h) q⟩⟩
def listD : List D → Option D
  | [.tup xs] => some (.lst xs)
  | [.lst xs] => some (.lst xs)
  | _ => none
theorem o_list : OpL C (.type "list") listD := fun X hX S _ W Z H st xs dxs d Q zh sz bx r0 hg q => by
  match dxs, hg with
  | [.tup xs], hg =>
    cases hg
    obtain ⟨v, rfl, r⟩ := r0.one
    cases r with | tup h l => exact cU_of call_list_of ⟨_, _, rfl, .inr ((subOf zh).sqT h), fun p hp => fin_lst zh bx hp l (sz.tup ((subOf zh).tupAt h)) q⟩
  | [.lst xs], hg =>
    cases hg
    obtain ⟨v, rfl, r⟩ := r0.one
    obtain ⟨a, vs, rfl, h, l⟩ := r
    exact cU_of call_list_of ⟨_, _, rfl, .inl (.inl (.inl h)), fun p hp => fin_lst zh bx hp l (sz.lst h) q⟩
def intD : List D → Option D
  | [.int i] => some (.int i)
  | [.bl b] => some (.int (if b then 1 else 0))
  | _ => none
theorem o_int : OpL C (.type "int") intD := fun X hX S _ W Z H st xs dxs d Q zh sz bx r0 hg q => by
  match dxs, hg with
  | [.int i], hg =>
    cases hg
    obtain ⟨v, rfl, r⟩ := r0.one
    cases r
    exact cU_of call_int1 (.inl ⟨i, rfl, fin_plain zh bx (.int _) rfl q⟩)
  | [.bl b], hg =>
    cases hg
    obtain ⟨v, rfl, r⟩ := r0.one
    cases r
    exact cU_of call_int1 (.inr ⟨b, rfl, fin_plain zh bx (.int _) rfl q⟩)
def absD : List D → Option D
  | [.int i] => some (.int (if i < 0 then -i else i))
  | _ => none
theorem o_abs : OpL C (.builtin "abs") absD := fun X hX S _ W Z H st xs dxs d Q zh sz bx r0 hg q => by
  match dxs, hg with
  | [.int i], hg =>
    cases hg
    obtain ⟨v, rfl, r⟩ := r0.one
    cases r
    exact cU_of call_abs ⟨i, rfl, fin_plain zh bx (.int _) rfl q⟩
/-- the ints, the bools of a list -/
def asInts : List D → Option (List Int)
  | [] => some []
  | .int i :: ds => (asInts ds).map fun is => i :: is
  | _ :: _ => none
def asBls : List D → Option (List Bool)
  | [] => some []
  | .bl i :: ds => (asBls ds).map fun is => i :: is
  | _ :: _ => none
theorem asInts_rep {K : PySem.W.Frag} {β : Addr} {Z : Hp} : ∀ {ds : List D} {vs : List V} {is : List Int}, RepL K β Z ds vs → asInts ds = some is → vs = is.map V.int
  | _, _, is, .nil, h => by cases h; rfl
  | d :: ds, v :: vs, is, .cons r rs, h => by
    cases d with
    | int i =>
      cases r
      cases e : asInts ds with
      | none => simp [asInts, e] at h
      | some js =>
        simp only [asInts, e, Option.map_some, Option.some.injEq] at h
        subst h
        rw [asInts_rep rs e]; rfl
    | _ => cases h
theorem asBls_rep {K : PySem.W.Frag} {β : Addr} {Z : Hp} : ∀ {ds : List D} {vs : List V} {is : List Bool}, RepL K β Z ds vs → asBls ds = some is → vs = is.map V.bl
  | _, _, is, .nil, h => by cases h; rfl
  | d :: ds, v :: vs, is, .cons r rs, h => by
    cases d with
    | bl i =>
      cases r
      cases e : asBls ds with
      | none => simp [asBls, e] at h
      | some js =>
        simp only [asBls, e, Option.map_some, Option.some.injEq] at h
        subst h
        rw [asBls_rep rs e]; rfl
    | _ => cases h
def allD : List D → Option D
  | [.lst xs] => (asBls xs).map fun bs => .bl (bs.all id)
  | _ => none
def anyD : List D → Option D
  | [.lst xs] => (asBls xs).map fun bs => .bl (bs.any id)
  | _ => none
theorem o_all : OpL C (.builtin "all") allD := fun X hX S _ W Z H st xs dxs d Q zh sz bx r0 hg q => by
  match dxs, hg with
  | [.lst xs], hg =>
    obtain ⟨v, rfl, r⟩ := r0.one
    obtain ⟨a, vs, rfl, h, l⟩ := r
    obtain ⟨bs, e, rfl⟩ := Option.map_eq_some_iff.mp hg
    have ev := asBls_rep l e
    subst ev
    exact cU_of (cr_all hX.calm) ⟨a, bs, rfl, .inl (.inl h), fin_plain zh bx (.bl _) rfl q⟩
theorem o_any : OpL C (.builtin "any") anyD := fun X hX S _ W Z H st xs dxs d Q zh sz bx r0 hg q => by
  match dxs, hg with
  | [.lst xs], hg =>
    obtain ⟨v, rfl, r⟩ := r0.one
    obtain ⟨a, vs, rfl, h, l⟩ := r
    obtain ⟨bs, e, rfl⟩ := Option.map_eq_some_iff.mp hg
    have ev := asBls_rep l e
    subst ev
    exact cU_of (cr_any hX.calm) ⟨a, bs, rfl, .inl (.inl h), fin_plain zh bx (.bl _) rfl q⟩
def maxI : List Int → Option Int
  | [] => none
  | i :: is => some (is.foldl (fun a b => if a < b then b else a) i)
def minI : List Int → Option Int
  | [] => none
  | i :: is => some (is.foldl (fun a b => if b < a then b else a) i)
theorem maxI_uniq {ns : List Int} {m n : Int} (h : maxI ns = some n) (hm : m ∈ ns) (hb : ∀ y ∈ ns, y ≤ m) : m = n := by
  cases ns with
  | nil => cases h
  | cons i is =>
    have g : ∀ (is : List Int) (i : Int), (is.foldl (fun a b => if a < b then b else a) i) ∈ i :: is ∧ ∀ y ∈ i :: is, y ≤ is.foldl (fun a b => if a < b then b else a) i := by
      intro is
      induction is with
      | nil => intro i; exact ⟨by simp, fun y hy => by simp at hy; subst hy; exact Int.le_refl _⟩
      | cons j js ih =>
        intro i
        rw [List.foldl_cons]
        obtain ⟨h1, h2⟩ := ih (if i < j then j else i)
        constructor
        · rcases List.mem_cons.mp h1 with e | e
          · rw [e]; split <;> simp
          · exact List.mem_cons_of_mem _ (List.mem_cons_of_mem _ e)
        · intro y hy
          have h3 := h2 (if i < j then j else i) List.mem_cons_self
          have h4 : i ≤ (if i < j then j else i) ∧ j ≤ (if i < j then j else i) := by split <;> omega
          rcases List.mem_cons.mp hy with e | hy
          · rw [e]; exact Int.le_trans h4.1 h3
          · rcases List.mem_cons.mp hy with e | hy
            · rw [e]; exact Int.le_trans h4.2 h3
            · exact h2 y (List.mem_cons_of_mem _ hy)
    obtain ⟨h1, h2⟩ := g is i
    have e : is.foldl (fun a b => if a < b then b else a) i = n := Option.some.inj h
    rw [e] at h1 h2
    have a1 := h2 m hm
    have a2 := hb n h1
    omega
theorem minI_uniq {ns : List Int} {m n : Int} (h : minI ns = some n) (hm : m ∈ ns) (hb : ∀ y ∈ ns, m ≤ y) : m = n := by
  cases ns with
  | nil => cases h
  | cons i is =>
    have g : ∀ (is : List Int) (i : Int), (is.foldl (fun a b => if b < a then b else a) i) ∈ i :: is ∧ ∀ y ∈ i :: is, is.foldl (fun a b => if b < a then b else a) i ≤ y := by
      intro is
      induction is with
      | nil => intro i; exact ⟨by simp, fun y hy => by simp at hy; subst hy; exact Int.le_refl _⟩
      | cons j js ih =>
        intro i
        rw [List.foldl_cons]
        obtain ⟨h1, h2⟩ := ih (if j < i then j else i)
        constructor
        · rcases List.mem_cons.mp h1 with e | e
          · rw [e]; split <;> simp
          · exact List.mem_cons_of_mem _ (List.mem_cons_of_mem _ e)
        · intro y hy
          have h3 := h2 (if j < i then j else i) List.mem_cons_self
          have h4 : (if j < i then j else i) ≤ i ∧ (if j < i then j else i) ≤ j := by split <;> omega
          rcases List.mem_cons.mp hy with e | hy
          · rw [e]; exact Int.le_trans h3 h4.1
          · rcases List.mem_cons.mp hy with e | hy
            · rw [e]; exact Int.le_trans h3 h4.2
            · exact h2 y (List.mem_cons_of_mem _ hy)
    obtain ⟨h1, h2⟩ := g is i
    have e : is.foldl (fun a b => if b < a then b else a) i = n := Option.some.inj h
    rw [e] at h1 h2
    have a1 := h2 m hm
    have a2 := hb n h1
    omega
def maxD : List D → Option D
  | [.lst xs] => ((asInts xs).bind maxI).map .int
  | [.int i, .int j] => some (.int (if j > i then j else i))
  | _ => none
def minD : List D → Option D
  | [.lst xs] => ((asInts xs).bind minI).map .int
  | [.int i, .int j] => some (.int (if j < i then j else i))
  | _ => none
def sumD : List D → Option D
  | [.lst xs] => (asInts xs).map fun is => .int is.sum
  | _ => none
theorem o_max : OpL C (.builtin "max") maxD := fun X hX S _ W Z H st xs dxs d Q zh sz bx r0 hg q => by
  match dxs, hg with
  | [.lst xs], hg =>
    obtain ⟨v, rfl, r⟩ := r0.one
    obtain ⟨a, vs, rfl, h, l⟩ := r
    obtain ⟨n, e, rfl⟩ := Option.map_eq_some_iff.mp hg
    obtain ⟨ns, e1, e2⟩ := Option.bind_eq_some_iff.mp e
    have ev := asInts_rep l e1
    subst ev
    refine cU_of (cr_max hX.calm) ⟨a, ns, rfl, .inl (.inl h), ?_, fun m hm hb => ?_⟩
    · cases ns with
      | nil => cases e2
      | cons _ _ => simp
    · rw [maxI_uniq e2 hm hb]; exact fin_plain zh bx (.int _) rfl q
  | [.int i, .int j], hg =>
    cases hg
    obtain ⟨v, u, rfl, r, r'⟩ := r0.two
    cases r; cases r'
    exact cU_of (call_max2 hX.calm) ⟨i, j, rfl, fin_plain zh bx (.int _) rfl q⟩
theorem o_min : OpL C (.builtin "min") minD := fun X hX S _ W Z H st xs dxs d Q zh sz bx r0 hg q => by
  match dxs, hg with
  | [.lst xs], hg =>
    obtain ⟨v, rfl, r⟩ := r0.one
    obtain ⟨a, vs, rfl, h, l⟩ := r
    obtain ⟨n, e, rfl⟩ := Option.map_eq_some_iff.mp hg
    obtain ⟨ns, e1, e2⟩ := Option.bind_eq_some_iff.mp e
    have ev := asInts_rep l e1
    subst ev
    refine cU_of (cr_min hX.calm) ⟨a, ns, rfl, .inl (.inl h), ?_, fun m hm hb => ?_⟩
    · cases ns with
      | nil => cases e2
      | cons _ _ => simp
    · rw [minI_uniq e2 hm hb]; exact fin_plain zh bx (.int _) rfl q
  | [.int i, .int j], hg =>
    cases hg
    obtain ⟨v, u, rfl, r, r'⟩ := r0.two
    cases r; cases r'
    exact cU_of (call_min2 hX.calm) ⟨i, j, rfl, fin_plain zh bx (.int _) rfl q⟩
theorem o_sum : OpL C (.builtin "sum") sumD := fun X hX S _ W Z H st xs dxs d Q zh sz bx r0 hg q => by
  match dxs, hg with
  | [.lst xs], hg =>
    obtain ⟨v, rfl, r⟩ := r0.one
    obtain ⟨a, vs, rfl, h, l⟩ := r
    obtain ⟨ns, e1, rfl⟩ := Option.map_eq_some_iff.mp hg
    have ev := asInts_rep l e1
    subst ev
    exact cU_of (cr_sum hX.calm) ⟨a, ns, rfl, .inl (.inl h), fin_plain zh bx (.int _) rfl q⟩
/-! ### isinstance -/
def tyName : D → Option String
  | .non => some "NoneType"
  | .bl _ => some "bool"
  | .int _ => some "int"
  | .str _ => some "str"
  | .tup _ => some "tuple"
  | .lst _ => some "list"
  | .dct _ => some "dict"
  | .box => none
theorem tyX_of {K : PySem.W.Frag} {β : Addr} {Z H : Hp} {d : D} {v : V} {n : String} (s : Sub Z H) (r : Rep1 K β Z H d v) (h : tyName d = some n) : TyX K H v (.type n) := by
  cases d with
  | non => cases h; cases r; exact .base .non
  | bl b => cases h; cases r; exact .base (.bl b)
  | int i => cases h; cases r; exact .base (.int i)
  | str x => cases h; cases r; exact .base (.str x)
  | tup xs =>
    cases h
    cases r with
    | tup hq l =>
      rcases hq with hq | ⟨o, its, n, hk, hc, _⟩
      · exact .base (.tup (s _ _ hq))
      · exact .kTuple hk hc
  | lst xs => cases h; obtain ⟨a, vs, rfl, hq, l⟩ := r; exact .base (.lst hq)
  | dct xs =>
    cases h
    obtain ⟨a, rfl, ⟨kvs, hq, l⟩ | ⟨kvs, hq, l⟩⟩ := r
    · exact .base (.dK hq)
    · exact .base (.dT hq)
  | box => cases h
end
section
variable {S : Type} [BoxS S] {C : Stat} {Γ : SCx} {e a b : Expr} {es : List Expr} {m ma mb : M S D} {md : Md} {pos p p2 : Pos} {x : Str}
def isiD (T : String) (d : D) : Option D := (tyName d).bind fun n => (kitB n T).map .bl
theorem Ok.isinst {T : String} {y : Str} (ha : Ok .V C Γ a ma) (hg : C.sc.names.lookup ("isinstance" : Str) = some .globalImplicit) (hm : C.G.mg "isinstance" = none) (hgT : C.sc.names.lookup y = some .globalImplicit) (hmT : C.G.mg y = none)
    (hvT : bootBuiltins y = some (.type T)) (hn : y ≠ "__name__" := by decide) (hdb : (y == ("__debug__" : Str)) = false := by decide) (hp : plainArg a = true := by rfl) (hvI : bootBuiltins "isinstance" = some (.builtin "isinstance") := by decide +kernel) :
    Ok .E C Γ (.Call (.Name "isinstance" p) [a, .Name y p2] [] pos) (bnd ma fun x => lift (isiD T x)) := fun X hX W σ Z H st d st' Q r hm' q => by
  obtain ⟨x, st1, h1, hm1⟩ := bnd_some hm'
  obtain ⟨hg', rfl⟩ := lift_some hm1
  obtain ⟨n, hn', hb'⟩ := Option.bind_eq_some_iff.mp hg'
  obtain ⟨b, hk, rfl⟩ := Option.map_eq_some_iff.mp hb'
  refine tU_of (pe_callB call_isi (hX.glob hg) (hX.none hm) hvI (pa_cons peU (pa_cons (pe_bltn (v := .ty T) (hX.glob hgT) (hX.none hmT) hvT rfl hn hdb) pa_nil) (starEach_plain _ hp)) (by decide) (by decide) (starEach_plain _ hp)) ?_
  refine ha X hX W σ Z H st x _ _ r h1 fun v Z1 H1 s1 b1 r1 => ?_
  exact ⟨v, .ty T, .type n, .type T, b, rfl, .ty T, tyX_of s1.sub r1.1 hn', kit_ty hk, q _ Z1 H1 s1 b1 (.bl b)⟩
end
end Sn

namespace Sn
open PySem PySem.Spec PyProof.Rows L2

/-! ### subscripts, slices -/
theorem atI_rep {K : PySem.W.Frag} {β : Addr} {Z : Hp} {ds : List D} {vs : List V} {i : Int} {d : D} (r : RepL K β Z ds vs) (h : atI ds i = some d) : ∃ v, atI vs i = some v ∧ Rep K β Z d v := by
  unfold atI at h ⊢
  rw [← r.length]
  cases e : ixN ds.length i with
  | none => rw [e] at h; cases h
  | some j =>
    rw [e] at h
    obtain ⟨v, h1, h2⟩ := r.get (show ds[j]? = some d from h)
    exact ⟨v, h1, h2⟩
def ixD (d k : D) : Option D :=
  match d, k with
  | .tup xs, .int i => atI xs i
  | .lst xs, .int i => atI xs i
  | .str z, .int i => if z.length ≤ sizeLine then (atI z.cps.toList i).map fun c => .str ⟨#[c]⟩ else none
  | _, _ => none
def cutL {α : Type} (xs : List α) (lo hi : Option Int) : List α := (xs.drop (HT.sIx xs.length 0 lo)).take (HT.sIx xs.length xs.length hi - HT.sIx xs.length 0 lo)
theorem cutL_rep {K : PySem.W.Frag} {β : Addr} {Z : Hp} {ds : List D} {vs : List V} (r : RepL K β Z ds vs) (lo hi : Option Int) : RepL K β Z (cutL ds lo hi) (cutV vs lo hi) := by
  unfold cutL cutV
  rw [r.length]
  exact (r.drop _).take _
def slD (d : D) (lo hi : Option Int) : Option D :=
  match d with
  | .tup xs => some (.tup (cutL xs lo hi))
  | .lst xs => some (.lst (cutL xs lo hi))
  | _ => none
section
variable {S : Type} [BoxS S] {C : Stat} {Γ : SCx} {e a b : Expr} {es : List Expr} {m ma mb : M S D} {md : Md} {pos p p2 : Pos} {x : Str}
theorem Ok.ix (ha : Ok .V C Γ a ma) (hb : Ok .V C Γ b mb) (hs : PlainIx b := by exact fun _ _ => rfl) : Ok .E C Γ (.Subscript a b pos) (bnd ma fun x => bnd mb fun y => lift (ixD x y)) := fun X hX W σ Z H st d st' Q r hm q => by
  obtain ⟨x, st1, h1, hm1⟩ := bnd_some hm
  obtain ⟨y, st2, h2, hm2⟩ := bnd_some hm1
  obtain ⟨hg, rfl⟩ := lift_some hm2
  have hr := ((ix_list (X := X)).or ix_tup).or ix_str
  refine tU_of (pe_ix hr peU peU hs) (Ok.two ha hb hX r h1 h2 fun vx vy Z2 H2 s2 b2 r1 r2 => ?_)
  cases y with
  | int i =>
    cases r2.1
    cases x with
    | tup xs =>
      cases r1.1 with | tup hq l =>
        obtain ⟨v, e1, e2⟩ := atI_rep l (show atI xs i = some d from hg)
        exact .inl (.inr ⟨_, _, i, v, rfl, rfl, s2.sub.sqT hq, e1, q v Z2 H2 s2 b2 e2⟩)
    | lst xs =>
      obtain ⟨a, vs, rfl, hq, l⟩ := r1.1
      obtain ⟨v, e1, e2⟩ := atI_rep l (show atI xs i = some d from hg)
      exact .inl (.inl ⟨a, vs, i, v, rfl, rfl, .inl (.inl hq), e1, q v Z2 H2 s2 b2 e2⟩)
    | str z =>
      have hg' : (if z.length ≤ sizeLine then (atI z.cps.toList i).map fun c => D.str ⟨#[c]⟩ else none) = some d := hg
      split at hg'
      · obtain ⟨c, e1, rfl⟩ := Option.map_eq_some_iff.mp hg'
        cases r1.1
        exact .inr ⟨z, i, c, rfl, rfl, by assumption, e1, q _ Z2 H2 s2 b2 (.str _)⟩
      · cases hg'
    | _ => cases hg
  | _ => cases x <;> cases hg
def OkO {S : Type} [BoxS S] (C : Stat) (Γ : SCx) (oe : Option Expr) (m : M S (Option Int)) : Prop :=
  ∀ X, CtxP C X → ∀ (W : Wd) (σ : L2.St) (Z H : Hp) (st : S) (d : Option Int) (st' : S) (Q : Option Int → Hp → Prop), SR X.K W Γ σ Z H st → m st = some (d, st') →
    (∀ Z' H', Stp W Z H Z' H' → BoxS.R st' W.β W.γ H' → Q d H') → ∃ t, PO X oe t ∧ t σ H Q
theorem OkO.none : OkO (S := S) C Γ none (ret none) := fun X hX W σ Z H st d st' Q r hm q => by
  obtain ⟨rfl, rfl⟩ := ret_some hm
  exact ⟨_, po_none, q Z H r.refl r.box⟩
def asI {S : Type} : D → M S Int
  | .int i => ret i
  | _ => stuck
theorem asI_some {S : Type} {d : D} {s s' : S} {b : Int} (h : asI d s = some (b, s')) : d = .int b ∧ s' = s := by
  cases d with
  | int c => obtain ⟨rfl, rfl⟩ := ret_some h; exact ⟨rfl, rfl⟩
  | _ => exact (stuck_some (S := S) (α := Int) (s := s) h).elim
theorem OkO.some (ha : Ok .V C Γ a ma) : OkO C Γ (some a) (bnd (bnd ma asI) fun i => ret (some i)) := fun X hX W σ Z H st d st' Q r hm q => by
  obtain ⟨i, st1, h1, hm1⟩ := bnd_some hm
  obtain ⟨x, st2, h2, h3⟩ := bnd_some h1
  obtain ⟨rfl, rfl⟩ := asI_some h3
  obtain ⟨rfl, rfl⟩ := ret_some hm1
  refine ⟨_, po_some peU, ha X hX W σ Z H st _ _ _ r h2 fun v Z1 H1 s1 b1 r1 => ?_⟩
  cases r1.1
  exact ⟨i, rfl, q Z1 H1 s1 b1⟩
theorem Ok.sl {lo hi : Option Expr} {ml mh : M S (Option Int)} (ha : Ok .V C Γ a ma) (hl : OkO C Γ lo ml) (hh : OkO C Γ hi mh) : Ok .N C Γ (.Subscript a (.Slice lo hi none p2) pos) (bnd ma fun x => bnd ml fun i => bnd mh fun j => lift (slD x i j)) := fun X hX W σ Z H st d st' Q r hm q => by
  obtain ⟨x, st1, h1, hm1⟩ := bnd_some hm
  obtain ⟨i, st2, h2, hm2⟩ := bnd_some hm1
  obtain ⟨j, st3, h3, hm3⟩ := bnd_some hm2
  obtain ⟨hg, rfl⟩ := lift_some hm3
  have hr := (sl_tupA (X := X)).or sl_list
  -- the parts' readings, for any end
  let tl : TO := fun σ H Q => ∀ (pins : List (Addr × Obj)) (s : Shared), Inv X pins σ H s → wpAny (model X.prog X.w) X.A (evalPart lo X.env) (fun u s' => ∃ o H', Inv X pins σ H' s' ∧ IsPart u o ∧ Q o H') X.xe s
  let th : TO := fun σ H Q => ∀ (pins : List (Addr × Obj)) (s : Shared), Inv X pins σ H s → wpAny (model X.prog X.w) X.A (evalPart hi X.env) (fun u s' => ∃ o H', Inv X pins σ H' s' ∧ IsPart u o ∧ Q o H') X.xe s
  have pl : PO X lo tl := ⟨fun pins s σ H Q I h => h pins s I⟩
  have ph : PO X hi th := ⟨fun pins s σ H Q I h => h pins s I⟩
  refine tU_of (pe_slice hr peU pl ph) ?_
  refine ha X hX W σ Z H st x st1 _ r h1 fun vx Z1 H1 s1 b1 r1 => ?_
  intro pins1 sh1 I1
  obtain ⟨t1, p1, q1⟩ := hl X hX W σ Z1 H1 st1 i st2 (fun o H2 => th σ H2 fun o2 H3 => (rSlA X.K vx o o2 H3 Q ∨ rSlL X.K vx o o2 H3 Q)) (r.step s1 b1) h2 fun Z2 H2 s2 b2 => by
    intro pins2 sh2 I2
    obtain ⟨t2, p2, q2⟩ := hh X hX W σ Z2 H2 st2 j _ (fun o2 H3 => (rSlA X.K vx i o2 H3 Q ∨ rSlL X.K vx i o2 H3 Q)) ((r.step s1 b1).step s2 b2) h3 fun Z3 H3 s3 b3 => by
      have s13 := (s1.trans s2).trans s3
      have r3 : Res X.K W .V H Z3 H3 x vx := (r1.stp s2).stp s3
      have q' : ∀ v Z' H', Stp W Z3 H3 Z' H' → BoxS.R _ W.β W.γ H' → Res X.K W .N H3 Z' H' d v → Q v H' := fun v Z' H' s' b' r' => q v Z' H' (s13.trans s') b' (r'.back r.box b3 s13)
      cases x with
      | tup xs =>
        cases hg
        cases r3.1 with | tup hq l =>
          refine .inl ⟨_, _, rfl, s13.sub.sqT hq, fun hw => ?_, fun hw p hp => fin_tup s13.zh b3 hp (cutL_rep l i j) (Nat.le_trans (cutV_length _ _ _) ((s13.sz r.sz).tup (s13.sub.tupAt hq))) q'⟩
          refine fin_plain s13.zh b3 (.tup hq ?_) rfl q'
          have e : cutL xs i j = xs := by
            unfold cutL
            rw [← l.length] at hw
            rw [hw.1, hw.2]; simp
          rw [e]; exact l
      | lst xs =>
        cases hg
        obtain ⟨a, vs, rfl, hq, l⟩ := r3.1
        exact .inr ⟨a, vs, rfl, .inl (.inl hq), fun p hp => fin_lst s13.zh b3 hp (cutL_rep l i j) (Nat.le_trans (cutV_length _ _ _) ((s13.sz r.sz).lst hq)) q'⟩
      | _ => cases hg
    exact p2.run pins2 sh2 σ H2 _ I2 q2
  exact p1.run pins1 sh1 σ H1 _ I1 q1
end

/-! ### what is walked -/
def iterD : D → Option (List D)
  | .tup xs => some xs
  | .lst xs => some xs
  | _ => none
def iterM {S : Type} (d : D) : M S (List D) := fun s => (iterD d).map fun xs => (xs, s)
theorem iterM_some {S : Type} {d : D} {s s' : S} {xs : List D} (h : iterM d s = some (xs, s')) : iterD d = some xs ∧ s' = s := by
  unfold iterM at h
  cases e : iterD d with
  | none => rw [e] at h; cases h
  | some x => rw [e] at h; simp only [Option.map_some, Option.some.injEq, Prod.mk.injEq] at h; exact ⟨by rw [h.1], h.2.symm⟩
section
variable {S : Type} [BoxS S] {C : Stat} {Γ : SCx} {e a b tg : Expr} {es : List Expr} {m ma mb : M S D} {md : Md} {pos p p2 : Pos} {x : Str}
theorem yld_lst {X : Cx} {W : Wd} {Z H : Hp} {a : Addr} {vs : List V} {ds : List D} (nb : ¬ W.bx a) (h : H a = some (.lst vs)) (l : RepL X.K W.β Z ds vs) : Yld X.K W (Itl X.K a) ds (fun b => b = a) Z H := by
  refine ⟨fun b e => by subst e; exact ⟨⟨_, h⟩, nb⟩, fun i Z2 H2 st sz zh ka _ bx => ⟨fun hi => ?_, fun d hd => ?_⟩⟩
  · exact ⟨vs, .inl (.inl (ka a _ rfl h)), by rw [← l.length]; exact hi⟩
  · obtain ⟨v, h1, h2⟩ := l.get hd
    refine ⟨⟨vs, v, .inl (.inl (ka a _ rfl h)), h1⟩, fun x H3 y => ?_⟩
    obtain ⟨rfl, y⟩ := y
    have e := y vs (.inl (.inl (ka a _ rfl h)))
    rw [h1] at e; cases e
    exact ⟨Z2, Stp.refl zh, bx, h2.mono sz⟩
theorem yld_tup {X : Cx} {W : Wd} {Z H : Hp} {a : Addr} {vs : List V} {ds : List D} (h : TupAt X.K Z a vs) (l : RepL X.K W.β Z ds vs) : Yld X.K W (Itt X.K a) ds (fun _ => False) Z H := by
  refine ⟨fun b e => e.elim, fun i Z2 H2 st sz zh ka _ bx => ?_⟩
  have h2 : SqT X.K H2 a vs := (subOf zh).sqT (sz.tupAt h)
  refine ⟨fun hi => ⟨vs, h2, by rw [← l.length]; exact hi⟩, fun d hd => ?_⟩
  obtain ⟨v, h1, hr⟩ := l.get hd
  refine ⟨⟨vs, v, h2, h1⟩, fun x H3 y => ?_⟩
  obtain ⟨rfl, y⟩ := y
  have e := y vs h2
  rw [h1] at e; cases e
  exact ⟨Z2, Stp.refl zh, bx, hr.mono sz⟩
theorem OkI.val {bb : Bool} (ha : Ok md C Γ a ma) (hmd : md = .V → bb = false) : OkI bb C Γ tg a (bnd ma iterM) := fun X hX W σ Z H st xs st' R r hm q => by
  obtain ⟨d, st1, h1, hm1⟩ := bnd_some hm
  obtain ⟨hi, rfl⟩ := iterM_some hm1
  cases d with
  | tup ds =>
    cases hi
    refine tUI_of (pi_tup peU) (ha X hX W σ Z H st _ _ _ r h1 fun v Z1 H1 s1 b1 r1 => ?_)
    have r2 := r1.view s1.zh
    cases r2.1 with | tup hq l =>
      exact ⟨_, rfl, ⟨_, s1.sub.sqT hq⟩, q _ _ Z1 H1 s1 b1 (yld_tup hq l) fun _ _ h => h.elim⟩
  | lst ds =>
    cases hi
    refine tUI_of (pi_list peU) (ha X hX W σ Z H st _ _ _ r h1 fun v Z1 H1 s1 b1 r1 => ?_)
    have r2 := r1.view s1.zh
    obtain ⟨p, vs, rfl, hq, l⟩ := r2.1
    refine ⟨p, rfl, ⟨vs, .inl (.inl hq)⟩, q _ _ Z1 H1 s1 b1 (yld_lst (r2.2 p rfl rfl) hq l) fun hb a ea ho => ?_⟩
    subst ea
    cases md with
    | V => rw [hmd rfl] at hb; cases hb
    | E =>
      cases r1 with | lst hz _ =>
        obtain ⟨i, d', g1, g2⟩ := ho
        obtain ⟨b', e', zb, _, _, _⟩ := (r.step s1 b1).own i d' g1
        rw [g2] at e'; cases e'
        rw [zb] at hz; cases hz
    | N =>
      obtain ⟨f1, _, _⟩ := r1.2 a rfl rfl
      obtain ⟨o, ho'⟩ := r.ownThere ho
      rw [f1] at ho'; cases ho'
  | _ => cases hi
def rng (lo hi : Int) : List D := (List.range (hi - lo).toNat).map fun k : Nat => .int (lo + (k : Int))
theorem yld_rng {K : PySem.W.Frag} {W : Wd} {Z H : Hp} {lo hi : Int} : Yld K W (Itr lo (hi - lo).toNat) (rng lo hi) (fun _ => False) Z H := by
  refine ⟨fun b e => e.elim, fun i Z2 H2 st sz zh ka _ bx => ⟨fun h => ?_, fun d hd => ?_⟩⟩
  · unfold rng at h
    rw [List.length_map, List.length_range] at h
    exact h
  · unfold rng at hd
    rw [List.getElem?_map] at hd
    by_cases hlt : i < (hi - lo).toNat
    · rw [List.getElem?_range hlt] at hd
      cases hd
      refine ⟨hlt, fun x H3 y => ?_⟩
      obtain ⟨rfl, rfl⟩ := y
      exact ⟨Z2, Stp.refl zh, bx, .int _⟩
    · rw [List.getElem?_eq_none (by simpa using hlt)] at hd; cases hd
/-- range(..) -/
def rngM {S : Type} : List D → M S (List D)
  | [.int j] => if -(2 ^ 62) ≤ j ∧ j < 2 ^ 62 then ret (rng 0 j) else stuck
  | [.int i, .int j] => if -(2 ^ 62) ≤ i ∧ i < 2 ^ 62 ∧ -(2 ^ 62) ≤ j ∧ j < 2 ^ 62 then ret (rng i j) else stuck
  | _ => stuck
theorem OkI.range1 {bb : Bool} (ha : Ok .V C Γ a ma) (hg : C.sc.names.lookup ("range" : Str) = some .globalImplicit) (hm : C.G.mg "range" = none) (hp : plainArg a = true := by rfl) : OkI bb C Γ tg (.Call (.Name "range" p) [a] [] pos) (bnd ma fun x => rngM [x]) := fun X hX W σ Z H st xs st' R r hm' q => by
  obtain ⟨d, st1, h1, hm1⟩ := bnd_some hm'
  cases d with
  | int j =>
    have hm2 : (if -(2 ^ 62) ≤ j ∧ j < 2 ^ 62 then ret (rng 0 j) else stuck : M S (List D)) st1 = some (xs, st') := hm1
    split at hm2
    · rename_i hc
      obtain ⟨rfl, rfl⟩ := ret_some hm2
      refine tUI_of (pi_range1 (hX.glob hg) (hX.none hm) (pa_cons peU pa_nil (starEach_plain _ hp)) (starEach_plain _ hp)) (ha X hX W σ Z H st _ _ _ r h1 fun v Z1 H1 s1 b1 r1 => ?_)
      cases r1.1
      refine ⟨j, rfl, hc.1, hc.2, ?_⟩
      have y := yld_rng (K := X.K) (W := W) (Z := Z1) (H := H1) (lo := 0) (hi := j)
      rw [show (j - 0).toNat = j.toNat by rw [Int.sub_zero]] at y
      exact q _ _ Z1 H1 s1 b1 y fun _ _ h => h.elim
    · exact (stuck_some hm2).elim
  | _ => exact (stuck_some (S := S) (α := List D) (s := st1) hm1).elim
theorem OkI.range2 {bb : Bool} (ha : Ok .V C Γ a ma) (hb : Ok .V C Γ b mb) (hg : C.sc.names.lookup ("range" : Str) = some .globalImplicit) (hm : C.G.mg "range" = none) (hp : plainArg a = true := by rfl) (hp2 : plainArg b = true := by rfl) :
    OkI bb C Γ tg (.Call (.Name "range" p) [a, b] [] pos) (bnd ma fun x => bnd mb fun y => rngM [x, y]) := fun X hX W σ Z H st xs st' R r hm' q => by
  obtain ⟨d, st1, h1, hm1⟩ := bnd_some hm'
  obtain ⟨d2, st2, h2, hm2⟩ := bnd_some hm1
  cases d with
  | int i => cases d2 with
    | int j =>
      have hm3 : (if -(2 ^ 62) ≤ i ∧ i < 2 ^ 62 ∧ -(2 ^ 62) ≤ j ∧ j < 2 ^ 62 then ret (rng i j) else stuck : M S (List D)) st2 = some (xs, st') := hm2
      split at hm3
      · rename_i hc
        obtain ⟨rfl, rfl⟩ := ret_some hm3
        refine tUI_of (pi_range2 (hX.glob hg) (hX.none hm) (pa_cons peU (pa_cons peU pa_nil (starEach_plain _ hp2)) (starEach_plain _ hp)) (by rw [starEach_plain _ hp, starEach_plain _ hp2]; rfl) (by rw [starEach_plain _ hp2]; rfl)) ?_
        refine Ok.two ha hb hX r h1 h2 fun vx vy Z2 H2 s2 b2 r1 r2 => ?_
        cases r1.1
        cases r2.1
        exact ⟨i, j, rfl, hc, q _ _ Z2 H2 s2 b2 yld_rng fun _ _ h => h.elim⟩
      · exact (stuck_some hm3).elim
    | _ => exact (stuck_some (S := S) (α := List D) (s := st2) hm2).elim
  | _ => exact (stuck_some (S := S) (α := List D) (s := st2) hm2).elim
end

/-! ### own lists change -/
section
variable {S : Type} [BoxS S] {C : Stat} {Γ : SCx} {e a b c : Expr} {rest : List Stmt} {m me : M S D} {pos p ap cp : Pos} {τ l : Type} {T : Tg τ l} {i : Nat} {x : Str} {d : D}
/-- behind a change of the own object at slot i -/
theorem bst_mut {X : Cx} {W : Wd} {σ : L2.St} {Z H : Hp} {st : S} {p : Addr} {o : HO} (r : SR X.K W Γ σ Z H st) (h0 : Γ[i]? = some (some (.own d))) (hp : σ[i]? = some (some (.ref p))) (so : SzO o) : BSt W Γ σ Z H Z (upd H p o) :=
  ⟨Sub.refl _, fun a u h _ no => by
    have hne : a ≠ p := fun e => no ⟨i, d, h0, by rw [e]; exact hp⟩
    rw [upd_ne hne]; exact h, fun _ _ h => .inl h, fun h => h.upd so⟩
def appD (d y : D) : Option D :=
  match d with
  | .lst xs => if xs.length < sizeLine then some (.lst (xs ++ [y])) else none
  | _ => none
theorem OkB.app {k : D → M S (Fl τ l)} (hN : C.N[i]? = some x) (hv : Vis C.sc x) (h0 : Γ[i]? = some (some (.own d))) (he : Ok .E C Γ e me) (hb : ∀ d', OkB C (Γ.set i (some (.own d'))) rest T (k d'))
    (hp : plainArg e = true := by rfl) (hd : (x == ("__debug__" : Str)) = false := by decide) (hcd : (x == ("__classdict__" : Str)) = false := by decide) (hline : (ap.endLine == cp.line) = true := by rfl)
    (hs : ∀ env : Env, swapsWith (.Call (.Attribute (.Name x p) "append" ap) [e] [] cp) none pos.line env = pure false := by intro _; rfl) :
    OkB C Γ (.Expr (.Call (.Attribute (.Name x p) "append" ap) [e] [] cp) pos :: rest) T (bnd me fun y => bnd (lift (appD d y)) k) := fun X hX W σ Z H st f st' D r hm q => by
  obtain ⟨y, st1, h1, hm1⟩ := bnd_some hm
  obtain ⟨d', st2, h2, hm2⟩ := bnd_some hm1
  obtain ⟨hg, rfl⟩ := lift_some h2
  cases d with
  | lst xs =>
    have hg' : (if xs.length < sizeLine then some (Sn.D.lst (xs ++ [y])) else none) = some d' := hg
    split at hg'
    · rename_i hl
      cases hg'
      refine tUS_of (pss_cons (ps_expr (pe_bm PySem.F.plainAttrs_list PySem.F.slot_list_append PySem.F.type_list_append mt_append (pe_var (i := i) (by rw [hX.N]; exact hN) (by rw [hX.sc]; exact hv) hd hcd) (pa_cons peU pa_nil (starEach_plain _ hp)) rfl (by rw [starEach_plain _ hp]; rfl) hline (starEach_plain _ hp)) (hs _)) pssU) ?_
      obtain ⟨pa, ep, z, nb, mu, a', vs, ea, hq, lr⟩ := r.own i _ h0
      cases ea
      refine ⟨_, ep, .inl ⟨rfl, _, .inl (.inl hq)⟩, ?_⟩
      refine he X hX W σ Z H st y _ _ r h1 fun v Z1 H1 s1 b1 r1 => ?_
      have rr := r.step s1 b1
      have hq1 := s1.hh _ _ hq nb
      have ll := lr.length
      refine ⟨pa, vs, v, rfl, rfl, hq1, by omega, ?_⟩
      have so : SzO (.lst (vs ++ [v])) := by
        show (vs ++ [v]).length ≤ sizeLine
        rw [List.length_append, List.length_singleton]; omega
      refine hb _ X hX W σ Z1 (upd H1 pa (.lst (vs ++ [v]))) _ f st' D (rr.mut (d' := Sn.D.lst (xs ++ [y])) h0 ep rfl ⟨pa, _, rfl, upd_same, (lr.mono s1.zz).append (.cons r1 .nil)⟩ so) hm2 ?_
      exact (q.after s1.bst OwLe.refl (Γ1 := Γ) (σ1 := σ)).after (bst_mut rr h0 ep so) fun a h => .inl (own_mut h0 h)
    · cases hg'
  | _ => cases hg
def extD (d y : D) : Option D :=
  match d, y with
  | .lst xs, .lst ys => if xs.length + ys.length ≤ sizeLine then some (.lst (xs ++ ys)) else none
  | _, _ => none
theorem OkB.ext {k : D → M S (Fl τ l)} (hN : C.N[i]? = some x) (hv : Vis C.sc x) (h0 : Γ[i]? = some (some (.own d))) (he : Ok .V C Γ e me) (hb : ∀ d', OkB C (Γ.set i (some (.own d'))) rest T (k d'))
    (hp : plainArg e = true := by rfl) (hd : (x == ("__debug__" : Str)) = false := by decide) (hcd : (x == ("__classdict__" : Str)) = false := by decide) (hline : (ap.endLine == cp.line) = true := by rfl)
    (hs : ∀ env : Env, swapsWith (.Call (.Attribute (.Name x p) "extend" ap) [e] [] cp) none pos.line env = pure false := by intro _; rfl) :
    OkB C Γ (.Expr (.Call (.Attribute (.Name x p) "extend" ap) [e] [] cp) pos :: rest) T (bnd me fun y => bnd (lift (extD d y)) k) := fun X hX W σ Z H st f st' D r hm q => by
  obtain ⟨y, st1, h1, hm1⟩ := bnd_some hm
  obtain ⟨d', st2, h2, hm2⟩ := bnd_some hm1
  obtain ⟨hg, rfl⟩ := lift_some h2
  cases d with
  | lst xs => cases y with
    | lst ys =>
      have hg' : (if xs.length + ys.length ≤ sizeLine then some (Sn.D.lst (xs ++ ys)) else none) = some d' := hg
      split at hg'
      · rename_i hl
        cases hg'
        refine tUS_of (pss_cons (ps_expr (pe_bm PySem.F.plainAttrs_list PySem.F.slot_list_extend PySem.F.type_list_extend mt_extend (pe_var (i := i) (by rw [hX.N]; exact hN) (by rw [hX.sc]; exact hv) hd hcd) (pa_cons peU pa_nil (starEach_plain _ hp)) rfl (by rw [starEach_plain _ hp]; rfl) hline (starEach_plain _ hp)) (hs _)) pssU) ?_
        obtain ⟨pa, ep, z, nb, mu, a', vs, ea, hq, lr⟩ := r.own i _ h0
        cases ea
        refine ⟨_, ep, .inl ⟨rfl, _, .inl (.inl hq)⟩, ?_⟩
        refine he X hX W σ Z H st _ _ _ r h1 fun v Z1 H1 s1 b1 r1 => ?_
        obtain ⟨pb, us, rfl, hqb, lb⟩ := r1.1
        have rr := r.step s1 b1
        have hq1 := s1.hh _ _ hq nb
        have ll := lr.length
        have lb' := lb.length
        refine ⟨pa, pb, vs, us, rfl, rfl, hq1, hqb, by omega, ?_⟩
        have so : SzO (.lst (vs ++ us)) := by
          show (vs ++ us).length ≤ sizeLine
          rw [List.length_append]; omega
        refine hb _ X hX W σ Z1 (upd H1 pa (.lst (vs ++ us))) _ f st' D (rr.mut (d' := Sn.D.lst (xs ++ ys)) h0 ep rfl ⟨pa, _, rfl, upd_same, (lr.mono s1.zz).append lb⟩ so) hm2 ?_
        exact (q.after s1.bst OwLe.refl (Γ1 := Γ) (σ1 := σ)).after (bst_mut rr h0 ep so) fun a h => .inl (own_mut h0 h)
      · cases hg'
    | _ => cases hg
  | _ => cases hg
/-- x[k] = e -/
def setD (d k y : D) : Option D :=
  match d, k with
  | .lst xs, .int i => (ixN xs.length i).map fun j => .lst (xs.set j y)
  | _, _ => none
theorem OkB.setIx {mk : M S D} {k : D → M S (Fl τ l)} {pp : Pos} (hN : C.N[i]? = some x) (hv : Vis C.sc x) (h0 : Γ[i]? = some (some (.own d))) (he : Ok .E C Γ e me) (hk : Ok .V C Γ b mk) (hb : ∀ d', OkB C (Γ.set i (some (.own d'))) rest T (k d'))
    (hd : (x == ("__debug__" : Str)) = false := by decide) (hcd : (x == ("__classdict__" : Str)) = false := by decide)
    (hs : ∀ env : Env, swapsWithSole [.Subscript (.Name x p) b pp] e pos.line env = pure false := by intro _; rfl) (hw : ∀ env : Env, swappedStores [.Subscript (.Name x p) b pp] e env = pure none := by intro _; rfl)
    (ha : ∀ (env : Env) v, assign (.Subscript (.Name x p) b pp) env v = (do
      let ov ← holding [v] (eval (.Name x p) env)
      let iv ← holding [v, ov] (eval b env)
      standAt pp
      holding [v, ov, iv] (setItem ov iv v)
      release [v, ov, iv] []) := by intro _ _; rfl) :
    OkB C Γ (.Assign [.Subscript (.Name x p) b pp] e pos :: rest) T (bnd me fun y => bnd mk fun j => bnd (lift (setD d j y)) k) := fun X hX W σ Z H st f st' D r hm q => by
  obtain ⟨y, st1, h1, hm1⟩ := bnd_some hm
  obtain ⟨j, st2, h2, hm2⟩ := bnd_some hm1
  obtain ⟨d', st3, h3, hm3⟩ := bnd_some hm2
  obtain ⟨hg, rfl⟩ := lift_some h3
  cases d with
  | lst xs => cases j with
    | int ii =>
      obtain ⟨jj, ej, rfl⟩ := Option.map_eq_some_iff.mp hg
      refine tUS_of (pss_cons (ps_asg peU (pg_sub (pe_var (i := i) (by rw [hX.N]; exact hN) (by rw [hX.sc]; exact hv) hd hcd) peU set_list (ha _)) (hs _) (hw _)) pssU) ?_
      refine he X hX W σ Z H st y _ _ r h1 fun v Z1 H1 s1 b1 r1 => ?_
      have rr := r.step s1 b1
      obtain ⟨pa, ep, z, nb, mu, a', vs, ea, hq, lr⟩ := rr.own i _ h0
      cases ea
      refine ⟨_, ep, ?_⟩
      refine hk X hX W σ Z1 H1 st1 _ _ _ rr h2 fun vj Z2 H2 s2 b2 r2 => ?_
      cases r2.1
      have rr2 := rr.step s2 b2
      have hq1 := s2.hh _ _ hq nb
      have ll := lr.length
      refine ⟨pa, vs, ii, jj, rfl, rfl, hq1, by rw [← ll]; exact ej, ?_⟩
      have so : SzO (.lst (vs.set jj v)) := by
        show (vs.set jj v).length ≤ sizeLine
        rw [List.length_set]; exact rr2.sz.lst hq1
      refine hb _ X hX W σ Z2 (upd H2 pa (.lst (vs.set jj v))) _ f st' D (rr2.mut (d' := Sn.D.lst (xs.set jj y)) h0 ep rfl ⟨pa, _, rfl, upd_same, (lr.mono s2.zz).set jj (q := r1.mono s2.zz)⟩ so) hm3 ?_
      exact (q.after (s1.trans s2).bst OwLe.refl (Γ1 := Γ) (σ1 := σ)).after (bst_mut rr2 h0 ep so) fun a h => .inl (own_mut h0 h)
    | _ => cases hg
  | _ => cases hg
/-- x, y = e, f: two local names on a line -/
theorem swapped_two {env : Env} {y : Str} {px py pt pt2 : Pos} {kt k2 : Nat} {u v : Expr} (hk : env.scope.kind = .function) (hx : env.scope.names.lookup x = some .local) (hy : env.scope.names.lookup y = some .local) (hl : (px.line == py.line) = true)
    (hu : plainArg u = true) (hv : plainArg v = true) (hne : (y == x) = false) (hf : [u, v].all (foldedForSure 8) = false) (hc : [u, v].all (constantsAlone 8) = false) :
    swappedStores [.Tuple [.Name x px, .Name y py] kt pt] (.Tuple [u, v] k2 pt2) env = pure (some [x, y]) := by
  have kx : env.kindOf x = some .local := hx
  have ky : env.kindOf y = some .local := hy
  have hb : env.blockKind = .function := by unfold Env.blockKind; rw [hk]; rfl
  have hl' : (py.line == px.line) = true := by rw [beq_iff_eq] at hl ⊢; exact hl.symm
  unfold swappedStores
  have s1 : ([u, v].any fun | .Starred .. => true | _ => false) = false := by
    cases u <;> first | (cases hu; done) | (cases v <;> first | (cases hv; done) | rfl)
  simp only [hb, List.length_cons, List.length_nil, s1, List.head?_cons, Option.map_some, Option.getD_some, Expr.pos, List.filterMap_cons, List.filterMap_nil, kx, ky, hl', hf, hc, beq_self_eq_true, Bool.and_self, if_true]
  have hd : ([x, y].eraseDups).length = 2 := by
    simp [List.eraseDups, List.eraseDupsBy, List.eraseDupsBy.loop, hne]
  rw [if_neg (by decide), if_neg (by
    intro h
    simp only [List.any_cons, List.any_nil, Bool.or_false, Bool.or_eq_true] at h
    rcases h with h | h
    · cases u <;> first | (cases h; done) | (cases hu; done)
    · cases v <;> first | (cases h; done) | (cases hv; done)), hd]
  rfl
/-- x, y = e, f, stored from the right; each kept for good, or an own list -/
def mdEn (md : Md) (d : D) : En := match md with
  | .N => .own d
  | _ => .frz d
def okMd (md : Md) (d : D) : Bool := match md with
  | .N => isMut d
  | _ => true
theorem OkB.par2 {u v : Expr} {mu mv : M S D} {mdu mdv : Md} {j : Nat} {y : Str} {px py pt pt2 : Pos} {kt k2 : Nat} {k : D → D → M S (Fl τ l)} (hN : C.N[i]? = some x) (hN2 : C.N[j]? = some y) (hij : i ≠ j) (hfk : C.sc.kind = .function)
    (hx : C.sc.names.lookup x = some .local) (hy : C.sc.names.lookup y = some .local) (hu : Ok mdu C Γ u mu) (hv : Ok mdv C Γ v mv) (eu : mdu = .E ∨ mdu = .N) (ev : mdv = .E ∨ mdv = .N)
    (hb : ∀ d e, OkB C ((Γ.set i (some (mdEn mdu d))).set j (some (mdEn mdv e))) rest T (k d e))
    (hl : (px.line == py.line) = true := by rfl) (pu : plainArg u = true := by rfl) (pv : plainArg v = true := by rfl) (hne : (y == x) = false := by decide) (hf : [u, v].all (foldedForSure 8) = false := by rfl) (hc : [u, v].all (constantsAlone 8) = false := by rfl)
    (hs : ∀ env : Env, swapsWithSole [.Tuple [.Name x px, .Name y py] kt pt] (.Tuple [u, v] k2 pt2) pos.line env = pure false := by intro _; rfl) :
    OkB C Γ (.Assign [.Tuple [.Name x px, .Name y py] kt pt] (.Tuple [u, v] k2 pt2) pos :: rest) T (bnd mu fun d => bnd mv fun e => if okMd mdu d = true ∧ okMd mdv e = true then k d e else stuck) := fun X hX W σ Z H st f st' D r hm q => by
  obtain ⟨du, st1, h1, hm1⟩ := bnd_some hm
  obtain ⟨dv, st2, h2, hm2⟩ := bnd_some hm1
  split at hm2
  · rename_i hok
    refine tUS_of (pss_cons (ps_par hX.calm (i := i) (j := j) (by rw [hX.N]; exact hX.nd) (by rw [hX.N]; exact hN) (by rw [hX.N]; exact hN2) hij (by rw [hX.sc]; exact hx) (by rw [hX.sc]; exact hy) (pa_cons peU (pa_cons peU pa_nil (starEach_plain _ pv)) (starEach_plain _ pu))
      (swapped_two (by rw [hX.sc]; exact hfk) (by rw [hX.sc]; exact hx) (by rw [hX.sc]; exact hy) hl pu pv hne hf hc) (hs _)) pssU) ?_
    refine hu X hX W σ Z H st du st1 _ r h1 fun vx Z1 H1 s1 b1 r1' => ?_
    refine hv X hX W σ Z1 H1 st1 dv st2 _ (r.step s1 b1) h2 fun vy Z2 H2 s12 b2 r2' => ?_
    have s2 := s1.trans s12
    have r1 := r1'.stp s12
    have r2 := r2'.back r.box b1 s1
    refine ⟨vx, vy, rfl, ?_⟩
    have rr := r.step s2 b2
    have dj : ∀ {md : Md} {d : Sn.D} {w : V}, md = .E ∨ md = .N → okMd md d = true → Res X.K W md H Z2 H2 d w → (md = .E ∧ Rep X.K W.β Z2 d w) ∨ (md = .N ∧ ∃ p, w = .ref p ∧ isMut d = true ∧ Rep1 X.K W.β Z2 H2 d (.ref p) ∧ Z2 p = none ∧ ¬ W.bx p ∧ H p = none) := by
      intro md d w e ok rs
      rcases e with rfl | rfl
      · exact .inl ⟨rfl, rs⟩
      · refine .inr ⟨rfl, ?_⟩
        have mu : isMut d = true := ok
        obtain ⟨q4, q5⟩ := rs
        have hv : ∃ p, w = .ref p := by
          cases d with
          | lst ds => obtain ⟨b, vs, eb, _⟩ := q4; exact ⟨b, eb⟩
          | dct ds => obtain ⟨b, eb, _⟩ := q4; exact ⟨b, eb⟩
          | _ => cases mu
        obtain ⟨p, rfl⟩ := hv
        obtain ⟨f1, f2, f3⟩ := q5 p rfl mu
        exact ⟨p, rfl, mu, q4, f2, f3, f1⟩
    have noOld : ∀ p, H p = none → ¬ ownA Γ σ p := fun p f1 h => by
      obtain ⟨o, ho⟩ := r.ownThere h
      rw [f1] at ho; cases ho
    rcases dj eu hok.1 r1 with ⟨rfl, g1⟩ | ⟨rfl, p, rfl, mu1, g1, z1, n1, f1⟩
    · rcases dj ev hok.2 r2 with ⟨rfl, g2⟩ | ⟨rfl, p2, rfl, mu2, g2, z2, n2, f2⟩
      · exact hb du dv X hX W _ Z2 H2 st2 f st' D ((rr.setF g1).setF g2) hm2 (q.after s2.bst fun a h => .inl (own_setF (own_setF h)))
      · refine hb du dv X hX W _ Z2 H2 st2 f st' D ((rr.setF g1).setO mu2 g2 z2 n2 fun h => noOld _ f2 (own_setF h)) hm2 (q.after s2.bst fun a h => ?_)
        rcases own_setO h with h | rfl
        · exact .inl (own_setF h)
        · exact .inr f2
    · rcases dj ev hok.2 r2 with ⟨rfl, g2⟩ | ⟨rfl, p2, rfl, mu2, g2, z2, n2, f2⟩
      · refine hb du dv X hX W _ Z2 H2 st2 f st' D ((rr.setO mu1 g1 z1 n1 (noOld _ f1)).setF g2) hm2 (q.after s2.bst fun a h => ?_)
        rcases own_setO (own_setF h) with h | rfl
        · exact .inl h
        · exact .inr f1
      · -- two new lists: they stand apart
        have hp1 : ∃ o, H1 p = some o := by
          obtain ⟨q4, _⟩ := r1'
          cases du with
          | lst ds => obtain ⟨b, vs, eb, hb', _⟩ := q4; cases eb; exact ⟨_, hb'⟩
          | dct ds =>
            obtain ⟨b, eb, ⟨kvs, h, _⟩ | ⟨kvs, h, _⟩⟩ := q4
            · cases eb; exact ⟨_, h⟩
            · cases eb; exact ⟨_, h⟩
          | _ => cases mu1
        have hne' : p2 ≠ p := fun e => by
          obtain ⟨o, ho⟩ := hp1
          rw [← e, (r2'.2 p2 rfl mu2).1] at ho; cases ho
        refine hb du dv X hX W _ Z2 H2 st2 f st' D ((rr.setO mu1 g1 z1 n1 (noOld _ f1)).setO mu2 g2 z2 n2 fun h => ?_) hm2 (q.after s2.bst fun a h => ?_)
        · rcases own_setO h with h | e
          · exact noOld _ f2 h
          · exact hne' e
        · rcases own_setO h with h | rfl
          · rcases own_setO h with h | rfl
            · exact .inl h
            · exact .inr f1
          · exact .inr f2
  · exact (stuck_some hm2).elim
end
end Sn

namespace Sn
open PySem PySem.Spec PyProof.Rows L2

/-! ### the law's box -/
structure Bx where
  cells : List Int
  dig : Int
  seed : Int
  hd : 0 ≤ dig
  hs : 0 ≤ seed ∧ seed < 2147483648
def bxR (b : Bx) (β γ : Addr) (H : Hp) : Prop := H β = some (.lst [.ref γ, .int b.dig, .int b.seed]) ∧ H γ = some (.lst (b.cells.map V.int))
instance : BoxS Bx where
  R := bxR
  there := fun h => ⟨⟨_, h.1⟩, ⟨_, h.2⟩⟩
  congr := fun h e1 e2 => ⟨e1.trans h.1, e2.trans h.2⟩
/-- what the box is filled with: the number, the cells left, the seed -/
def bxSeed (seed : Int) : Int × Int × Int :=
  let first := (seed * 48271 + 17) % 2147483629
  let second := (first * 69621 + 5) % 2147483587
  let s := (second * 40692 + 3) % 2147483563
  (first, second, s)
def bxLast (cells : List Int) (seed : Int) : Int × List Int × Int :=
  ((bxSeed seed).1 * 4611686014132420609 + (bxSeed seed).2.1 * 2147483647 + (bxSeed seed).2.2, cells, (bxSeed seed).2.2)
def bxSize (c : Int) : Int := if 0 ≤ c then 2 * c else -2 * c - 1
def bxLoad (cells : List Int) (seed : Int) : Int × List Int × Int :=
  match cells with
  | [] => bxLast [] seed
  | c :: cs => if 1000000000000000000 ≤ bxSize c then (bxSize c, cs, seed) else bxLast cs ((seed * 69621 + bxSize c * 48271 + 11) % 2147483647)
theorem bxSize_nn (c : Int) : 0 ≤ bxSize c := by unfold bxSize; split <;> omega
theorem bxSeed_nn (seed : Int) : (0 ≤ (bxSeed seed).1 ∧ (bxSeed seed).1 < 2147483648) ∧ (0 ≤ (bxSeed seed).2.1 ∧ (bxSeed seed).2.1 < 2147483648) ∧ (0 ≤ (bxSeed seed).2.2 ∧ (bxSeed seed).2.2 < 2147483648) := by
  unfold bxSeed
  simp only
  omega
theorem bxLast_nn (cells : List Int) (seed : Int) : 0 ≤ (bxLast cells seed).1 ∧ 0 ≤ (bxLast cells seed).2.2 ∧ (bxLast cells seed).2.2 < 2147483648 := by
  obtain ⟨h1, h2, h3⟩ := bxSeed_nn seed
  unfold bxLast
  simp only
  omega
theorem bxLoad_nn (cells : List Int) (seed : Int) (h : 0 ≤ seed ∧ seed < 2147483648) : 0 ≤ (bxLoad cells seed).1 ∧ 0 ≤ (bxLoad cells seed).2.2 ∧ (bxLoad cells seed).2.2 < 2147483648 := by
  unfold bxLoad
  split
  · exact bxLast_nn _ _
  · rename_i c cs
    have := bxSize_nn c
    split
    · exact ⟨this, h⟩
    · exact bxLast_nn _ _
theorem bxLoad_len (cells : List Int) (seed : Int) : (bxLoad cells seed).2.1.length ≤ cells.length := by
  unfold bxLoad bxLast
  split
  · exact Nat.le_refl _
  · split
    · exact Nat.le_succ _
    · exact Nat.le_succ _
/-- one draw: the digit, the box behind it -/
def drawB (b : Bx) (many : Int) (hm : 0 < many) : Int × Bx :=
  if b.dig < many then
    ((bxLoad b.cells b.seed).1 % many, ⟨(bxLoad b.cells b.seed).2.1, (bxLoad b.cells b.seed).1 / many, (bxLoad b.cells b.seed).2.2, Int.ediv_nonneg (bxLoad_nn b.cells b.seed b.hs).1 (Int.le_of_lt hm), (bxLoad_nn b.cells b.seed b.hs).2⟩)
  else (b.dig % many, ⟨b.cells, b.dig / many, b.seed, Int.ediv_nonneg b.hd (Int.le_of_lt hm), b.hs⟩)
def drawM (many : Int) : M Bx D := fun b => if h : 0 < many ∧ many < 1073741824 then some (.int (drawB b many h.1).1, (drawB b many h.1).2) else none
def m_draw : List D → M Bx D
  | [.box, .int many] => drawM many
  | _ => stuck

section
variable {P : Program} {w : World} {K : PySem.W.Frag} {mg : Str → Option Value} {base : Heap}
/-- other addresses stand -/
def Else2 (H H' : Hp) (β γ : Addr) : Prop := ∀ a, a ≠ β → a ≠ γ → H' a = H a
def spLoad : Sp := fun vs H Q _ => ∃ (β γ : Addr) (cells : List Int) (dig seed : Int), vs = [.ref β] ∧ H β = some (.lst [.ref γ, .int dig, .int seed]) ∧ H γ = some (.lst (cells.map V.int)) ∧ cells.length ≤ sizeLine ∧ 0 ≤ seed ∧ seed < 2147483648 ∧
  ∀ H', Else2 H H' β γ → H' β = some (.lst [.ref γ, .int dig, .int (bxLoad cells seed).2.2]) → H' γ = some (.lst ((bxLoad cells seed).2.1.map V.int)) → Q (.int (bxLoad cells seed).1) H'
theorem Sz.only {H : Hp} (h : Only H) : Sz H := fun b vs hv => by
  rcases h b with e | ⟨o, xs, e⟩ <;> rw [e] at hv <;> rcases hv with hv | hv <;> cases hv
def spBox (K : PySem.W.Frag) : Sp := fun vs H Q _ => ∃ (a : Addr) (ns : List Int), vs = [.ref a] ∧ SqL K H a (ns.map V.int) ∧ ns.length ≤ 63 ∧
  ∀ (H' : Hp) (β γ : Addr), Same H H' → H β = none → H γ = none → H' β = some (.lst [.ref γ, .int 0, .int (4711 + (ns.length : Int))]) → H' γ = some (.lst (ns.map V.int)) → (Sz H → Sz H') → Q (.ref β) H'
def spLaw (K : PySem.W.Frag) : Sp := fun vs H Q _ => ∃ (a : Addr) (ns : List Int), vs = [.ref a] ∧ SqL K H a (ns.map V.int) ∧ ns.length ≤ 63 ∧ Sz H ∧ ∀ H', Q (.bl true) H'
theorem ok_law_of {st : Stmt} {f fB : Addr} {fd fdB : FuncData} {N : List Str} {k jB i : Nat} {rest : List Stmt} {x1 xB x3 : Str} {p1 p2 p3 pc ps : Pos} {m : M Bx (Fl Unit Unit)} {Γ1 : SCx} {qual xl : Str}
    (F : Fun K xl qual st f fd) (Sc : FnScope N ["script"] (defScope st)) (GB : FnOk P w K mg base CX0 jB fB fdB ["script"] (spBox K)) (kpB : PySem.W.keepIn K (.ref fB) = true) (bB : Binds K fdB ["script"] []) (gB : mg xB = some (.ref fB)) (hj : jB ≤ k)
    (hb : defBody st = .Assign [.Name x1 p1] (.Call (.Name xB p2) [.Name x3 p3] [] pc) ps :: rest) (h3 : x3 = "script") (hgl : (defScope st).names.lookup xB = some .globalImplicit) (hv3 : Vis (defScope st) x3) (hi : N[i]? = some x1) (hi0 : N[0]? = some x3) (hx1 : Loc (defScope st) x1)
    (hΓ : Γ1 = (List.replicate N.length none).set i (some (.frz .box)))
    (hrest : OkB (S := Bx) ⟨⟨P, w, K, mg, base⟩, N, defScope st, k, fun _ => true⟩ Γ1 rest ⟨fun _ : Unit => List.replicate N.length none, fun _ : Unit => List.replicate N.length none⟩ m)
    (hm : ∀ b : Bx, ∃ b', bnd m endF b = some (.bl true, b')) (hd : (x3 == ("__debug__" : Str)) = false := by decide) (hcd : (x3 == ("__classdict__" : Str)) = false := by decide) (hdB : (xB == ("__debug__" : Str)) = false := by decide) :
    FnOk P w K mg base CX0 (k + 1) f fd ["script"] (spLaw K) := by
  refine F.ok Sc (fun vs H Q E h => ?_) (fun cdv A outer s H vs Q E hr h => ?_)
  · obtain ⟨a, ns, rfl, _⟩ := h
    rfl
  obtain ⟨a, ns, rfl, hS, hlen, sz, q⟩ := h
  rw [hb]
  refine ⟨_, pss_cons (ps_set (i := i) Sc.nd hi hx1 (pe_call GB (hr.mono hj) hgl gB kpB bB .nil pass0 (pa_cons (pe_var (i := 0) hi0 hv3 hd hcd) pa_nil) hdB)) pssU, ?_⟩
  have hNl : 0 < N.length := by
    cases N with
    | nil => cases hi0
    | cons _ _ => simp
  refine ⟨.ref a, ?_, a, ns, rfl, hS, hlen, fun H1 β γ sm nβ nγ hβ hγ szi => ?_⟩
  · unfold L2.start; rfl
  let b0 : Bx := ⟨ns, 0, 4711 + (ns.length : Int), Int.le_refl 0, by omega⟩
  obtain ⟨b', hb'⟩ := hm b0
  obtain ⟨fl, b1, h1, h2⟩ := bnd_some hb'
  have hil : i < N.length := by
    cases h : N[i]? with
    | none => rw [hi] at h; cases h
    | some y => exact (List.getElem?_eq_some_iff.mp h).1
  refine hrest _ ⟨rfl, rfl, rfl, rfl, rfl, rfl, rfl, Sc.nd, rfl, hr, rfl, fun _ _ => rfl⟩ ⟨β, γ⟩ ((L2.start N [.ref a]).set i (some (.ref β))) (fun _ => none) H1 b0 fl b1 _ ?_ h1 ?_
  · subst hΓ
    refine ⟨?_, szi sz, (⟨hβ, hγ⟩ : bxR b0 β γ H1), (fun _ _ h => nomatch h), (fun j d h => ?_), (fun j d h => ?_), (fun j j' d d' a' h => ?_)⟩
    · unfold L2.start
      simp only [List.length_set, List.length_append, List.length_map, List.length_cons, List.length_nil, List.length_replicate]
      omega
    · rcases set_cases h with ⟨rfl, he, hl⟩ | ⟨hn, h⟩
      · cases he
        refine ⟨.ref β, List.getElem?_set_self ?_, .box⟩
        unfold L2.start
        simp only [List.length_append, List.length_map, List.length_cons, List.length_nil, List.length_replicate]
        omega
      · rw [List.getElem?_replicate] at h
        split at h <;> simp at h
    · rcases set_cases h with ⟨rfl, he, hl⟩ | ⟨hn, h⟩
      · cases he
      · rw [List.getElem?_replicate] at h
        split at h <;> simp at h
    · rcases set_cases h with ⟨rfl, he, hl⟩ | ⟨hn, h⟩
      · cases he
      · rw [List.getElem?_replicate] at h
        split at h <;> simp at h
  · cases fl with
    | nx s' =>
      obtain ⟨e, _⟩ := ret_some h2
      cases e
    | rt d =>
      obtain ⟨e, _⟩ := ret_some h2
      intro v Z' H' _ _ _ rv
      subst e
      cases rv
      exact q H'
    | bk s' => exact (stuck_some (S := Bx) (α := D) (s := b1) h2).elim
    | ct s' => exact (stuck_some (S := Bx) (α := D) (s := b1) h2).elim
end
end Sn

namespace Sn
open PySem PySem.Spec PyProof.Rows L2
/-! ### short words for mirrors -/
section
variable {S : Type} {τ l τ' l' : Type}
def op2M (g : D → D → Option D) (ma mb : M S D) : M S D := bnd ma fun x => bnd mb fun y => lift (g x y)
def cmpT (g : D → D → Option D) (ma mb : M S D) : M S Bool := bnd ma fun x => bnd mb fun y => bnd (lift (g x y)) asB
def chainM (g g' : D → D → Option D) (ma mb mc : M S D) : M S D := bnd ma fun x => bnd mb fun y => bnd (bnd (lift (g x y)) asB) fun t => if t = true then bnd mc fun z => lift (g' y z) else ret (.bl false)
def chainT (g g' : D → D → Option D) (ma mb mc : M S D) : M S Bool := bnd ma fun x => bnd mb fun y => bnd (bnd (lift (g x y)) asB) fun t => if t = true then bnd mc fun z => bnd (lift (g' y z)) asB else ret false
def valT (ma : M S D) : M S Bool := bnd ma truM
def notT (n : M S Bool) : M S Bool := bnd n fun b => ret (!b)
def andT (n k : M S Bool) : M S Bool := bnd n fun t => if t = true then k else ret false
def orT (n k : M S Bool) : M S Bool := bnd n fun t => if t = true then ret true else k
def andM (ma mb : M S D) : M S D := bnd (bnd ma asB) fun t => if t = true then mb else ret (.bl false)
def orM (ma mb : M S D) : M S D := bnd (bnd ma asB) fun t => if t = true then ret (.bl true) else mb
def notM (ma : M S D) : M S D := bnd (bnd ma truM) fun t => ret (.bl (!t))
def negD : D → Option D
  | .int i => some (.int (-i))
  | _ => none
def negM (ma : M S D) : M S D := bnd ma fun x => lift (negD x)
def ifM {α : Type} (n : M S Bool) (ma mb : M S α) : M S α := bnd n fun t => if t = true then ma else mb
def consM (m : M S D) (mr : M S (List D)) : M S (List D) := bnd m fun x => bnd mr fun xs => ret (x :: xs)
def tupM (mr : M S (List D)) : M S D := bnd mr fun xs => lift (tupD xs)
def lstM (mr : M S (List D)) : M S D := bnd mr fun xs => lift (lstD xs)
def ixM (ma mb : M S D) : M S D := bnd ma fun x => bnd mb fun y => lift (ixD x y)
def ptM (ma : M S D) : M S (Option Int) := bnd (bnd ma asI) fun i => ret (some i)
def slM (ma : M S D) (ml mh : M S (Option Int)) : M S D := bnd ma fun x => bnd ml fun i => bnd mh fun j => lift (slD x i j)
def bcM (g : List D → Option D) (mr : M S (List D)) : M S D := bnd mr fun xs => lift (g xs)
def isiM (T : String) (ma : M S D) : M S D := bnd ma fun x => lift (isiD T x)
def itM (ma : M S D) : M S (List D) := bnd ma iterM
def rng1M (ma : M S D) : M S (List D) := bnd ma fun x => rngM [x]
def rng2M (ma mb : M S D) : M S (List D) := bnd ma fun x => bnd mb fun y => rngM [x, y]
def compM (mi : M S (List D)) (f : D → M S (Option D)) : M S D := bnd mi fun xs => if xs.length ≤ sizeLine then bnd (compL f xs) fun ys => ret (.lst ys) else stuck
def retF (m : M S D) : M S (Fl τ l) := bnd m fun d => ret (.rt d)
def iteF (n : M S Bool) (mA mB : M S (Fl τ' l)) (k : τ' → M S (Fl τ l)) : M S (Fl τ l) := bnd n fun t => bnd (if t = true then mA else mB) fun f => seqF f k
def forM' (mi : M S (List D)) (f : τ → D → M S (Fl τ τ)) (s0 : τ) (k : τ → M S (Fl τ' l')) : M S (Fl τ' l') := bnd mi fun xs => forL f k xs s0
def ownM (m : M S D) (k : D → M S (Fl τ l)) : M S (Fl τ l) := bnd m fun d => if isMut d = true then k d else stuck
def parM (mdu mdv : Md) (mu mv : M S D) (k : D → D → M S (Fl τ l)) : M S (Fl τ l) := bnd mu fun d => bnd mv fun e => if okMd mdu d = true ∧ okMd mdv e = true then k d e else stuck
def appM (d : D) (me : M S D) (k : D → M S (Fl τ l)) : M S (Fl τ l) := bnd me fun y => bnd (lift (appD d y)) k
def extM (d : D) (me : M S D) (k : D → M S (Fl τ l)) : M S (Fl τ l) := bnd me fun y => bnd (lift (extD d y)) k
def setM (d : D) (me mk : M S D) (k : D → M S (Fl τ l)) : M S (Fl τ l) := bnd me fun y => bnd mk fun j => bnd (lift (setD d j y)) k
end
/-- more turns than any while of ours makes -/
def fuel : Nat := 1000000000
section
variable {S : Type} [BoxS S] {C : Stat} {Γ : SCx} {e a b : Expr} {es : List Expr} {m ma mb : M S D} {md : Md} {pos p : Pos}
theorem Ok.neg' (h : Ok .V C Γ a ma) : Ok .E C Γ (.UnaryOp .USub a pos) (negM ma) := by
  have := Ok.neg (pos := pos) h
  have e : (fun x : D => (lift (match x with | .int i => some (.int (-i)) | _ => none) : M S D)) = fun x => lift (negD x) := by
    funext x
    cases x <;> rfl
  unfold negM
  rw [← e]
  exact this
theorem OkB.stuck {τ l : Type} {T : Tg τ l} {ss : List Stmt} : OkB (S := S) C Γ ss T Sn.stuck := fun X hX W σ Z H st f st' D r hm q => (stuck_some hm).elim
theorem hasF_stuck {G : Glob} {st : Stmt} {f : Addr} {fd : FuncData} {ps : List Str} {k n : Nat} {x qual : Str} (hm : G.mg x = some (.ref f)) (F : Fun G.K x qual st f fd) (hB : Binds G.K fd ps []) (hn : ps.length = n) : HasF (S := S) G k x n fun _ => Sn.stuck := by
  refine ⟨f, fd, ps, hm, F.kp, hB, ⟨fun vs H Q E h => by rw [hn]; exact h.1, fun A outer s H args us vs Q E hr he hb hv hs => ?_⟩⟩
  obtain ⟨_, W, Z, ds, st, d, st', _, _, _, _, hm, _⟩ := hs
  exact (stuck_some (S := S) (α := D) (s := st) hm).elim
end
end Sn

namespace Sn
open PySem PySem.Spec PyProof.Rows L2
noncomputable instance decEqD : DecidableEq D := fun _ _ => Classical.propDecidable _
/-! ### plain reasoning on mirrors -/
section
variable {S : Type} {α β : Type} {τ l τ' l' : Type}
@[simp] theorem r_bnd (a : α) (k : α → M S β) : bnd (ret a) k = k a := (rfl)
@[simp] theorem r_bndS (k : α → M S β) : bnd (stuck : M S α) k = stuck := (rfl)
@[simp] theorem r_lift (d : D) : (lift (some d) : M S D) = ret d := (rfl)
@[simp] theorem r_liftN : (lift none : M S D) = stuck := (rfl)
@[simp] theorem r_op2 (g : D → D → Option D) (a b : D) : op2M g (ret a : M S D) (ret b) = lift (g a b) := (rfl)
@[simp] theorem r_cmpT (g : D → D → Option D) (a b : D) : cmpT g (ret a : M S D) (ret b) = bnd (lift (g a b)) asB := (rfl)
@[simp] theorem r_asB (b : Bool) : (asB (.bl b) : M S Bool) = ret b := (rfl)
@[simp] theorem r_asI (b : Int) : (asI (.int b) : M S Int) = ret b := (rfl)
@[simp] theorem r_valT (d : D) : valT (ret d : M S D) = truM d := (rfl)
@[simp] theorem r_tru_bl (b : Bool) : (truM (.bl b) : M S Bool) = ret b := (rfl)
@[simp] theorem r_tru_int (i : Int) : (truM (.int i) : M S Bool) = ret (i != 0) := (rfl)
@[simp] theorem r_tru_lst (xs : List D) : (truM (.lst xs) : M S Bool) = ret (!xs.isEmpty) := (rfl)
@[simp] theorem r_tru_tup (xs : List D) : (truM (.tup xs) : M S Bool) = ret (!xs.isEmpty) := (rfl)
@[simp] theorem r_tru_non : (truM .non : M S Bool) = ret false := (rfl)
@[simp] theorem r_notT (b : Bool) : notT (ret b : M S Bool) = ret (!b) := (rfl)
@[simp] theorem r_andTt (k : M S Bool) : andT (ret true) k = k := (rfl)
@[simp] theorem r_andTf (k : M S Bool) : andT (ret false) k = ret false := (rfl)
@[simp] theorem r_andT (b c : Bool) : andT (ret b : M S Bool) (ret c) = ret (b && c) := by cases b <;> rfl
@[simp] theorem r_orTt (k : M S Bool) : orT (ret true) k = ret true := (rfl)
@[simp] theorem r_orTf (k : M S Bool) : orT (ret false) k = k := (rfl)
@[simp] theorem r_orT (b c : Bool) : orT (ret b : M S Bool) (ret c) = ret (b || c) := by cases b <;> rfl
@[simp] theorem r_andMt (k : M S D) : andM (ret (.bl true)) k = k := (rfl)
@[simp] theorem r_andMf (k : M S D) : andM (ret (.bl false)) k = ret (.bl false) := (rfl)
@[simp] theorem r_andM (b c : Bool) : andM (ret (.bl b) : M S D) (ret (.bl c)) = ret (.bl (b && c)) := by cases b <;> rfl
@[simp] theorem r_orMt (k : M S D) : orM (ret (.bl true)) k = ret (.bl true) := (rfl)
@[simp] theorem r_orMf (k : M S D) : orM (ret (.bl false)) k = k := (rfl)
@[simp] theorem r_orM (b c : Bool) : orM (ret (.bl b) : M S D) (ret (.bl c)) = ret (.bl (b || c)) := by cases b <;> rfl
@[simp] theorem r_notM (d : D) : notM (ret d : M S D) = bnd (truM d) fun t => ret (.bl (!t)) := (rfl)
@[simp] theorem r_negM (d : D) : negM (ret d : M S D) = lift (negD d) := (rfl)
@[simp] theorem r_negD (i : Int) : negD (.int i) = some (.int (-i)) := (rfl)
@[simp] theorem r_ifM (b : Bool) (x y : M S α) : ifM (ret b) x y = if b = true then x else y := (rfl)
@[simp] theorem r_consM (x : D) (xs : List D) : consM (ret x : M S D) (ret xs) = ret (x :: xs) := (rfl)
@[simp] theorem r_tupM (xs : List D) : tupM (ret xs : M S (List D)) = lift (tupD xs) := (rfl)
@[simp] theorem r_lstM (xs : List D) : lstM (ret xs : M S (List D)) = lift (lstD xs) := (rfl)
theorem tupD_le {xs : List D} (h : xs.length ≤ 16777216) : tupD xs = some (.tup xs) := by unfold tupD; rw [if_pos (by rw [sizeLine_eq]; exact h)]
theorem lstD_le {xs : List D} (h : xs.length ≤ 16777216) : lstD xs = some (.lst xs) := by unfold lstD; rw [if_pos (by rw [sizeLine_eq]; exact h)]
@[simp] theorem r_tup0 : tupD [] = some (.tup []) := tupD_le (by decide)
@[simp] theorem r_tup1 (a : D) : tupD [a] = some (.tup [a]) := tupD_le (by simp)
@[simp] theorem r_tup2 (a b : D) : tupD [a, b] = some (.tup [a, b]) := tupD_le (by simp)
@[simp] theorem r_tup3 (a b c : D) : tupD [a, b, c] = some (.tup [a, b, c]) := tupD_le (by simp)
@[simp] theorem r_tup4 (a b c d : D) : tupD [a, b, c, d] = some (.tup [a, b, c, d]) := tupD_le (by simp)
@[simp] theorem r_tup5 (a b c d e : D) : tupD [a, b, c, d, e] = some (.tup [a, b, c, d, e]) := tupD_le (by simp)
@[simp] theorem r_lst0 : lstD [] = some (.lst []) := lstD_le (by decide)
@[simp] theorem r_lst1 (a : D) : lstD [a] = some (.lst [a]) := lstD_le (by simp)
@[simp] theorem r_lst2 (a b : D) : lstD [a, b] = some (.lst [a, b]) := lstD_le (by simp)
@[simp] theorem r_lst3 (a b c : D) : lstD [a, b, c] = some (.lst [a, b, c]) := lstD_le (by simp)
@[simp] theorem r_bcM (g : List D → Option D) (xs : List D) : bcM g (ret xs : M S (List D)) = lift (g xs) := (rfl)
@[simp] theorem r_lenT (xs : List D) : lenD [.tup xs] = some (.int xs.length) := (rfl)
@[simp] theorem r_lenL (xs : List D) : lenD [.lst xs] = some (.int xs.length) := (rfl)
@[simp] theorem r_tupT (xs : List D) : tupleD [.tup xs] = some (.tup xs) := (rfl)
@[simp] theorem r_tupL (xs : List D) : tupleD [.lst xs] = some (.tup xs) := (rfl)
@[simp] theorem r_lstT (xs : List D) : listD [.tup xs] = some (.lst xs) := (rfl)
@[simp] theorem r_lstL (xs : List D) : listD [.lst xs] = some (.lst xs) := (rfl)
@[simp] theorem r_int (i : Int) : intD [.int i] = some (.int i) := (rfl)
@[simp] theorem r_ixM (a b : D) : ixM (ret a : M S D) (ret b) = lift (ixD a b) := (rfl)
@[simp] theorem r_ixT (xs : List D) (i : Int) : ixD (.tup xs) (.int i) = atI xs i := (rfl)
@[simp] theorem r_ixL (xs : List D) (i : Int) : ixD (.lst xs) (.int i) = atI xs i := (rfl)
@[simp] theorem r_ptM (i : Int) : ptM (ret (.int i) : M S D) = ret (some i) := (rfl)
@[simp] theorem r_slM (a : D) (i j : Option Int) : slM (ret a : M S D) (ret i) (ret j) = lift (slD a i j) := (rfl)
@[simp] theorem r_slT (xs : List D) (i j : Option Int) : slD (.tup xs) i j = some (.tup (cutL xs i j)) := (rfl)
@[simp] theorem r_slL (xs : List D) (i j : Option Int) : slD (.lst xs) i j = some (.lst (cutL xs i j)) := (rfl)
@[simp] theorem r_itT (xs : List D) : itM (ret (.tup xs) : M S D) = ret xs := (rfl)
@[simp] theorem r_itL (xs : List D) : itM (ret (.lst xs) : M S D) = ret xs := (rfl)
@[simp] theorem r_isi (T : String) (d : D) : isiM T (ret d : M S D) = lift (isiD T d) := (rfl)
@[simp] theorem r_add (i j : Int) : addD (.int i) (.int j) = some (.int (i + j)) := (rfl)
@[simp] theorem r_sub (i j : Int) : subD (.int i) (.int j) = some (.int (i - j)) := (rfl)
@[simp] theorem r_lt (i j : Int) : ltD (.int i) (.int j) = some (.bl (decide (i < j))) := (rfl)
@[simp] theorem r_le (i j : Int) : leD (.int i) (.int j) = some (.bl (decide (i ≤ j))) := (rfl)
@[simp] theorem r_gt (i j : Int) : gtD (.int i) (.int j) = some (.bl (decide (j < i))) := (rfl)
@[simp] theorem r_ge (i j : Int) : geD (.int i) (.int j) = some (.bl (decide (j ≤ i))) := (rfl)
@[simp] theorem r_isN (d : D) : isD d .non = some (.bl (isNonD d)) := by cases d <;> rfl
@[simp] theorem r_isntN (d : D) : isntD d .non = some (.bl (!isNonD d)) := by cases d <;> rfl
@[simp] theorem r_isB (a b : Bool) : isD (.bl a) (.bl b) = some (.bl (decide (a = b))) := (rfl)
@[simp] theorem r_isntB (a b : Bool) : isntD (.bl a) (.bl b) = some (.bl (!decide (a = b))) := (rfl)
@[simp] theorem nonNon : isNonD .non = true := rfl
@[simp] theorem nonI (i : Int) : isNonD (.int i) = false := rfl
@[simp] theorem nonT (i : List D) : isNonD (.tup i) = false := rfl
@[simp] theorem nonL (i : List D) : isNonD (.lst i) = false := rfl
@[simp] theorem nonB (i : Bool) : isNonD (.bl i) = false := rfl
@[simp] theorem nonS (i : Str) : isNonD (.str i) = false := rfl
theorem mul_ok {i j : Int} (h : (-(2 ^ 64) < i ∧ i < 2 ^ 64) ∨ (-(2 ^ 64) < j ∧ j < 2 ^ 64)) : mulD (.int i) (.int j) = some (.int (i * j)) := by
  show (if mulOk i j then some (D.int (i * j)) else none) = _
  rw [if_pos (show mulOk i j from h)]
theorem div_ok {i j : Int} (h : 0 < j) (h2 : j < 1073741824) : divD (.int i) (.int j) = some (.int (i / j)) := by
  show (if 0 < j ∧ j < 1073741824 then some (D.int (i / j)) else none) = _
  rw [if_pos ⟨h, h2⟩]
theorem mod_ok {i j : Int} (h : 0 < j) : modD (.int i) (.int j) = some (.int (i % j)) := by
  show (if 0 < j then some (D.int (i % j)) else none) = _
  rw [if_pos h]
@[simp] theorem r_retF (d : D) : (retF (ret d) : M S (Fl τ l)) = ret (.rt d) := (rfl)
@[simp] theorem r_endR (d : D) : (endF (.rt d : Fl Unit l) : M S D) = ret d := (rfl)
@[simp] theorem r_endN (u : Unit) : (endF (.nx u : Fl Unit l) : M S D) = ret .non := (rfl)
@[simp] theorem r_iteF (b : Bool) (mA mB : M S (Fl τ' l)) (k : τ' → M S (Fl τ l)) : iteF (ret b) mA mB k = if b = true then bnd mA (fun f => seqF f k) else bnd mB (fun f => seqF f k) := by cases b <;> rfl
@[simp] theorem r_seqN (s : τ') (k : τ' → M S (Fl τ l)) : seqF (.nx s) k = k s := (rfl)
@[simp] theorem r_seqR (d : D) (k : τ' → M S (Fl τ l)) : seqF (.rt d) k = ret (.rt d) := (rfl)
@[simp] theorem r_seqB (s : l) (k : τ' → M S (Fl τ l)) : seqF (.bk s) k = ret (.bk s) := (rfl)
@[simp] theorem r_seqC (s : l) (k : τ' → M S (Fl τ l)) : seqF (.ct s) k = ret (.ct s) := (rfl)
@[simp] theorem r_forM (xs : List D) (f : τ → D → M S (Fl τ τ)) (s0 : τ) (k : τ → M S (Fl τ' l')) : forM' (ret xs) f s0 k = forL f k xs s0 := (rfl)
@[simp] theorem r_forN (f : τ → D → M S (Fl τ τ)) (s0 : τ) (k : τ → M S (Fl τ' l')) : forL f k [] s0 = k s0 := (rfl)
theorem forL_cons (f : τ → D → M S (Fl τ τ)) (s0 : τ) (k : τ → M S (Fl τ' l')) (x : D) (xs : List D) : forL f k (x :: xs) s0 = bnd (f s0 x) fun fl => match fl with
    | .nx s' => forL f k xs s'
    | .ct s' => forL f k xs s'
    | .bk s' => k s'
    | .rt d => ret (.rt d) := rfl
@[simp] theorem r_own (xs : List D) (k : D → M S (Fl τ l)) : ownM (ret (.lst xs)) k = k (.lst xs) := (rfl)
@[simp] theorem r_ownd (xs : List (D × D)) (k : D → M S (Fl τ l)) : ownM (ret (.dct xs)) k = k (.dct xs) := (rfl)
@[simp] theorem r_par (a b : D) (k : D → D → M S (Fl τ l)) : parM .E .E (ret a) (ret b) k = k a b := (rfl)
@[simp] theorem r_parN (a : D) (b : List D) (k : D → D → M S (Fl τ l)) : parM .E .N (ret a) (ret (.lst b)) k = k a (.lst b) := (rfl)
@[simp] theorem r_parNN (a b : List D) (k : D → D → M S (Fl τ l)) : parM .N .N (ret (.lst a)) (ret (.lst b)) k = k (.lst a) (.lst b) := (rfl)
theorem app_ok {xs : List D} {y : D} {k : D → M S (Fl τ l)} (h : xs.length < 16777216) : appM (.lst xs) (ret y) k = k (.lst (xs ++ [y])) := by
  show bnd (lift (if xs.length < sizeLine then some (D.lst (xs ++ [y])) else none)) k = _
  rw [if_pos (by rw [sizeLine_eq]; exact h)]; rfl
theorem ext_ok {xs ys : List D} {k : D → M S (Fl τ l)} (h : xs.length + ys.length ≤ 16777216) : extM (.lst xs) (ret (.lst ys)) k = k (.lst (xs ++ ys)) := by
  show bnd (lift (if xs.length + ys.length ≤ sizeLine then some (D.lst (xs ++ ys)) else none)) k = _
  rw [if_pos (by rw [sizeLine_eq]; exact h)]; rfl
theorem addT_ok {xs ys : List D} (h : xs.length + ys.length ≤ 16777216) : addD (.tup xs) (.tup ys) = some (.tup (xs ++ ys)) := by
  show (if xs.length + ys.length ≤ sizeLine then some (D.tup (xs ++ ys)) else none) = _
  rw [if_pos (by rw [sizeLine_eq]; exact h)]
theorem addL_ok {xs ys : List D} (h : xs.length + ys.length ≤ 16777216) : addD (.lst xs) (.lst ys) = some (.lst (xs ++ ys)) := by
  show (if xs.length + ys.length ≤ sizeLine then some (D.lst (xs ++ ys)) else none) = _
  rw [if_pos (by rw [sizeLine_eq]; exact h)]
theorem rng1_ok {j : Int} (h : -(2 ^ 62) ≤ j) (h2 : j < 2 ^ 62) : rng1M (ret (.int j) : M S D) = ret (rng 0 j) := by
  show (if -(2 ^ 62) ≤ j ∧ j < 2 ^ 62 then ret (rng 0 j) else stuck : M S (List D)) = _
  rw [if_pos ⟨h, h2⟩]
theorem rng2_ok {i j : Int} (h : -(2 ^ 62) ≤ i) (h2 : i < 2 ^ 62) (h3 : -(2 ^ 62) ≤ j) (h4 : j < 2 ^ 62) : rng2M (ret (.int i) : M S D) (ret (.int j)) = ret (rng i j) := by
  show (if -(2 ^ 62) ≤ i ∧ i < 2 ^ 62 ∧ -(2 ^ 62) ≤ j ∧ j < 2 ^ 62 then ret (rng i j) else stuck : M S (List D)) = _
  rw [if_pos ⟨h, h2, h3, h4⟩]
theorem comp_ok {xs : List D} {f : D → M S (Option D)} (h : xs.length ≤ 16777216) : compM (ret xs) f = bnd (compL f xs) fun ys => ret (.lst ys) := by
  show (if xs.length ≤ sizeLine then _ else _) = _
  rw [if_pos (by rw [sizeLine_eq]; exact h)]
@[simp] theorem r_elt (b : Bool) (y : D) : eltM (ret b : M S Bool) (ret y) = ret (if b = true then some y else none) := by cases b <;> rfl
@[simp] theorem r_eltT (m : M S D) : eltM (ret true) m = bnd m fun y => ret (some y) := (rfl)
@[simp] theorem r_eltF (m : M S D) : eltM (ret false) m = ret none := (rfl)
@[simp] theorem r_compN {f : α → M S (Option β)} : compL f [] = ret [] := (rfl)
theorem compL_cons {f : α → M S (Option β)} (x : α) (xs : List α) : compL f (x :: xs) = bnd (f x) fun o => bnd (compL f xs) fun ys => ret (match o with | some y => y :: ys | none => ys) := rfl
theorem compL_map {γ : Type} {f : α → M S (Option β)} (g : γ → α) : ∀ xs : List γ, compL f (xs.map g) = compL (fun c => f (g c)) xs
  | [] => rfl
  | x :: xs => by rw [List.map_cons, compL_cons, compL_cons, compL_map g xs]
theorem compL_pure {f : α → M S (Option β)} (g : α → Option β) : ∀ {xs : List α}, (∀ x ∈ xs, f x = ret (g x)) → compL f xs = ret (xs.filterMap g)
  | [], _ => rfl
  | x :: xs, h => by
    rw [compL_cons, h x List.mem_cons_self, compL_pure g fun y hy => h y (List.mem_cons_of_mem _ hy), List.filterMap_cons]
    simp only [r_bnd]
    cases g x <;> rfl
/-- every item goes, each as g says -/
theorem compL_all {f : α → M S (Option β)} (g : α → β) {xs : List α} (h : ∀ x ∈ xs, f x = ret (some (g x))) : compL f xs = ret (xs.map g) := by
  rw [compL_pure (fun x => some (g x)) h]
  congr 1
  induction xs with
  | nil => rfl
  | cons x xs ih => rw [List.filterMap_cons, List.map_cons]; simp only; rw [ih fun y hy => h y (List.mem_cons_of_mem _ hy)]
/-- .. those of which c holds -/
theorem compL_if {f : α → M S (Option β)} (c : α → Bool) (g : α → β) {xs : List α} (h : ∀ x ∈ xs, f x = ret (if c x = true then some (g x) else none)) : compL f xs = ret ((xs.filter c).map g) := by
  rw [compL_pure (fun x => if c x = true then some (g x) else none) h]
  congr 1
  induction xs with
  | nil => rfl
  | cons x xs ih =>
    rw [List.filterMap_cons, List.filter_cons]
    have ih' := ih fun y hy => h y (List.mem_cons_of_mem _ hy)
    cases hc : c x
    · simp [ih']
    · simp [ih']
/-- a loop that always goes on -/
theorem forL_fold {f : τ → D → M S (Fl τ τ)} {k : τ → M S (Fl τ' l')} (g : τ → D → τ) : ∀ {xs : List D} {s0 : τ}, (∀ pre x post, xs = pre ++ x :: post → f (pre.foldl g s0) x = ret (.nx (g (pre.foldl g s0) x))) → forL f k xs s0 = k (xs.foldl g s0)
  | [], _, _ => rfl
  | x :: xs, s0, h => by
    have h0 : f s0 x = ret (.nx (g s0 x)) := h [] x xs rfl
    rw [forL_cons, h0, List.foldl_cons]
    exact forL_fold g fun pre y post e => h (x :: pre) y post (by rw [e]; rfl)
/-- a loop without a state that always goes on -/
theorem forL_unit {f : Unit → D → M S (Fl Unit Unit)} {k : Unit → M S (Fl τ' l')} {xs : List D} (h : ∀ x ∈ xs, f () x = ret (.nx ())) : forL f k xs () = k () := by
  rw [forL_fold (fun _ _ => ()) fun pre x post e => h x (by rw [e]; simp)]
/-- a search -/
theorem forL_find {f : Unit → D → M S (Fl Unit Unit)} {k : Unit → M S (Fl τ' l')} (p : D → Bool) (r : D → D) : ∀ {xs : List D}, (∀ x ∈ xs, f () x = if p x = true then ret (.rt (r x)) else ret (.nx ())) → forL f k xs () = match xs.find? p with | some x => ret (.rt (r x)) | none => k ()
  | [], _ => rfl
  | x :: xs, h => by
    rw [forL_cons, h x List.mem_cons_self, List.find?_cons]
    cases hp : p x
    · simp only [Bool.false_eq_true, if_false, r_bnd]
      exact forL_find p r fun y hy => h y (List.mem_cons_of_mem _ hy)
    · simp
/-! ### whatever the box gives -/
def Wp (m : M S α) (P : α → Prop) : Prop := ∀ s, ∃ a s', m s = some (a, s') ∧ P a
theorem Wp.ret {a : α} {P : α → Prop} (h : P a) : Wp (ret a : M S α) P := fun s => ⟨a, s, rfl, h⟩
theorem Wp.bnd {m : M S α} {k : α → M S β} {P : β → Prop} (h : Wp m fun a => Wp (k a) P) : Wp (bnd m k) P := fun s => by
  obtain ⟨a, s1, e1, h1⟩ := h s
  obtain ⟨b, s2, e2, h2⟩ := h1 s1
  exact ⟨b, s2, by unfold Sn.bnd; rw [e1]; exact e2, h2⟩
theorem Wp.mono {m : M S α} {P Q : α → Prop} (h : Wp m P) (q : ∀ a, P a → Q a) : Wp m Q := fun s => by
  obtain ⟨a, s1, e1, h1⟩ := h s
  exact ⟨a, s1, e1, q a h1⟩
theorem Wp.eq {m n : M S α} {P : α → Prop} (e : m = n) (h : Wp n P) : Wp m P := e ▸ h
/-- all items of a comprehension without a test -/
theorem Wp.comp {f : α → M S (Option β)} {R : α → β → Prop} : ∀ {xs : List α} {P : List β → Prop}, (∀ x ∈ xs, Wp (f x) fun o => ∃ y, o = some y ∧ R x y) → (∀ ys, ys.length = xs.length → (∀ (i : Nat) x y, xs[i]? = some x → ys[i]? = some y → R x y) → P ys) → Wp (compL f xs) P
  | [], P, _, q => Wp.ret (q [] rfl fun i x y h => by simp at h)
  | x :: xs, P, h, q => by
    rw [compL_cons]
    refine Wp.bnd (Wp.mono (h x List.mem_cons_self) fun o ⟨y, e, r⟩ => ?_)
    subst e
    refine Wp.bnd (Wp.comp (fun z hz => h z (List.mem_cons_of_mem _ hz)) fun ys hl hr => Wp.ret (q _ (by simp [hl]) fun i z w h1 h2 => ?_))
    cases i with
    | zero => simp at h1 h2; subst h1 h2; exact r
    | succ i => exact hr i z w (by simpa using h1) (by simpa using h2)
theorem Wp.forU {f : Unit → D → M S (Fl Unit Unit)} {k : Unit → M S (Fl τ' l')} {P : Fl τ' l' → Prop} : ∀ {xs : List D}, (∀ x ∈ xs, Wp (f () x) fun fl => fl = .nx ()) → Wp (k ()) P → Wp (forL f k xs ()) P
  | [], _, hk => hk
  | x :: xs, h, hk => by
    rw [forL_cons]
    refine Wp.bnd (Wp.mono (h x List.mem_cons_self) fun fl e => ?_)
    subst e
    exact Wp.forU (fun y hy => h y (List.mem_cons_of_mem _ hy)) hk
/-- a loop with an invariant by what was taken -/
theorem Wp.forI {f : τ → D → M S (Fl τ τ)} {k : τ → M S (Fl τ' l')} {P : Fl τ' l' → Prop} (I : List D → τ → Prop) {xs : List D} {s0 : τ} (h0 : I [] s0) (h : ∀ pre x post s, xs = pre ++ x :: post → I pre s → Wp (f s x) fun fl => ∃ s', fl = .nx s' ∧ I (pre ++ [x]) s') (hk : ∀ s, I xs s → Wp (k s) P) : Wp (forL f k xs s0) P := by
  suffices g : ∀ (post pre : List D) (s : τ), xs = pre ++ post → I pre s → Wp (forL f k post s) P from g xs [] s0 rfl h0
  intro post
  induction post with
  | nil => intro pre s e hi; rw [List.append_nil] at e; subst e; exact hk s hi
  | cons x post ih =>
    intro pre s e hi
    rw [forL_cons]
    refine Wp.bnd (Wp.mono (h pre x post s e hi) fun fl ⟨s', e', hi'⟩ => ?_)
    subst e'
    exact ih (pre ++ [x]) s' (by rw [e, List.append_assoc]; rfl) hi'
end
theorem Wp.draw {k : Int} {P : D → Prop} (h : 0 < k) (h2 : k < 1073741824) (q : ∀ d : Int, 0 ≤ d → d < k → P (.int d)) : Wp (drawM k) P := fun b => by
  refine ⟨.int (drawB b k h).1, (drawB b k h).2, ?_, ?_⟩
  · unfold drawM
    rw [dif_pos ⟨h, h2⟩]
  · unfold drawB
    split
    · exact q _ (Int.emod_nonneg _ (by omega)) (Int.emod_lt_of_pos _ h)
    · exact q _ (Int.emod_nonneg _ (by omega)) (Int.emod_lt_of_pos _ h)
@[simp] theorem r_draw (k : Int) : m_draw [.box, .int k] = drawM k := (rfl)
/-! ### ranges, places -/
theorem rng_len (lo hi : Int) : (rng lo hi).length = (hi - lo).toNat := by unfold rng; simp
theorem mem_rng {lo hi : Int} {d : D} : d ∈ rng lo hi ↔ ∃ i : Int, d = .int i ∧ lo ≤ i ∧ i < hi := by
  unfold rng
  rw [List.mem_map]
  constructor
  · rintro ⟨k, hk, rfl⟩
    rw [List.mem_range] at hk
    exact ⟨lo + k, rfl, by omega, by omega⟩
  · rintro ⟨i, rfl, h1, h2⟩
    exact ⟨(i - lo).toNat, by rw [List.mem_range]; omega, by congr 1; omega⟩
theorem ixN_nat {n : Nat} {i : Int} (h : 0 ≤ i) (h2 : i < n) : ixN n i = some i.toNat := by unfold ixN; rw [if_pos h, if_pos h2]
theorem atI_ok {α : Type} {xs : List α} {i : Int} (h : 0 ≤ i) (h2 : i < xs.length) : atI xs i = some (xs[i.toNat]'(by omega)) := by
  unfold atI
  rw [ixN_nat h h2]
  exact List.getElem?_eq_getElem (by omega)
theorem atI_map {α β : Type} (f : α → β) (xs : List α) (i : Int) : atI (xs.map f) i = (atI xs i).map f := by
  unfold atI
  rw [List.length_map]
  cases ixN xs.length i with
  | none => rfl
  | some j => simp
theorem cutL_map {α β : Type} (f : α → β) (xs : List α) (i j : Option Int) : cutL (xs.map f) i j = (cutL xs i j).map f := by
  unfold cutL
  rw [List.length_map, List.map_take, List.map_drop]
theorem cutL_to {α : Type} {xs : List α} {k : Int} (h : 0 ≤ k) : cutL xs none (some k) = xs.take k.toNat := by
  unfold cutL
  rw [HT.sIx_none]
  obtain ⟨n, rfl⟩ := Int.eq_ofNat_of_zero_le h
  rw [HT.sIx_nat]
  simp only [List.drop_zero, Nat.sub_zero, Int.toNat_natCast]
  by_cases hn : n ≤ xs.length
  · rw [Nat.min_eq_left hn]
  · rw [Nat.min_eq_right (by omega), List.take_of_length_le (by omega), List.take_of_length_le (by omega)]
theorem cutL_from {α : Type} {xs : List α} {k : Int} (h : 0 ≤ k) : cutL xs (some k) none = xs.drop k.toNat := by
  unfold cutL
  obtain ⟨n, rfl⟩ := Int.eq_ofNat_of_zero_le h
  rw [HT.sIx_nat, HT.sIx_none]
  simp only [Int.toNat_natCast]
  by_cases hn : n ≤ xs.length
  · rw [Nat.min_eq_left hn, List.take_of_length_le (by simp)]
  · rw [Nat.min_eq_right (by omega)]
    simp
    omega
/-! ### plain data: what may be compared -/
inductive Pl : Nat → D → Prop
  | non {n : Nat} : Pl n .non
  | int {n : Nat} (i : Int) : Pl n (.int i)
  | str {n : Nat} {x : Str} (h : PyData.strOk x = true) : Pl n (.str x)
  | tup {n : Nat} {xs : List D} (h : ∀ x ∈ xs, Pl n x) : Pl (n + 1) (.tup xs)
  | lst {n : Nat} {xs : List D} (h : ∀ x ∈ xs, Pl n x) : Pl (n + 1) (.lst xs)
theorem Pl.mono {n m : Nat} {d : D} (h : Pl n d) (hm : n ≤ m) : Pl m d := by
  induction h generalizing m with
  | non => exact .non
  | int i => exact .int i
  | str h => exact .str h
  | tup h ih => cases m with | zero => omega | succ m => exact .tup fun x hx => ih x hx (by omega)
  | lst h ih => cases m with | zero => omega | succ m => exact .lst fun x hx => ih x hx (by omega)
theorem toPys_lay {xs : List D} (h : ∀ x ∈ xs, (toPy x).canLay0 = true) : PyData.canLayAll0 (toPys xs) = true := by
  induction xs with
  | nil => rfl
  | cons x xs ih =>
    simp only [toPys, PyData.canLayAll0, Bool.and_eq_true]
    exact ⟨h x List.mem_cons_self, ih fun y hy => h y (List.mem_cons_of_mem _ hy)⟩
theorem toPys_depth {xs : List D} {n : Nat} (h : ∀ x ∈ xs, (toPy x).depth ≤ n) : PyData.depthAll (toPys xs) ≤ n := by
  induction xs with
  | nil => simp [toPys, PyData.depthAll]
  | cons x xs ih =>
    simp only [toPys, PyData.depthAll]
    have h1 := h x List.mem_cons_self
    have h2 := ih fun y hy => h y (List.mem_cons_of_mem _ hy)
    omega
theorem Pl.lay {n : Nat} {d : D} (h : Pl n d) : (toPy d).canLay0 = true ∧ (toPy d).depth ≤ n := by
  induction h with
  | non => exact ⟨rfl, Nat.zero_le _⟩
  | int i => exact ⟨rfl, Nat.zero_le _⟩
  | str h => exact ⟨by simpa [toPy, PyData.canLay0] using h, Nat.zero_le _⟩
  | tup h ih =>
    refine ⟨by simpa [toPy, PyData.canLay0] using toPys_lay fun x hx => (ih x hx).1, ?_⟩
    simp only [toPy, PyData.depth]
    exact Nat.succ_le_succ (toPys_depth fun x hx => (ih x hx).2)
  | lst h ih =>
    refine ⟨by simpa [toPy, PyData.canLay0] using toPys_lay fun x hx => (ih x hx).1, ?_⟩
    simp only [toPy, PyData.depth]
    exact Nat.succ_le_succ (toPys_depth fun x hx => (ih x hx).2)
theorem Pl.sh {n : Nat} {d : D} (h : Pl n d) (hn : n ≤ 64) : shD d = true := by
  unfold shD SeqAt.shaped
  rw [Bool.and_eq_true]
  exact ⟨h.lay.1, decide_eq_true (Nat.le_trans h.lay.2 hn)⟩
mutual
theorem eqB_of : ∀ {n m : Nat} {x y : D}, Pl n x → Pl m y → (PyData.eqv (toPy x) (toPy y) = true ↔ x = y)
  | _, _, _, _, .non, .non => by simp [toPy, PyData.eqv]
  | _, _, _, _, .non, .int i => by simp [toPy, PyData.eqv]
  | _, _, _, _, .non, .str h => by simp [toPy, PyData.eqv]
  | _, _, _, _, .non, .tup h => by simp [toPy, PyData.eqv]
  | _, _, _, _, .non, .lst h => by simp [toPy, PyData.eqv]
  | _, _, _, _, .int i, .non => by simp [toPy, PyData.eqv]
  | _, _, _, _, .int i, .int j => by simp [toPy, PyData.eqv]
  | _, _, _, _, .int i, .str h => by simp [toPy, PyData.eqv]
  | _, _, _, _, .int i, .tup h => by simp [toPy, PyData.eqv]
  | _, _, _, _, .int i, .lst h => by simp [toPy, PyData.eqv]
  | _, _, _, _, .str g, .non => by simp [toPy, PyData.eqv]
  | _, _, _, _, .str g, .int i => by simp [toPy, PyData.eqv]
  | _, _, _, _, .str g, .str h => by simp [toPy, PyData.eqv]
  | _, _, _, _, .str g, .tup h => by simp [toPy, PyData.eqv]
  | _, _, _, _, .str g, .lst h => by simp [toPy, PyData.eqv]
  | _, _, _, _, .tup g, .non => by simp [toPy, PyData.eqv]
  | _, _, _, _, .tup g, .int i => by simp [toPy, PyData.eqv]
  | _, _, _, _, .tup g, .str h => by simp [toPy, PyData.eqv]
  | _, _, _, _, .tup g, .tup h => by simp only [toPy, PyData.eqv, D.tup.injEq]; exact eqL_of g h
  | _, _, _, _, .tup g, .lst h => by simp [toPy, PyData.eqv]
  | _, _, _, _, .lst g, .non => by simp [toPy, PyData.eqv]
  | _, _, _, _, .lst g, .int i => by simp [toPy, PyData.eqv]
  | _, _, _, _, .lst g, .str h => by simp [toPy, PyData.eqv]
  | _, _, _, _, .lst g, .tup h => by simp [toPy, PyData.eqv]
  | _, _, _, _, .lst g, .lst h => by simp only [toPy, PyData.eqv, D.lst.injEq]; exact eqL_of g h
theorem eqL_of : ∀ {n m : Nat} {xs ys : List D}, (∀ x ∈ xs, Pl n x) → (∀ y ∈ ys, Pl m y) → (PyData.eqvAll (toPys xs) (toPys ys) = true ↔ xs = ys)
  | _, _, [], [], _, _ => by simp [toPys, PyData.eqvAll]
  | _, _, [], _ :: _, _, _ => by simp [toPys, PyData.eqvAll]
  | _, _, _ :: _, [], _, _ => by simp [toPys, PyData.eqvAll]
  | _, _, x :: xs, y :: ys, h, g => by
    simp only [toPys, PyData.eqvAll, Bool.and_eq_true, List.cons.injEq]
    rw [eqB_of (h x List.mem_cons_self) (g y List.mem_cons_self), eqL_of (fun z hz => h z (List.mem_cons_of_mem _ hz)) (fun z hz => g z (List.mem_cons_of_mem _ hz))]
end
theorem eqB_iff {n m : Nat} {x y : D} (h : Pl n x) (g : Pl m y) : eqB x y = true ↔ x = y := eqB_of h g
theorem eq_pl {n m : Nat} {x y : D} (h : Pl n x) (g : Pl m y) (hn : n ≤ 64) (hm : m ≤ 64) : eqD x y = some (.bl (decide (x = y))) := by
  unfold eqD
  rw [if_pos ⟨h.sh hn, g.sh hm⟩]
  congr 2
  rw [Bool.eq_iff_iff, eqB_iff h g, decide_eq_true_eq]
theorem ne_pl {n m : Nat} {x y : D} (h : Pl n x) (g : Pl m y) (hn : n ≤ 64) (hm : m ≤ 64) : neD x y = some (.bl (!decide (x = y))) := by
  unfold neD
  rw [if_pos ⟨h.sh hn, g.sh hm⟩]
  congr 3
  rw [Bool.eq_iff_iff, eqB_iff h g, decide_eq_true_eq]
@[simp] theorem r_eq (i j : Int) : eqD (.int i) (.int j) = some (.bl (decide (i = j))) := by
  rw [eq_pl (.int (n := 0) i) (.int (n := 0) j) (by decide) (by decide)]
  congr 2
  rw [Bool.eq_iff_iff, decide_eq_true_eq, decide_eq_true_eq, D.int.injEq]
@[simp] theorem r_ne (i j : Int) : neD (.int i) (.int j) = some (.bl (!decide (i = j))) := by
  rw [ne_pl (.int (n := 0) i) (.int (n := 0) j) (by decide) (by decide)]
  congr 3
  rw [Bool.eq_iff_iff, decide_eq_true_eq, decide_eq_true_eq, D.int.injEq]
@[simp] theorem r_eqb (i j : Bool) : eqD (.bl i) (.bl j) = some (.bl (decide (i = j))) := by
  have h : ∀ b : Bool, shD (.bl b) = true := fun b => by cases b <;> rfl
  unfold eqD
  rw [if_pos ⟨h i, h j⟩]
  cases i <;> cases j <;> rfl
@[simp] theorem r_neb (i j : Bool) : neD (.bl i) (.bl j) = some (.bl (!decide (i = j))) := by
  have h : ∀ b : Bool, shD (.bl b) = true := fun b => by cases b <;> rfl
  unfold neD
  rw [if_pos ⟨h i, h j⟩]
  cases i <;> cases j <;> rfl
theorem inL_pl {n : Nat} {x : D} {ys : List D} (h : Pl n x) (g : ∀ y ∈ ys, Pl n y) (hn : n < 64) : inD x (.lst ys) = some (.bl (decide (x ∈ ys))) := by
  unfold inD
  simp only
  rw [if_pos ⟨h.sh (by omega), (Pl.lst g).sh (by omega)⟩]
  congr 2
  rw [Bool.eq_iff_iff, List.any_eq_true, decide_eq_true_eq]
  constructor
  · rintro ⟨z, hz, e⟩
    rw [eqB_iff (g z hz) h] at e
    exact e ▸ hz
  · intro hx
    exact ⟨x, hx, (eqB_iff (g x hx) h).mpr rfl⟩
theorem ninL_pl {n : Nat} {x : D} {ys : List D} (h : Pl n x) (g : ∀ y ∈ ys, Pl n y) (hn : n < 64) : ninD x (.lst ys) = some (.bl (!decide (x ∈ ys))) := by
  have := inL_pl h g hn
  unfold inD at this
  simp only at this
  unfold ninD
  simp only
  rw [if_pos ⟨h.sh (by omega), (Pl.lst g).sh (by omega)⟩] at this ⊢
  simp only [Option.some.injEq, D.bl.injEq] at this
  rw [this]
/-- lists of ints as data -/
def tI (ns : List Int) : D := .tup (ns.map .int)
def lI (ns : List Int) : D := .lst (ns.map .int)
theorem pl_ints {n : Nat} (ns : List Int) : ∀ x ∈ ns.map D.int, Pl n x := fun x hx => by
  obtain ⟨i, _, rfl⟩ := List.mem_map.mp hx
  exact .int i
theorem pl_tI {n : Nat} (ns : List Int) : Pl (n + 1) (tI ns) := .tup (pl_ints ns)
theorem int_inj : Function.Injective D.int := fun _ _ h => by cases h; rfl
theorem tI_inj {a b : List Int} : tI a = tI b ↔ a = b := by
  unfold tI
  constructor
  · intro h
    injection h with h
    exact List.map_inj_right (f := D.int) (fun _ _ e => by cases e; rfl) |>.mp h
  · intro h; rw [h]
theorem eq_tI (a b : List Int) : eqD (tI a) (tI b) = some (.bl (decide (a = b))) := by
  rw [eq_pl (pl_tI (n := 0) a) (pl_tI (n := 0) b) (by decide) (by decide)]
  congr 2
  rw [Bool.eq_iff_iff, decide_eq_true_eq, decide_eq_true_eq, tI_inj]
theorem asBls_map (bs : List Bool) : asBls (bs.map D.bl) = some bs := by
  induction bs with
  | nil => rfl
  | cons b bs ih => simp [asBls, ih]
theorem asInts_map (bs : List Int) : asInts (bs.map D.int) = some bs := by
  induction bs with
  | nil => rfl
  | cons b bs ih => simp [asInts, ih]
theorem all_bls (bs : List Bool) : allD [.lst (bs.map D.bl)] = some (.bl (bs.all id)) := by simp [allD, asBls_map]
theorem any_bls (bs : List Bool) : anyD [.lst (bs.map D.bl)] = some (.bl (bs.any id)) := by simp [anyD, asBls_map]
theorem sum_ints (bs : List Int) : sumD [.lst (bs.map D.int)] = some (.int bs.sum) := by simp [sumD, asInts_map]
/-- isinstance of each kind -/
theorem kit_tab : kitB "tuple" "tuple" = some true ∧ kitB "tuple" "list" = some false ∧ kitB "tuple" "bool" = some false ∧ kitB "tuple" "int" = some false ∧ kitB "tuple" "str" = some false ∧
    kitB "list" "tuple" = some false ∧ kitB "list" "list" = some true ∧ kitB "list" "bool" = some false ∧ kitB "list" "int" = some false ∧ kitB "list" "str" = some false ∧
    kitB "bool" "tuple" = some false ∧ kitB "bool" "list" = some false ∧ kitB "bool" "bool" = some true ∧ kitB "bool" "int" = some true ∧ kitB "bool" "str" = some false ∧
    kitB "int" "tuple" = some false ∧ kitB "int" "list" = some false ∧ kitB "int" "bool" = some false ∧ kitB "int" "int" = some true ∧ kitB "int" "str" = some false ∧
    kitB "str" "tuple" = some false ∧ kitB "str" "list" = some false ∧ kitB "str" "bool" = some false ∧ kitB "str" "int" = some false ∧ kitB "str" "str" = some true ∧
    kitB "NoneType" "tuple" = some false ∧ kitB "NoneType" "list" = some false ∧ kitB "NoneType" "bool" = some false ∧ kitB "NoneType" "int" = some false ∧ kitB "NoneType" "str" = some false := by decide +kernel
/-- whether a datum is of the type so named, by data -/
def isTy (T : String) : D → Bool
  | .non => false
  | .bl _ => T == "bool" || T == "int"
  | .int _ => T == "int"
  | .str _ => T == "str"
  | .tup _ => T == "tuple"
  | .lst _ => T == "list"
  | .dct _ => T == "dict"
  | .box => false
def noBox : D → Bool
  | .box => false
  | .dct _ => false
  | _ => true
theorem isi_ty {T : String} {d : D} (h : noBox d = true) (hT : T = "tuple" ∨ T = "list" ∨ T = "bool" ∨ T = "int" ∨ T = "str") : isiD T d = some (.bl (isTy T d)) := by
  obtain ⟨a1, a2, a3, a4, a5, b1, b2, b3, b4, b5, c1, c2, c3, c4, c5, d1, d2, d3, d4, d5, e1, e2, e3, e4, e5, f1, f2, f3, f4, f5⟩ := kit_tab
  rcases hT with rfl | rfl | rfl | rfl | rfl <;> cases d <;> first
    | (cases h; done)
    | (simp only [isiD, tyName, Option.bind_some, a1, a2, a3, a4, a5, b1, b2, b3, b4, b5, c1, c2, c3, c4, c5, d1, d2, d3, d4, d5, e1, e2, e3, e4, e5, f1, f2, f3, f4, f5, Option.map_some]; rfl)
@[simp] theorem i_tuple_NoneType : isiD "tuple" .non = some (.bl false) := isi_ty (d := .non) rfl (.inl rfl)
@[simp] theorem i_tuple_bool (b : Bool) : isiD "tuple" (.bl b) = some (.bl false) := isi_ty (d := (.bl b)) rfl (.inl rfl)
@[simp] theorem i_tuple_int (i : Int) : isiD "tuple" (.int i) = some (.bl false) := isi_ty (d := (.int i)) rfl (.inl rfl)
@[simp] theorem i_tuple_str (x : Str) : isiD "tuple" (.str x) = some (.bl false) := isi_ty (d := (.str x)) rfl (.inl rfl)
@[simp] theorem i_tuple_tuple (xs : List D) : isiD "tuple" (.tup xs) = some (.bl true) := isi_ty (d := (.tup xs)) rfl (.inl rfl)
@[simp] theorem i_tuple_list (xs : List D) : isiD "tuple" (.lst xs) = some (.bl false) := isi_ty (d := (.lst xs)) rfl (.inl rfl)
@[simp] theorem i_list_NoneType : isiD "list" .non = some (.bl false) := isi_ty (d := .non) rfl (.inr (.inl rfl))
@[simp] theorem i_list_bool (b : Bool) : isiD "list" (.bl b) = some (.bl false) := isi_ty (d := (.bl b)) rfl (.inr (.inl rfl))
@[simp] theorem i_list_int (i : Int) : isiD "list" (.int i) = some (.bl false) := isi_ty (d := (.int i)) rfl (.inr (.inl rfl))
@[simp] theorem i_list_str (x : Str) : isiD "list" (.str x) = some (.bl false) := isi_ty (d := (.str x)) rfl (.inr (.inl rfl))
@[simp] theorem i_list_tuple (xs : List D) : isiD "list" (.tup xs) = some (.bl false) := isi_ty (d := (.tup xs)) rfl (.inr (.inl rfl))
@[simp] theorem i_list_list (xs : List D) : isiD "list" (.lst xs) = some (.bl true) := isi_ty (d := (.lst xs)) rfl (.inr (.inl rfl))
@[simp] theorem i_bool_NoneType : isiD "bool" .non = some (.bl false) := isi_ty (d := .non) rfl (.inr (.inr (.inl rfl)))
@[simp] theorem i_bool_bool (b : Bool) : isiD "bool" (.bl b) = some (.bl true) := isi_ty (d := (.bl b)) rfl (.inr (.inr (.inl rfl)))
@[simp] theorem i_bool_int (i : Int) : isiD "bool" (.int i) = some (.bl false) := isi_ty (d := (.int i)) rfl (.inr (.inr (.inl rfl)))
@[simp] theorem i_bool_str (x : Str) : isiD "bool" (.str x) = some (.bl false) := isi_ty (d := (.str x)) rfl (.inr (.inr (.inl rfl)))
@[simp] theorem i_bool_tuple (xs : List D) : isiD "bool" (.tup xs) = some (.bl false) := isi_ty (d := (.tup xs)) rfl (.inr (.inr (.inl rfl)))
@[simp] theorem i_bool_list (xs : List D) : isiD "bool" (.lst xs) = some (.bl false) := isi_ty (d := (.lst xs)) rfl (.inr (.inr (.inl rfl)))
@[simp] theorem i_int_NoneType : isiD "int" .non = some (.bl false) := isi_ty (d := .non) rfl (.inr (.inr (.inr (.inl rfl))))
@[simp] theorem i_int_bool (b : Bool) : isiD "int" (.bl b) = some (.bl true) := isi_ty (d := (.bl b)) rfl (.inr (.inr (.inr (.inl rfl))))
@[simp] theorem i_int_int (i : Int) : isiD "int" (.int i) = some (.bl true) := isi_ty (d := (.int i)) rfl (.inr (.inr (.inr (.inl rfl))))
@[simp] theorem i_int_str (x : Str) : isiD "int" (.str x) = some (.bl false) := isi_ty (d := (.str x)) rfl (.inr (.inr (.inr (.inl rfl))))
@[simp] theorem i_int_tuple (xs : List D) : isiD "int" (.tup xs) = some (.bl false) := isi_ty (d := (.tup xs)) rfl (.inr (.inr (.inr (.inl rfl))))
@[simp] theorem i_int_list (xs : List D) : isiD "int" (.lst xs) = some (.bl false) := isi_ty (d := (.lst xs)) rfl (.inr (.inr (.inr (.inl rfl))))
@[simp] theorem i_str_NoneType : isiD "str" .non = some (.bl false) := isi_ty (d := .non) rfl (.inr (.inr (.inr (.inr rfl))))
@[simp] theorem i_str_bool (b : Bool) : isiD "str" (.bl b) = some (.bl false) := isi_ty (d := (.bl b)) rfl (.inr (.inr (.inr (.inr rfl))))
@[simp] theorem i_str_int (i : Int) : isiD "str" (.int i) = some (.bl false) := isi_ty (d := (.int i)) rfl (.inr (.inr (.inr (.inr rfl))))
@[simp] theorem i_str_str (x : Str) : isiD "str" (.str x) = some (.bl true) := isi_ty (d := (.str x)) rfl (.inr (.inr (.inr (.inr rfl))))
@[simp] theorem i_str_tuple (xs : List D) : isiD "str" (.tup xs) = some (.bl false) := isi_ty (d := (.tup xs)) rfl (.inr (.inr (.inr (.inr rfl))))
@[simp] theorem i_str_list (xs : List D) : isiD "str" (.lst xs) = some (.bl false) := isi_ty (d := (.lst xs)) rfl (.inr (.inr (.inr (.inr rfl))))
end Sn

namespace Sn
open PySem PySem.Spec PyProof.Rows L2
section
variable {S : Type} {α β : Type} {τ l τ' l' : Type}
theorem Wp.op2 {g : D → D → Option D} {ma mb : M S D} {P : D → Prop} (h : Wp ma fun x => Wp mb fun y => ∃ d, g x y = some d ∧ P d) : Wp (op2M g ma mb) P :=
  Wp.bnd (h.mono fun _ h => Wp.bnd (h.mono fun _ ⟨_, e, p⟩ => by rw [e]; exact Wp.ret p))
theorem Wp.rng1 {ma : M S D} {P : List D → Prop} (h : Wp ma fun d => ∃ n : Int, d = .int n ∧ (-(2 ^ 62) ≤ n ∧ n < 2 ^ 62) ∧ P (rng 0 n)) : Wp (rng1M ma) P :=
  Wp.bnd (h.mono fun _ ⟨n, e, b, p⟩ => by subst e; exact Wp.eq (rng1_ok b.1 b.2) (Wp.ret p))
theorem Wp.compM {mi : M S (List D)} {f : D → M S (Option D)} {P : D → Prop} (h : Wp mi fun xs => xs.length ≤ 16777216 ∧ Wp (compL f xs) fun ys => P (.lst ys)) : Wp (compM mi f) P :=
  Wp.bnd (h.mono fun xs ⟨hl, h⟩ => by rw [if_pos (by rw [sizeLine_eq]; exact hl)]; exact Wp.bnd (h.mono fun _ p => Wp.ret p))
theorem Wp.elt {m : M S D} {P : Option D → Prop} (h : Wp m fun y => P (some y)) : Wp (eltM (Sn.ret true) m) P :=
  Wp.eq (r_eltT m) (Wp.bnd (h.mono fun _ p => Wp.ret p))
theorem Wp.own {m : M S D} {k : D → M S (Fl τ l)} {P : Fl τ l → Prop} (h : Wp m fun d => isMut d = true ∧ Wp (k d) P) : Wp (ownM m k) P :=
  Wp.bnd (h.mono fun _ ⟨e, h⟩ => by rw [if_pos e]; exact h)
theorem Wp.ite {n : M S Bool} {mA mB : M S (Fl τ' l)} {k : τ' → M S (Fl τ l)} {P : Fl τ l → Prop} (h : Wp n fun t => Wp (if t = true then mA else mB) fun f => Wp (seqF f k) P) : Wp (iteF n mA mB k) P :=
  Wp.bnd (h.mono fun _ h => Wp.bnd h)
theorem Wp.iteN {n : M S Bool} {mA mB : M S (Fl τ' l)} {k : τ' → M S (Fl τ l)} {P : Fl τ l → Prop} (h : Wp n fun t => Wp (if t = true then mA else mB) fun f => ∃ s, f = .nx s ∧ Wp (k s) P) : Wp (iteF n mA mB k) P :=
  Wp.ite (h.mono fun _ h => h.mono fun _ ⟨_, e, h⟩ => by subst e; exact h)
theorem Wp.cmp {g : D → D → Option D} {ma mb : M S D} {P : Bool → Prop} (h : Wp ma fun x => Wp mb fun y => ∃ b, g x y = some (.bl b) ∧ P b) : Wp (cmpT g ma mb) P :=
  Wp.bnd (h.mono fun _ h => Wp.bnd (h.mono fun _ ⟨_, e, p⟩ => by rw [e]; exact Wp.ret p))
theorem Wp.bc {g : List D → Option D} {mr : M S (List D)} {P : D → Prop} (h : Wp mr fun xs => ∃ d, g xs = some d ∧ P d) : Wp (bcM g mr) P :=
  Wp.bnd (h.mono fun _ ⟨_, e, p⟩ => by rw [e]; exact Wp.ret p)
theorem Wp.cons {m : M S D} {mr : M S (List D)} {P : List D → Prop} (h : Wp m fun x => Wp mr fun xs => P (x :: xs)) : Wp (consM m mr) P :=
  Wp.bnd (h.mono fun _ h => Wp.bnd (h.mono fun _ p => Wp.ret p))
theorem Wp.retF {m : M S D} {P : Fl τ l → Prop} (h : Wp m fun d => P (.rt d)) : Wp (retF m) P :=
  Wp.bnd (h.mono fun _ p => Wp.ret p)
theorem Wp.setM {d : D} {me mk : M S D} {k : D → M S (Fl τ l)} {P : Fl τ l → Prop} (h : Wp me fun y => Wp mk fun j => ∃ d', setD d j y = some d' ∧ Wp (k d') P) : Wp (setM d me mk k) P :=
  Wp.bnd (h.mono fun _ h => Wp.bnd (h.mono fun _ ⟨_, e, p⟩ => Wp.bnd (by rw [e]; exact Wp.ret p)))
theorem Wp.appM {d : D} {me : M S D} {k : D → M S (Fl τ l)} {P : Fl τ l → Prop} (h : Wp me fun y => ∃ d', appD d y = some d' ∧ Wp (k d') P) : Wp (appM d me k) P :=
  Wp.bnd (h.mono fun _ ⟨_, e, p⟩ => Wp.bnd (by rw [e]; exact Wp.ret p))
theorem forL_on {f : τ → D → M S (Fl τ τ)} {k : τ → M S (Fl τ' l')} {s0 s1 : τ} {x : D} {xs : List D} (h : f s0 x = ret (.nx s1)) : forL f k (x :: xs) s0 = forL f k xs s1 := by
  rw [forL_cons, h]; rfl
theorem forL_rt {f : τ → D → M S (Fl τ τ)} {k : τ → M S (Fl τ' l')} {s0 : τ} {x d : D} {xs : List D} (h : f s0 x = ret (.rt d)) : forL f k (x :: xs) s0 = ret (.rt d) := by
  rw [forL_cons, h]; rfl
theorem forL_bk {f : τ → D → M S (Fl τ τ)} {k : τ → M S (Fl τ' l')} {s0 s1 : τ} {x : D} {xs : List D} (h : f s0 x = ret (.bk s1)) : forL f k (x :: xs) s0 = k s1 := by
  rw [forL_cons, h]; rfl
theorem forL_ct {f : τ → D → M S (Fl τ τ)} {k : τ → M S (Fl τ' l')} {s0 s1 : τ} {x : D} {xs : List D} (h : f s0 x = ret (.ct s1)) : forL f k (x :: xs) s0 = forL f k xs s1 := by
  rw [forL_cons, h]; rfl
end
/-- a call of draw -/
theorem Wp.drawc {k : Int} {P : D → Prop} (h : 0 < k) (h2 : k < 1073741824) (q : ∀ d : Int, 0 ≤ d → d < k → P (.int d)) : Wp (Sn.bnd (consM (Sn.ret .box) (consM (Sn.ret (.int k)) (Sn.ret []))) m_draw) P :=
  Wp.draw h h2 q
@[simp] theorem r_lst4 (a b c d : D) : lstD [a, b, c, d] = some (.lst [a, b, c, d]) := lstD_le (by simp)
@[simp] theorem r_lst5 (a b c d e : D) : lstD [a, b, c, d, e] = some (.lst [a, b, c, d, e]) := lstD_le (by simp)
@[simp] theorem r_tup6 (a b c d e f : D) : tupD [a, b, c, d, e, f] = some (.tup [a, b, c, d, e, f]) := tupD_le (by simp)
@[simp] theorem r_lst6 (a b c d e f : D) : lstD [a, b, c, d, e, f] = some (.lst [a, b, c, d, e, f]) := lstD_le (by simp)
@[simp] theorem r_tup7 (a b c d e f g : D) : tupD [a, b, c, d, e, f, g] = some (.tup [a, b, c, d, e, f, g]) := tupD_le (by simp)
@[simp] theorem r_lst7 (a b c d e f g : D) : lstD [a, b, c, d, e, f, g] = some (.lst [a, b, c, d, e, f, g]) := lstD_le (by simp)
@[simp] theorem r_tup8 (a b c d e f g h : D) : tupD [a, b, c, d, e, f, g, h] = some (.tup [a, b, c, d, e, f, g, h]) := tupD_le (by simp)
@[simp] theorem r_lst8 (a b c d e f g h : D) : lstD [a, b, c, d, e, f, g, h] = some (.lst [a, b, c, d, e, f, g, h]) := lstD_le (by simp)
@[simp] theorem r_tup9 (a b c d e f g h i : D) : tupD [a, b, c, d, e, f, g, h, i] = some (.tup [a, b, c, d, e, f, g, h, i]) := tupD_le (by simp)
@[simp] theorem r_lst9 (a b c d e f g h i : D) : lstD [a, b, c, d, e, f, g, h, i] = some (.lst [a, b, c, d, e, f, g, h, i]) := lstD_le (by simp)
@[simp] theorem r_tup10 (a b c d e f g h i j : D) : tupD [a, b, c, d, e, f, g, h, i, j] = some (.tup [a, b, c, d, e, f, g, h, i, j]) := tupD_le (by simp)
@[simp] theorem r_lst10 (a b c d e f g h i j : D) : lstD [a, b, c, d, e, f, g, h, i, j] = some (.lst [a, b, c, d, e, f, g, h, i, j]) := lstD_le (by simp)
@[simp] theorem r_tup11 (a b c d e f g h i j k : D) : tupD [a, b, c, d, e, f, g, h, i, j, k] = some (.tup [a, b, c, d, e, f, g, h, i, j, k]) := tupD_le (by simp)
@[simp] theorem r_lst11 (a b c d e f g h i j k : D) : lstD [a, b, c, d, e, f, g, h, i, j, k] = some (.lst [a, b, c, d, e, f, g, h, i, j, k]) := lstD_le (by simp)
@[simp] theorem r_tup12 (a b c d e f g h i j k l : D) : tupD [a, b, c, d, e, f, g, h, i, j, k, l] = some (.tup [a, b, c, d, e, f, g, h, i, j, k, l]) := tupD_le (by simp)
@[simp] theorem r_lst12 (a b c d e f g h i j k l : D) : lstD [a, b, c, d, e, f, g, h, i, j, k, l] = some (.lst [a, b, c, d, e, f, g, h, i, j, k, l]) := lstD_le (by simp)
theorem setD_ok {xs : List D} {i : Int} {y : D} (h : 0 ≤ i) (h2 : i < xs.length) : setD (.lst xs) (.int i) y = some (.lst (xs.set i.toNat y)) := by
  unfold setD
  simp only [ixN_nat h h2, Option.map_some]
theorem modv {k s : Int} : k - k / s * s = k % s := by
  have := Int.emod_add_mul_ediv k s
  rw [Int.mul_comm] at this
  omega
end Sn

namespace Lw
open PySem PySem.Spec PyProof.Rows L2 Sn
def topS (i : Nat) : Stmt := PySem.Challenge.pw_albumsfilled_k61_whole_words_of_reels.main.body.getD i (.Pass ⟨0, 0, 0, 0⟩)
abbrev s__law_load : Stmt := topS 9
abbrev s__law_draw : Stmt := topS 10
abbrev s__law_box : Stmt := topS 8
theorem sc__law_load : FnScope ["box", "cells", "cell", "size", "first", "second"] ["box"] (defScope s__law_load) := ⟨rfl, rfl, rfl, by decide +kernel, rfl, by decide +kernel, by decide +kernel⟩
theorem sc__law_draw : FnScope ["box", "many", "digit"] ["box", "many"] (defScope s__law_draw) := ⟨rfl, rfl, rfl, by decide +kernel, rfl, by decide +kernel, by decide +kernel⟩
theorem sc__law_box : FnScope ["script"] ["script"] (defScope s__law_box) := ⟨rfl, rfl, rfl, by decide +kernel, rfl, by decide +kernel, by decide +kernel⟩
section
variable {P : Program} {w : World} {K : PySem.W.Frag} {mg : Str → Option Value} {base : Heap}
theorem ok_load {f : Addr} {fd : FuncData} {k : Nat} (F : Fun K "_law_load" "_law_load" s__law_load f fd) (ml : mg "len" = none) (mi : mg "int" = none) : FnOk P w K mg base CX0 (k + 1) f fd ["box"] spLoad := by
  refine F.ok sc__law_load (fun vs H Q E h => ?_) (fun cdv A outer s H vs Q E hr h => ?_)
  · obtain ⟨β, γ, cells, dig, seed, rfl, _⟩ := h
    rfl
  · obtain ⟨β, γ, cells, dig, seed, rfl, hβ, hγ, hlen, hs0, hs1, q⟩ := h
    have hne : β ≠ γ := ne_of hβ hγ (by intro e; cases cells <;> cases e)
    -- the end, from any seed and any cells
    obtain ⟨tR, hR, qR⟩ : ∃ t, PSs (cxOf CX0 P w K mg base ["box", "cells", "cell", "size", "first", "second"] "_law_load" (defScope s__law_load) f cdv A outer s H E).nox ((defBody s__law_load).drop 2) t ∧
        ∀ (H1 : Hp) (cs : List Int) (sd : Int) (o1 o2 o3 : Option V), Else2 H H1 β γ → H1 β = some (.lst [.ref γ, .int dig, .int sd]) → H1 γ = some (.lst (cs.map V.int)) → 0 ≤ sd → sd < 2147483648 → bxLoad cells seed = bxLast cs sd →
          t { nx := fun _ H' => Q .non H', rt := Q } [some (.ref β), o1, o2, o3, none, none] H1 := by
      refine ⟨_, (pss_cons (ps_set (i := 4) sc__law_load.nd rfl (.inl rfl) (pe_op op_mod (pe_callTy call_int1 (by rfl) mi (by decide +kernel) (pa_cons (pe_op op_add (pe_op op_mul (pe_ix ix_list (pv 0) pe_int (fun _ _ => rfl)) pe_int) pe_int) pa_nil)) pe_int))
        (pss_cons (ps_set (i := 5) sc__law_load.nd rfl (.inl rfl) (pe_op op_mod (pe_callTy call_int1 (by rfl) mi (by decide +kernel) (pa_cons (pe_op op_add (pe_op op_mul (pv 4) pe_int) pe_int) pa_nil)) pe_int))
        (pss_cons (ps_asg (pe_op op_mod (pe_callTy call_int1 (by rfl) mi (by decide +kernel) (pa_cons (pe_op op_add (pe_op op_mul (pv 5) pe_int) pe_int) pa_nil)) pe_int) (pg_sub (pv 0) pe_int set_list))
        (pss_one (ps_ret (pe_op op_add (pe_op op_add (pe_op op_mul (pv 4) pe_int) (pe_op op_mul (pv 5) pe_int)) (pe_ix ix_list (pv 0) pe_int (fun _ _ => rfl)))))))), ?_⟩
      intro H1 cs sd o1 o2 o3 el h1 h2 g0 g1 e
      obtain ⟨b1, b2, b3⟩ := bxSeed_nn sd
      have e1 : (sd * 48271 + 17) % 2147483629 = (bxSeed sd).1 := rfl
      have e2 : ((bxSeed sd).1 * 69621 + 5) % 2147483587 = (bxSeed sd).2.1 := rfl
      have e3 : ((bxSeed sd).2.1 * 40692 + 3) % 2147483563 = (bxSeed sd).2.2 := rfl
      refine ⟨.ref β, rfl, β, _, 2, .int sd, rfl, rfl, .inl (.inl h1), rfl, sd, 48271, rfl, rfl, .inl (by omega), _, 17, rfl, rfl, .inl ⟨_, rfl, _, 2147483629, rfl, rfl, (by show (0 : Int) < 2147483629; decide), ?_⟩⟩
      refine ⟨.int (bxSeed sd).1, rfl, (bxSeed sd).1, 69621, rfl, rfl, .inl (by omega), _, 5, rfl, rfl, .inl ⟨_, rfl, _, 2147483587, rfl, rfl, (by show (0 : Int) < 2147483587; decide), ?_⟩⟩
      refine ⟨.int (bxSeed sd).2.1, rfl, (bxSeed sd).2.1, 40692, rfl, rfl, .inl (by omega), _, 3, rfl, rfl, .inl ⟨_, rfl, _, 2147483563, rfl, rfl, (by show (0 : Int) < 2147483563; decide), ?_⟩⟩
      refine ⟨.ref β, rfl, β, _, 2, 2, rfl, rfl, h1, rfl, ?_⟩
      refine ⟨.int (bxSeed sd).1, rfl, (bxSeed sd).1, 4611686014132420609, rfl, rfl, .inl (by omega), .int (bxSeed sd).2.1, rfl, (bxSeed sd).2.1, 2147483647, rfl, rfl, .inl (by omega), _, _, rfl, rfl, .ref β, rfl, β, _, 2, .int (bxSeed sd).2.2, rfl, rfl, .inl (.inl upd_same), rfl, _, _, rfl, rfl, ?_⟩
      have qq := q (upd H1 β (.lst [.ref γ, .int dig, .int (bxSeed sd).2.2])) (fun a n1 n2 => by rw [upd_ne n1]; exact el a n1 n2)
      rw [e] at qq
      exact qq upd_same (by rw [upd_ne hne.symm]; exact h2)
    refine ⟨_, pss_cons (ps_set (i := 1) sc__law_load.nd rfl (.inl rfl) (pe_ix ix_list (pv 0) pe_int (fun _ _ => rfl)))
      (pss_cons (ps_if (pt_cmpR op_gt (pe_callB call_len_seq (by rfl) ml PySem.boot_len (pa_cons (pv 1) pa_nil)) pe_int (nomark _))
        (pss_cons (ps_set (i := 2) sc__law_load.nd rfl (.inl rfl) (pe_callTy call_int1 (by rfl) mi (by decide +kernel) (pa_cons (pe_bm PySem.F.plainAttrs_list PySem.F.slot_list_pop PySem.F.type_list_pop mt_popAt (pv 1) (pa_cons pe_int pa_nil)) pa_nil)))
        (pss_cons (ps_set (i := 3) sc__law_load.nd rfl (.inl rfl) (pe_ifExp (pt_cmpR op_ge (pv 2) pe_int (nomark _)) (pe_op op_mul pe_int (pv 2)) (pe_op op_sub (pe_op op_mul (pe_un un_neg pe_int) (pv 2)) pe_int)))
        (pss_cons (ps_if (pt_cmpR op_ge (pv 3) pe_int (nomark _)) (pss_one (ps_ret (pv 3))) pss_nil)
        (pss_one (ps_asg (pe_op op_mod (pe_callTy call_int1 (by rfl) mi (by decide +kernel) (pa_cons (pe_op op_add (pe_op op_add (pe_op op_mul (pe_ix ix_list (pv 0) pe_int (fun _ _ => rfl)) pe_int) (pe_op op_mul (pv 3) pe_int)) pe_int) pa_nil)) pe_int) (pg_sub (pv 0) pe_int set_list))))))
        pss_nil)
      hR), ?_⟩
    refine ⟨.ref β, rfl, β, _, 0, .ref γ, rfl, rfl, .inl (.inl hβ), rfl, ?_⟩
    refine ⟨.ref γ, rfl, γ, cells.map V.int, rfl, .inl (.inl (.inl hγ)), _, 0, rfl, rfl, _, rfl, ite2 (fun hc => ?_) (fun hc => ?_)⟩
    · have hc' : (0 : Int) < ((cells.map V.int).length : Int) := of_decide_eq_true hc
      rw [List.length_map] at hc'
      obtain ⟨c, cs, rfl⟩ : ∃ c cs, cells = c :: cs := by
        cases cells with
        | nil => simp at hc'
        | cons c cs => exact ⟨c, cs, rfl⟩
      have hsq : seqIndex? 0 ((c :: cs).map V.int).length = some 0 := by
        have := (ixN_seq (n := ((c :: cs).map V.int).length) (i := 0) (j := 0) (by unfold ixN; rw [if_pos (by decide), if_pos (by rw [List.length_map, List.length_cons]; omega)]; rfl)).1
        exact this
      refine ⟨.ref γ, rfl, .inl ⟨rfl, _, .inl (.inl hγ)⟩, γ, _, 0, 0, .int c, rfl, rfl, hγ, by decide, by decide, hsq, rfl, .inl ⟨c, rfl, ?_⟩⟩
      have hβ2 : (upd H γ (.lst ((((c :: cs).map V.int)).eraseIdx 0))) β = some (.lst [.ref γ, .int dig, .int seed]) := by rw [upd_ne hne]; exact hβ
      have hγ2 : (upd H γ (.lst ((((c :: cs).map V.int)).eraseIdx 0))) γ = some (.lst (cs.map V.int)) := by rw [upd_same]; rfl
      have el2 : Else2 H (upd H γ (.lst ((((c :: cs).map V.int)).eraseIdx 0))) β γ := fun a n1 n2 => upd_ne n2
      generalize upd H γ (.lst ((((c :: cs).map V.int)).eraseIdx 0)) = H2 at hβ2 hγ2 el2 ⊢
      refine ⟨.int c, rfl, c, 0, rfl, rfl, _, rfl, ?_⟩
      -- size, told
      have sn := bxSize_nn c
      have rest : ∀ sz : Int, sz = bxSize c → (tSeq (tIfS (tTest (tOp (rI0 fun i j => .bl (decide (j ≤ i))) (tVar 3) (tC (.int 1000000000000000000)))) (tRet (tVar 3)) tNext)
          (tAsg (tOp (rI (fun _ j => 0 < j) fun i j => .int (i % j)) (tCB (fun xs H Q => (∃ i, xs = [.int i] ∧ Q (.int i) H) ∨ ∃ k, xs = [.bl k] ∧ Q (.int (if k then 1 else 0)) H) (tCons (tOp (rI0 fun i j => .int (i + j)) (tOp (rI0 fun i j => .int (i + j)) (tOp (rI CMul fun i j => .int (i * j)) (tOp (rIxL K) (tVar 0) (tC (.int 2))) (tC (.int 69621))) (tOp (rI CMul fun i j => .int (i * j)) (tVar 3) (tC (.int 48271)))) (tC (.int 11))) tNil)) (tC (.int 2147483647))) (gSub (tVar 0) (tC (.int 2)) rSetL)))
          { nx := tR { nx := fun _ H' => Q .non H', rt := Q }, rt := Q } [some (.ref β), some (.ref γ), some (.int c), some (.int sz), none, none] H2 := by
        intro sz esz
        subst esz
        refine ⟨.int (bxSize c), rfl, bxSize c, 1000000000000000000, rfl, rfl, _, rfl, ite2 (fun hbig => ?_) (fun hsm => ?_)⟩
        · have hb : (1000000000000000000 : Int) ≤ bxSize c := of_decide_eq_true hbig
          have el : bxLoad (c :: cs) seed = (bxSize c, cs, seed) := by unfold bxLoad; simp only; rw [if_pos hb]
          have qq := q H2 el2
          rw [el] at qq
          exact ⟨.int (bxSize c), rfl, qq hβ2 hγ2⟩
        · have hb : ¬ (1000000000000000000 : Int) ≤ bxSize c := fun h => hsm (decide_eq_true h)
          refine ⟨.ref β, rfl, β, _, 2, .int seed, rfl, rfl, .inl (.inl hβ2), rfl, seed, 69621, rfl, rfl, .inl (by omega), .int (bxSize c), rfl, bxSize c, 48271, rfl, rfl, .inl (by omega), _, _, rfl, rfl, _, 11, rfl, rfl, .inl ⟨_, rfl, _, 2147483647, rfl, rfl, (by show (0 : Int) < 2147483647; decide), ?_⟩⟩
          refine ⟨.ref β, rfl, β, _, 2, 2, rfl, rfl, hβ2, rfl, ?_⟩
          refine qR _ cs ((seed * 69621 + bxSize c * 48271 + 11) % 2147483647) _ _ _ (fun a n1 n2 => by rw [upd_ne n1]; exact el2 a n1 n2) upd_same (by rw [upd_ne hne.symm]; exact hγ2) (Int.emod_nonneg _ (by decide)) (Int.lt_trans (Int.emod_lt_of_pos _ (by decide)) (by decide)) ?_
          unfold bxLoad
          simp only
          rw [if_neg hb]
      refine ite2 (fun h0 => ?_) (fun h0 => ?_)
      · have h0' : (0 : Int) ≤ c := of_decide_eq_true h0
        exact ⟨.int c, rfl, 2, c, rfl, rfl, .inl (by decide), rest (2 * c) (by unfold bxSize; rw [if_pos h0'])⟩
      · have h0' : ¬ (0 : Int) ≤ c := fun h => h0 (decide_eq_true h)
        exact ⟨2, rfl, .int c, rfl, -2, c, rfl, rfl, .inl (by decide), _, 1, rfl, rfl, rest (-2 * c - 1) (by unfold bxSize; rw [if_neg h0'])⟩
    · have hc' : ¬ (0 : Int) < ((cells.map V.int).length : Int) := fun h => hc (decide_eq_true h)
      have e0 : cells = [] := by
        cases cells with
        | nil => rfl
        | cons c cs => exact absurd (by rw [List.length_map, List.length_cons]; omega) hc'
      subst e0
      exact qR H [] seed _ _ _ (fun _ _ _ => rfl) hβ hγ hs0 hs1 rfl

theorem ok_box {f : Addr} {fd : FuncData} {k : Nat} (F : Fun K "_law_box" "_law_box" s__law_box f fd) (ml : mg "len" = none) (mi : mg "list" = none) : FnOk P w K mg base CX0 (k + 1) f fd ["script"] (spBox K) := by
  refine F.ok sc__law_box (fun vs H Q E h => ?_) (fun cdv A outer s H vs Q E hr h => ?_)
  · obtain ⟨a, ns, rfl, _⟩ := h
    rfl
  obtain ⟨a, ns, rfl, hS, hlen, q⟩ := h
  refine ⟨_, pss_one (ps_ret (pe_lst (pa_cons (pe_callTy call_list_of (by rfl) mi (by decide +kernel) (pa_cons (pe_slice sl_list (pv 0) po_none (po_some pe_int)) pa_nil)) (pa_cons pe_int (pa_cons (pe_op op_add pe_int (pe_callB call_len_seq (by rfl) ml PySem.boot_len (pa_cons (pv 0) pa_nil))) pa_nil))))), ?_⟩
  have ec : cutV (ns.map V.int) none (some 63) = ns.map V.int := by
    unfold cutV
    rw [HT.sIx_none, show (some (63 : Int)) = some (((63 : Nat) : Int)) from rfl, HT.sIx_nat]
    simp only [List.length_map, List.drop_zero, Nat.sub_zero]
    rw [Nat.min_eq_right hlen]
    exact List.take_of_length_le (by simp)
  refine ⟨.ref a, rfl, 63, rfl, a, _, rfl, hS, fun p hp => ⟨p, _, rfl, .inl (.inl (.inl upd_same)), fun l hl => ?_⟩⟩
  have sm1 : Same H (upd H p (.lst (cutV (ns.map V.int) none (some 63)))) := fun b o h => upd_none hp h
  have sm2 : Same H (upd (upd H p (.lst (cutV (ns.map V.int) none (some 63)))) l (.lst (cutV (ns.map V.int) none (some 63)))) := fun b o h => upd_none hl (sm1 b o h)
  refine ⟨.ref a, rfl, a, _, rfl, .inl (sm2.seq hS), _, _, rfl, rfl, by show (3 : Nat) ≤ sizeLine; decide, fun r hr2 => ?_⟩
  have nl : H l = none := sm1.free hl
  have nr : H r = none := sm2.free hr2
  refine q _ r l (fun b o h => upd_none hr2 (sm2 b o h)) nr nl ?_ ?_ fun sz => ?_
  · rw [upd_same, List.length_map]
  · rw [upd_ne (ne_of_none upd_same hr2), upd_same, ec]
  · have h63 : (cutV (ns.map V.int) none (some 63)).length ≤ sizeLine := by
      rw [ec, List.length_map]
      exact Nat.le_trans hlen (by decide)
    exact Sz.upd (Sz.upd (Sz.upd sz (o := .lst (cutV (ns.map V.int) none (some 63))) h63) (o := .lst (cutV (ns.map V.int) none (some 63))) h63) (by show (3 : Nat) ≤ sizeLine; decide)
theorem ok_draw {f fL : Addr} {fd fdL : FuncData} {k : Nat} (F : Fun K "_law_draw" "_law_draw" s__law_draw f fd) (FL : Fun K "_law_load" "_law_load" s__law_load fL fdL) (bL : Binds K fdL ["box"] []) (gL : mg "_law_load" = some (.ref fL)) (ml : mg "len" = none) (mi : mg "int" = none) :
    FnOk P w K mg base CX0 (k + 2) f fd ["box", "many"] (spF K 2 m_draw) := by
  have GL : FnOk P w K mg base CX0 (k + 1) fL fdL ["box"] spLoad := ok_load FL ml mi
  refine F.ok sc__law_draw (fun vs H Q E h => h.1) (fun cdv A outer s H vs Q E hr h => ?_)
  obtain ⟨hl, W, Z, ds, st, d, st', zh, sz, bx, rl, hm, q⟩ := h
  match ds, hm with
  | [.box, .int many], hm =>
    cases rl with
    | cons r1 rl =>
    cases rl with
    | cons r2 rl =>
    cases rl
    cases r1
    cases r2
    have hm' : (if h : 0 < many ∧ many < 1073741824 then some (Sn.D.int (drawB st many h.1).1, (drawB st many h.1).2) else none) = some (d, st') := hm
    split at hm'
    · rename_i hc
      cases hm'
      obtain ⟨hβ, hγ⟩ := bx
      have hne : W.β ≠ W.γ := ne_of hβ hγ (by intro e; cases h : st.cells <;> rw [h] at e <;> cases e)
      refine ⟨_, pss_cons (ps_if (pt_cmpR op_lt (pe_ix ix_list (pv 0) pe_int (fun _ _ => rfl)) (pv 1) (nomark _))
          (pss_one (ps_asg (pe_call GL hr (by rfl) gL FL.kp bL .nil pass0 (pa_cons (pv 0) pa_nil)) (pg_sub (pv 0) pe_int set_list))) pss_nil)
        (pss_cons (ps_set (i := 2) sc__law_draw.nd rfl (.inl rfl) (pe_op op_mod (pe_callTy call_int1 (by rfl) mi (by decide +kernel) (pa_cons (pe_ix ix_list (pv 0) pe_int (fun _ _ => rfl)) pa_nil)) (pv 1)))
        (pss_cons (ps_asg (pe_op op_fdiv (pe_ix ix_list (pv 0) pe_int (fun _ _ => rfl)) (pv 1)) (pg_sub (pv 0) pe_int set_list))
        (pss_one (ps_ret (pv 2))))), ?_⟩
      refine ⟨.ref W.β, rfl, W.β, _, 1, .int st.dig, rfl, rfl, .inl (.inl hβ), rfl, .int many, rfl, st.dig, many, rfl, rfl, _, rfl, ite2 (fun hlt => ?_) (fun hlt => ?_)⟩
      · have hlt' : st.dig < many := of_decide_eq_true hlt
        have nn := bxLoad_nn st.cells st.seed st.hs
        have hlen : st.cells.length ≤ sizeLine := by
          have := sz.lst hγ
          rwa [List.length_map] at this
        refine ⟨.ref W.β, rfl, W.β, W.γ, st.cells, st.dig, st.seed, rfl, hβ, hγ, hlen, st.hs.1, st.hs.2, fun H1 el h1 h2 => ?_⟩
        refine ⟨.ref W.β, rfl, W.β, _, 1, 1, rfl, rfl, h1, rfl, ?_⟩
        refine ⟨.ref W.β, rfl, W.β, _, 1, .int (bxLoad st.cells st.seed).1, rfl, rfl, .inl (.inl upd_same), rfl, .inl ⟨_, rfl, .int many, rfl, _, many, rfl, rfl, hc.1, ?_⟩⟩
        refine ⟨.ref W.β, rfl, W.β, _, 1, .int (bxLoad st.cells st.seed).1, rfl, rfl, .inl (.inl upd_same), rfl, .int many, rfl, _, many, rfl, rfl, hc, ?_⟩
        refine ⟨.ref W.β, rfl, W.β, _, 1, 1, rfl, rfl, upd_same, rfl, ?_⟩
        refine ⟨_, rfl, ?_⟩
        have ed : drawB st many hc.1 = ((bxLoad st.cells st.seed).1 % many, ⟨(bxLoad st.cells st.seed).2.1, (bxLoad st.cells st.seed).1 / many, (bxLoad st.cells st.seed).2.2, Int.ediv_nonneg nn.1 (Int.le_of_lt hc.1), nn.2⟩) := by
          unfold drawB
          rw [if_pos hlt']
        rw [ed] at q
        refine q _ Z _ ⟨Sub.refl _, fun a o h => ?_, fun a o h nb => ?_, fun a o h => .inl h, fun hs => ?_⟩ ⟨?_, ?_⟩ (.int _)
        · have n1 : a ≠ W.β := fun e => (zh a o h).2 (.inl e)
          have n2 : a ≠ W.γ := fun e => (zh a o h).2 (.inr e)
          exact ⟨by rw [upd_ne n1, upd_ne n1, el a n1 n2]; exact (zh a o h).1, (zh a o h).2⟩
        · have n1 : a ≠ W.β := fun e => nb (.inl e)
          have n2 : a ≠ W.γ := fun e => nb (.inr e)
          rw [upd_ne n1, upd_ne n1, el a n1 n2]; exact h
        · refine Sz.upd (Sz.upd (fun a vs hr => ?_) (by show (3 : Nat) ≤ sizeLine; decide)) (by show (3 : Nat) ≤ sizeLine; decide)
          by_cases e1 : a = W.β
          · subst e1
            rcases hr with hr | hr <;> rw [h1] at hr <;> cases hr
            show (3 : Nat) ≤ sizeLine
            decide
          · by_cases e2 : a = W.γ
            · subst e2
              rcases hr with hr | hr <;> rw [h2] at hr <;> cases hr
              rw [List.length_map]
              have le := bxLoad_len st.cells st.seed
              exact Nat.le_trans le hlen
            · refine hs a vs ?_
              rw [← el a e1 e2]
              exact hr
        · rw [upd_same]; rfl
        · rw [upd_ne hne.symm, upd_ne hne.symm]; exact h2
      · have hlt' : ¬ st.dig < many := fun h => hlt (decide_eq_true h)
        refine ⟨.ref W.β, rfl, W.β, _, 1, .int st.dig, rfl, rfl, .inl (.inl hβ), rfl, .inl ⟨_, rfl, .int many, rfl, _, many, rfl, rfl, hc.1, ?_⟩⟩
        refine ⟨.ref W.β, rfl, W.β, _, 1, .int st.dig, rfl, rfl, .inl (.inl hβ), rfl, .int many, rfl, _, many, rfl, rfl, hc, ?_⟩
        refine ⟨.ref W.β, rfl, W.β, _, 1, 1, rfl, rfl, hβ, rfl, ?_⟩
        refine ⟨_, rfl, ?_⟩
        have ed : drawB st many hc.1 = (st.dig % many, ⟨st.cells, st.dig / many, st.seed, Int.ediv_nonneg st.hd (Int.le_of_lt hc.1), st.hs⟩) := by
          unfold drawB
          rw [if_neg hlt']
        rw [ed] at q
        refine q _ Z _ ⟨Sub.refl _, fun a o h => ?_, fun a o h nb => ?_, fun a o h => .inl h, fun hs => ?_⟩ ⟨?_, ?_⟩ (.int _)
        · have n1 : a ≠ W.β := fun e => (zh a o h).2 (.inl e)
          exact ⟨by rw [upd_ne n1]; exact (zh a o h).1, (zh a o h).2⟩
        · have n1 : a ≠ W.β := fun e => nb (.inl e)
          rw [upd_ne n1]; exact h
        · exact hs.upd (by show (3 : Nat) ≤ sizeLine; decide)
        · rw [upd_same]; rfl
        · rw [upd_ne hne.symm]; exact hγ
    · cases hm'
end
end Lw

namespace Lw
open PySem PySem.Spec PyProof.Rows L2 Sn
section
variable {P : Program} {w : World} {K : PySem.W.Frag} {mg : Str → Option Value} {base : Heap}
abbrev s_is_turn_of : Stmt := topS 1
theorem sc_is_turn_of : FnScope ["word", "p"] ["word", "p"] (defScope s_is_turn_of) := ⟨rfl, rfl, rfl, by decide +kernel, rfl, by decide +kernel, by decide +kernel⟩
def b_is_turn_of (word_1 : D) (p_2 : D) : M Bx (Fl Unit Unit) :=
  (retF (op2M eqD (slM (ret word_1) (ptM (ret p_2)) (ret none)) (slM (ret word_1) (ret none) (ptM (op2M subD (bcM lenD (consM (ret word_1) (ret []))) (ret p_2))))))
def mb_is_turn_of : List D → M Bx (Fl Unit Unit)
  | [word_1, p_2] => b_is_turn_of word_1 p_2
  | _ => stuck
def m_is_turn_of (ds : List D) : M Bx D := bnd (mb_is_turn_of ds) endF
set_option maxHeartbeats 0 in
theorem h_is_turn_of {f : Addr} {fd : FuncData} (F : Fun K "is_turn_of" "is_turn_of" s_is_turn_of f fd) (g : mg "is_turn_of" = some (.ref f)) (z_len : mg "len" = none) : HasF (S := Bx) ⟨P, w, K, mg, base⟩ 1 "is_turn_of" 2 m_is_turn_of :=
  hasF_mk g F sc_is_turn_of (F.binds fun _ _ _ _ _ _ us hl => match us, hl with | [_, _], _ => rfl) rfl fun ds hl => match ds, hl with
    | [word_1, p_2], _ =>
      (OkB.ret (Ok.frz (Ok.cmp o_eq (Ok.view (Ok.sl (Ok.view (Ok.var (i := 0) rfl (.inl rfl) rfl)) (OkO.some (Ok.view (Ok.var (i := 1) rfl (.inl rfl) rfl))) OkO.none)) (Ok.view (Ok.sl (Ok.view (Ok.var (i := 0) rfl (.inl rfl) rfl)) OkO.none (OkO.some (Ok.view (Ok.op o_sub (Ok.view (Ok.bfun o_len (by decide +kernel) rfl z_len (Ok.cons (Ok.view (Ok.var (i := 0) rfl (.inl rfl) rfl)) Ok.nil))) (Ok.view (Ok.var (i := 1) rfl (.inl rfl) rfl))))))))))
abbrev s_turns_of : Stmt := topS 2
theorem sc_turns_of : FnScope ["word", "p"] ["word"] (defScope s_turns_of) := ⟨rfl, rfl, rfl, by decide +kernel, rfl, by decide +kernel, by decide +kernel⟩
def b_turns_of (word_3 : D) : M Bx (Fl Unit Unit) :=
  (retF (bcM tupleD (consM (compM (rng2M (ret (.int 1)) (op2M addD (bcM lenD (consM (ret word_3) (ret []))) (ret (.int 1)))) fun p_4 => (eltM (valT (bnd (consM (ret word_3) (consM (ret p_4) (ret []))) m_is_turn_of)) (ret p_4))) (ret []))))
def mb_turns_of : List D → M Bx (Fl Unit Unit)
  | [word_3] => b_turns_of word_3
  | _ => stuck
def m_turns_of (ds : List D) : M Bx D := bnd (mb_turns_of ds) endF
set_option maxHeartbeats 0 in
theorem h_turns_of {f : Addr} {fd : FuncData} (F : Fun K "turns_of" "turns_of" s_turns_of f fd) (g : mg "turns_of" = some (.ref f)) (z_len : mg "len" = none) (z_range : mg "range" = none) (z_tuple : mg "tuple" = none) (h_is_turn_of : HasF (S := Bx) ⟨P, w, K, mg, base⟩ 1 "is_turn_of" 2 m_is_turn_of) : HasF (S := Bx) ⟨P, w, K, mg, base⟩ 2 "turns_of" 1 m_turns_of :=
  hasF_mk g F sc_turns_of (F.binds fun _ _ _ _ _ _ us hl => match us, hl with | [_], _ => rfl) rfl fun ds hl => match ds, hl with
    | [word_3], _ =>
      (OkB.ret (Ok.frz (Ok.tfun o_tuple (by decide +kernel) rfl z_tuple (Ok.cons (Ok.view (OkC.n (Ok.lc [("p", 1)] (OkI.range2 (Ok.view Ok.int) (Ok.view (Ok.op o_add (Ok.view (Ok.bfun o_len (by decide +kernel) rfl z_len (Ok.cons (Ok.view (Ok.var (i := 0) rfl (.inr (.inl rfl)) rfl)) Ok.nil))) (Ok.view Ok.int))) rfl z_range) fun p_4 => (BindOk.name (i := 1) rfl (.inl rfl) (.inr rfl) (BindOk.nil ⟨_, _, (OkTs.one (OkT.val (Ok.view (Ok.call h_is_turn_of (Nat.le_of_ble_eq_true rfl) rfl (Ok.cons (Ok.var (i := 0) rfl (.inr (.inl rfl)) rfl) (Ok.cons (Ok.var (i := 1) rfl (.inl rfl) rfl) Ok.nil)))))), (Ok.var (i := 1) rfl (.inl rfl) rfl), rfl⟩))))) Ok.nil))))
abbrev s_shortest_reel : Stmt := topS 3
theorem sc_shortest_reel : FnScope ["word"] ["word"] (defScope s_shortest_reel) := ⟨rfl, rfl, rfl, by decide +kernel, rfl, by decide +kernel, by decide +kernel⟩
def b_shortest_reel (word_5 : D) : M Bx (Fl Unit Unit) :=
  (retF (slM (ret word_5) (ret none) (ptM (ixM (bnd (consM (ret word_5) (ret [])) m_turns_of) (ret (.int 0))))))
def mb_shortest_reel : List D → M Bx (Fl Unit Unit)
  | [word_5] => b_shortest_reel word_5
  | _ => stuck
def m_shortest_reel (ds : List D) : M Bx D := bnd (mb_shortest_reel ds) endF
set_option maxHeartbeats 0 in
theorem h_shortest_reel {f : Addr} {fd : FuncData} (F : Fun K "shortest_reel" "shortest_reel" s_shortest_reel f fd) (g : mg "shortest_reel" = some (.ref f)) (h_turns_of : HasF (S := Bx) ⟨P, w, K, mg, base⟩ 2 "turns_of" 1 m_turns_of) : HasF (S := Bx) ⟨P, w, K, mg, base⟩ 3 "shortest_reel" 1 m_shortest_reel :=
  hasF_mk g F sc_shortest_reel (F.binds fun _ _ _ _ _ _ us hl => match us, hl with | [_], _ => rfl) rfl fun ds hl => match ds, hl with
    | [word_5], _ =>
      (OkB.ret (Ok.frz (Ok.sl (Ok.view (Ok.var (i := 0) rfl (.inl rfl) rfl)) OkO.none (OkO.some (Ok.view (Ok.ix (Ok.view (Ok.call h_turns_of (Nat.le_of_ble_eq_true rfl) rfl (Ok.cons (Ok.var (i := 0) rfl (.inl rfl) rfl) Ok.nil))) (Ok.view Ok.int)))))))
abbrev s_fails_at : Stmt := topS 4
theorem sc_fails_at : FnScope ["word", "p", "i"] ["word", "p"] (defScope s_fails_at) := ⟨rfl, rfl, rfl, by decide +kernel, rfl, by decide +kernel, by decide +kernel⟩
def b_fails_at (word_6 : D) (p_7 : D) : M Bx (Fl Unit Unit) :=
  (forM' (rng1M (op2M subD (bcM lenD (consM (ret word_6) (ret []))) (ret p_7))) (fun (s_8 : Unit) i_9 => (iteF (cmpT neD (ixM (ret word_6) (ret i_9)) (ixM (ret word_6) (op2M addD (ret i_9) (ret p_7)))) (retF (ret i_9)) (ret (.nx ())) fun (s_10 : Unit) => (ret (.nx ())))) () fun s_11 => (retF (ret .non)))
def mb_fails_at : List D → M Bx (Fl Unit Unit)
  | [word_6, p_7] => b_fails_at word_6 p_7
  | _ => stuck
def m_fails_at (ds : List D) : M Bx D := bnd (mb_fails_at ds) endF
set_option maxHeartbeats 0 in
theorem h_fails_at {f : Addr} {fd : FuncData} (F : Fun K "fails_at" "fails_at" s_fails_at f fd) (g : mg "fails_at" = some (.ref f)) (z_len : mg "len" = none) (z_range : mg "range" = none) : HasF (S := Bx) ⟨P, w, K, mg, base⟩ 1 "fails_at" 2 m_fails_at :=
  hasF_mk g F sc_fails_at (F.binds fun _ _ _ _ _ _ us hl => match us, hl with | [_, _], _ => rfl) rfl fun ds hl => match ds, hl with
    | [word_6, p_7], _ =>
      (OkB.forR (Γl := fun (s_8 : Unit) => [some (.frz word_6), some (.frz p_7), none]) (s0 := ()) (OkI.range1 (Ok.view (Ok.op o_sub (Ok.view (Ok.bfun o_len (by decide +kernel) rfl z_len (Ok.cons (Ok.view (Ok.var (i := 0) rfl (.inl rfl) rfl)) Ok.nil))) (Ok.view (Ok.var (i := 1) rfl (.inl rfl) rfl)))) rfl z_range) (wk_mask (bs := [true, true, false])) (fun s_8 i_9 => (BindOk.name (i := 2) rfl (.inl rfl) (.inl rfl) (BindOk.nil (OkB.ite (Γj := fun (s_10 : Unit) => [some (.frz word_6), some (.frz p_7), none]) (OkT.cmp o_ne (Ok.view (Ok.ix (Ok.view (Ok.var (i := 0) rfl (.inl rfl) rfl)) (Ok.view (Ok.var (i := 2) rfl (.inl rfl) rfl)))) (Ok.view (Ok.ix (Ok.view (Ok.var (i := 0) rfl (.inl rfl) rfl)) (Ok.view (Ok.op o_add (Ok.view (Ok.var (i := 2) rfl (.inl rfl) rfl)) (Ok.view (Ok.var (i := 1) rfl (.inl rfl) rfl))))))) (OkB.ret (Ok.var (i := 2) rfl (.inl rfl) rfl)) (OkB.nil (s := ()) (wk_mask (bs := [true, true, false]))) fun s_10 => (OkB.nil (s := ()) (wk_mask (bs := [true, true, false]))))))) fun s_11 => (OkB.ret Ok.non))
abbrev s_shortest_machine : Stmt := topS 5
theorem sc_shortest_machine : FnScope ["seen", "j", "packet"] ["seen"] (defScope s_shortest_machine) := ⟨rfl, rfl, rfl, by decide +kernel, rfl, by decide +kernel, by decide +kernel⟩
def b_shortest_machine (seen_12 : D) : M Bx (Fl Unit Unit) :=
  (retF (bcM tupleD (consM (compM (rng1M (bcM lenD (consM (ixM (ret seen_12) (ret (.int 0))) (ret [])))) fun j_13 => (eltM (ret true) (bnd (consM (bcM tupleD (consM (compM (itM (ret seen_12)) fun packet_14 => (eltM (ret true) (ixM (ret packet_14) (ret j_13)))) (ret []))) (ret [])) m_shortest_reel))) (ret []))))
def mb_shortest_machine : List D → M Bx (Fl Unit Unit)
  | [seen_12] => b_shortest_machine seen_12
  | _ => stuck
def m_shortest_machine (ds : List D) : M Bx D := bnd (mb_shortest_machine ds) endF
set_option maxHeartbeats 0 in
theorem h_shortest_machine {f : Addr} {fd : FuncData} (F : Fun K "shortest_machine" "shortest_machine" s_shortest_machine f fd) (g : mg "shortest_machine" = some (.ref f)) (z_len : mg "len" = none) (z_range : mg "range" = none) (z_tuple : mg "tuple" = none) (h_shortest_reel : HasF (S := Bx) ⟨P, w, K, mg, base⟩ 3 "shortest_reel" 1 m_shortest_reel) : HasF (S := Bx) ⟨P, w, K, mg, base⟩ 4 "shortest_machine" 1 m_shortest_machine :=
  hasF_mk g F sc_shortest_machine (F.binds fun _ _ _ _ _ _ us hl => match us, hl with | [_], _ => rfl) rfl fun ds hl => match ds, hl with
    | [seen_12], _ =>
      (OkB.ret (Ok.frz (Ok.tfun o_tuple (by decide +kernel) rfl z_tuple (Ok.cons (Ok.view (OkC.n (Ok.lc [("j", 1)] (OkI.range1 (Ok.view (Ok.bfun o_len (by decide +kernel) rfl z_len (Ok.cons (Ok.view (Ok.ix (Ok.view (Ok.var (i := 0) rfl (.inr (.inl rfl)) rfl)) (Ok.view Ok.int))) Ok.nil))) rfl z_range) fun j_13 => (BindOk.name (i := 1) rfl (.inr rfl) (.inl rfl) (BindOk.nil ⟨_, _, OkTs.nil, (Ok.call h_shortest_reel (Nat.le_of_ble_eq_true rfl) rfl (Ok.cons (Ok.frz (Ok.tfun o_tuple (by decide +kernel) rfl z_tuple (Ok.cons (Ok.view (OkC.n (Ok.lc [("packet", 2)] (OkI.val (Ok.var (i := 0) rfl (.inr (.inl rfl)) rfl) (fun h => by first | rfl | cases h)) fun packet_14 => (BindOk.name (i := 2) rfl (.inl rfl) (.inr rfl) (BindOk.nil ⟨_, _, OkTs.nil, (Ok.ix (Ok.view (Ok.var (i := 2) rfl (.inl rfl) rfl)) (Ok.view (Ok.var (i := 1) rfl (.inr (.inl rfl)) rfl))), rfl⟩))))) Ok.nil))) Ok.nil)), rfl⟩))))) Ok.nil))))
abbrev s__law_flat : Stmt := topS 7
theorem sc__law_flat : FnScope ["rows", "found", "row"] ["rows"] (defScope s__law_flat) := ⟨rfl, rfl, rfl, by decide +kernel, rfl, by decide +kernel, by decide +kernel⟩
def b__law_flat (rows_15 : D) : M Bx (Fl Unit Unit) :=
  (ownM (lstM (ret [])) fun found_16 => (forM' (itM (ret rows_15)) (fun (s_17 : D) row_18 => (extM s_17 (ret row_18) fun found_19 => (ret (.nx found_19)))) found_16 fun s_20 => (retF (ret s_20))))
def mb__law_flat : List D → M Bx (Fl Unit Unit)
  | [rows_15] => b__law_flat rows_15
  | _ => stuck
def m__law_flat (ds : List D) : M Bx D := bnd (mb__law_flat ds) endF
set_option maxHeartbeats 0 in
theorem h__law_flat {f : Addr} {fd : FuncData} (F : Fun K "_law_flat" "_law_flat" s__law_flat f fd) (g : mg "_law_flat" = some (.ref f)) : HasF (S := Bx) ⟨P, w, K, mg, base⟩ 1 "_law_flat" 1 m__law_flat :=
  hasF_mk g F sc__law_flat (F.binds fun _ _ _ _ _ _ us hl => match us, hl with | [_], _ => rfl) rfl fun ds hl => match ds, hl with
    | [rows_15], _ =>
      (OkB.setO (i := 1) rfl (.inl rfl) (.inl rfl) (Ok.lst Ok.nil) (fun found_16 => (OkB.forR (Γl := fun (s_17 : D) => [some (.frz rows_15), some (.own s_17), none]) (s0 := found_16) (OkI.val (Ok.var (i := 0) rfl (.inl rfl) rfl) (fun h => by first | rfl | cases h)) (wk_mask (bs := [true, true, false])) (fun s_17 row_18 => (BindOk.name (i := 2) rfl (.inl rfl) (.inl rfl) (BindOk.nil (OkB.ext (i := 1) rfl (.inl rfl) rfl (Ok.view (Ok.var (i := 2) rfl (.inl rfl) rfl)) fun found_19 => (OkB.nil (s := found_19) (wk_mask (bs := [true, true, false]))))))) fun s_20 => (OkB.freeze 1 rfl (OkB.ret (Ok.var (i := 1) rfl (.inl rfl) rfl))))))
abbrev s__law_same : Stmt := topS 11
theorem sc__law_same : FnScope ["a", "b", "k"] ["a", "b"] (defScope s__law_same) := ⟨rfl, rfl, rfl, by decide +kernel, rfl, by decide +kernel, by decide +kernel⟩
def b__law_same (self : List D → M Bx D) (a_21 : D) (b_22 : D)  : M Bx (Fl Unit Unit) :=
  (iteF (orT (andT (valT (isiM "tuple" (ret a_21))) (valT (isiM "tuple" (ret b_22)))) (andT (valT (isiM "list" (ret a_21))) (valT (isiM "list" (ret b_22))))) (retF (andM (op2M eqD (bcM lenD (consM (ret a_21) (ret []))) (bcM lenD (consM (ret b_22) (ret [])))) (bcM allD (consM (compM (rng1M (bcM lenD (consM (ret a_21) (ret [])))) fun k_23 => (eltM (ret true) (bnd (consM (ixM (ret a_21) (ret k_23)) (consM (ixM (ret b_22) (ret k_23)) (ret []))) self))) (ret []))))) (ret (.nx ())) fun (s_24 : Unit) => (iteF (orT (valT (isiM "bool" (ret a_21))) (valT (isiM "bool" (ret b_22)))) (retF (andM (isiM "bool" (ret a_21)) (andM (isiM "bool" (ret b_22)) (op2M eqD (ret a_21) (ret b_22))))) (ret (.nx ())) fun (s_25 : Unit) => (iteF (orT (andT (valT (isiM "int" (ret a_21))) (valT (isiM "int" (ret b_22)))) (andT (valT (isiM "str" (ret a_21))) (valT (isiM "str" (ret b_22))))) (retF (op2M eqD (ret a_21) (ret b_22))) (ret (.nx ())) fun (s_26 : Unit) => (retF (andM (op2M isD (ret a_21) (ret .non)) (op2M isD (ret b_22) (ret .non)))))))
def mb__law_same (self : List D → M Bx D) : List D → M Bx (Fl Unit Unit)
  | [a_21, b_22] => b__law_same self a_21 b_22
  | _ => stuck
def m__law_same : Nat → List D → M Bx D
  | 0 => fun _ => stuck
  | n + 1 => fun ds => bnd (mb__law_same (m__law_same n) ds) endF
set_option maxHeartbeats 0 in
theorem st__law_same {k : Nat} (hk : 0 ≤ k) (self : List D → M Bx D) (hself : HasF (S := Bx) ⟨P, w, K, mg, base⟩ k "_law_same" 2 self) {f : Addr} {fd : FuncData} (F : Fun K "_law_same" "_law_same" s__law_same f fd) (g : mg "_law_same" = some (.ref f)) (z_all : mg "all" = none) (z_bool : mg "bool" = none) (z_int : mg "int" = none) (z_isinstance : mg "isinstance" = none) (z_len : mg "len" = none) (z_list : mg "list" = none) (z_range : mg "range" = none) (z_str : mg "str" = none) (z_tuple : mg "tuple" = none) : HasF ⟨P, w, K, mg, base⟩ (k + 1) "_law_same" 2 fun ds => bnd (mb__law_same self ds) endF :=
  hasF_mk g F sc__law_same (F.binds fun _ _ _ _ _ _ us hl => match us, hl with | [_, _], _ => rfl) rfl fun ds hl => match ds, hl with
    | [a_21, b_22], _ =>
      (OkB.ite (Γj := fun (s_24 : Unit) => [some (.frz a_21), some (.frz b_22), none]) (OkW.pt (OkW.or (OkW.pt (OkW.and (OkT.val (Ok.view (Ok.isinst (T := "tuple") (Ok.view (Ok.var (i := 0) rfl (.inr (.inl rfl)) rfl)) rfl z_isinstance rfl z_tuple (by decide +kernel)))) (OkW.and1 (OkT.val (Ok.view (Ok.isinst (T := "tuple") (Ok.view (Ok.var (i := 1) rfl (.inr (.inl rfl)) rfl)) rfl z_isinstance rfl z_tuple (by decide +kernel))))))) (OkW.or1 (OkW.pt (OkW.and (OkT.val (Ok.view (Ok.isinst (T := "list") (Ok.view (Ok.var (i := 0) rfl (.inr (.inl rfl)) rfl)) rfl z_isinstance rfl z_list (by decide +kernel)))) (OkW.and1 (OkT.val (Ok.view (Ok.isinst (T := "list") (Ok.view (Ok.var (i := 1) rfl (.inr (.inl rfl)) rfl)) rfl z_isinstance rfl z_list (by decide +kernel)))))))))) (OkB.ret (Ok.and (Ok.view (Ok.cmp o_eq (Ok.view (Ok.bfun o_len (by decide +kernel) rfl z_len (Ok.cons (Ok.view (Ok.var (i := 0) rfl (.inr (.inl rfl)) rfl)) Ok.nil))) (Ok.view (Ok.bfun o_len (by decide +kernel) rfl z_len (Ok.cons (Ok.view (Ok.var (i := 1) rfl (.inr (.inl rfl)) rfl)) Ok.nil))))) (Ok.one (Ok.frz (Ok.bfun o_all (by decide +kernel) rfl z_all (Ok.cons (Ok.view (OkC.n (Ok.lc [("k", 2)] (OkI.range1 (Ok.view (Ok.bfun o_len (by decide +kernel) rfl z_len (Ok.cons (Ok.view (Ok.var (i := 0) rfl (.inr (.inl rfl)) rfl)) Ok.nil))) rfl z_range) fun k_23 => (BindOk.name (i := 2) rfl (.inl rfl) (.inr rfl) (BindOk.nil ⟨_, _, OkTs.nil, (Ok.call hself (Nat.le_refl _) rfl (Ok.cons (Ok.ix (Ok.view (Ok.var (i := 0) rfl (.inr (.inl rfl)) rfl)) (Ok.view (Ok.var (i := 2) rfl (.inl rfl) rfl))) (Ok.cons (Ok.ix (Ok.view (Ok.var (i := 1) rfl (.inr (.inl rfl)) rfl)) (Ok.view (Ok.var (i := 2) rfl (.inl rfl) rfl))) Ok.nil))), rfl⟩))))) Ok.nil)))))) (OkB.nil (s := ()) (wk_mask (bs := [true, true, false]))) fun s_24 => (OkB.ite (Γj := fun (s_25 : Unit) => [some (.frz a_21), some (.frz b_22), none]) (OkW.pt (OkW.or (OkT.val (Ok.view (Ok.isinst (T := "bool") (Ok.view (Ok.var (i := 0) rfl (.inr (.inl rfl)) rfl)) rfl z_isinstance rfl z_bool (by decide +kernel)))) (OkW.or1 (OkT.val (Ok.view (Ok.isinst (T := "bool") (Ok.view (Ok.var (i := 1) rfl (.inr (.inl rfl)) rfl)) rfl z_isinstance rfl z_bool (by decide +kernel))))))) (OkB.ret (Ok.and (Ok.view (Ok.isinst (T := "bool") (Ok.view (Ok.var (i := 0) rfl (.inr (.inl rfl)) rfl)) rfl z_isinstance rfl z_bool (by decide +kernel))) (Ok.and (Ok.view (Ok.isinst (T := "bool") (Ok.view (Ok.var (i := 1) rfl (.inr (.inl rfl)) rfl)) rfl z_isinstance rfl z_bool (by decide +kernel))) (Ok.one (Ok.frz (Ok.cmp o_eq (Ok.view (Ok.var (i := 0) rfl (.inr (.inl rfl)) rfl)) (Ok.view (Ok.var (i := 1) rfl (.inr (.inl rfl)) rfl)))))))) (OkB.nil (s := ()) (wk_mask (bs := [true, true, false]))) fun s_25 => (OkB.ite (Γj := fun (s_26 : Unit) => [some (.frz a_21), some (.frz b_22), none]) (OkW.pt (OkW.or (OkW.pt (OkW.and (OkT.val (Ok.view (Ok.isinst (T := "int") (Ok.view (Ok.var (i := 0) rfl (.inr (.inl rfl)) rfl)) rfl z_isinstance rfl z_int (by decide +kernel)))) (OkW.and1 (OkT.val (Ok.view (Ok.isinst (T := "int") (Ok.view (Ok.var (i := 1) rfl (.inr (.inl rfl)) rfl)) rfl z_isinstance rfl z_int (by decide +kernel))))))) (OkW.or1 (OkW.pt (OkW.and (OkT.val (Ok.view (Ok.isinst (T := "str") (Ok.view (Ok.var (i := 0) rfl (.inr (.inl rfl)) rfl)) rfl z_isinstance rfl z_str (by decide +kernel)))) (OkW.and1 (OkT.val (Ok.view (Ok.isinst (T := "str") (Ok.view (Ok.var (i := 1) rfl (.inr (.inl rfl)) rfl)) rfl z_isinstance rfl z_str (by decide +kernel)))))))))) (OkB.ret (Ok.frz (Ok.cmp o_eq (Ok.view (Ok.var (i := 0) rfl (.inr (.inl rfl)) rfl)) (Ok.view (Ok.var (i := 1) rfl (.inr (.inl rfl)) rfl))))) (OkB.nil (s := ()) (wk_mask (bs := [true, true, false]))) fun s_26 => (OkB.ret (Ok.and (Ok.view (Ok.cmp o_is (Ok.view (Ok.var (i := 0) rfl (.inr (.inl rfl)) rfl)) (Ok.view Ok.non))) (Ok.one (Ok.frz (Ok.cmp o_is (Ok.view (Ok.var (i := 1) rfl (.inr (.inl rfl)) rfl)) (Ok.view Ok.non)))))))))
theorem h__law_same {f : Addr} {fd : FuncData} (F : Fun K "_law_same" "_law_same" s__law_same f fd) (g : mg "_law_same" = some (.ref f)) (z_all : mg "all" = none) (z_bool : mg "bool" = none) (z_int : mg "int" = none) (z_isinstance : mg "isinstance" = none) (z_len : mg "len" = none) (z_list : mg "list" = none) (z_range : mg "range" = none) (z_str : mg "str" = none) (z_tuple : mg "tuple" = none) : ∀ n, HasF (S := Bx) ⟨P, w, K, mg, base⟩ (1 + n) "_law_same" 2 (m__law_same n)
  | 0 => hasF_stuck g F (F.binds (ps := ["a", "b"]) fun _ _ _ _ _ _ us hl => match us, hl with | [_, _], _ => rfl) rfl
  | n + 1 => st__law_same (Nat.le_trans (by decide) (Nat.le_add_right _ n)) _ (h__law_same F g z_all z_bool z_int z_isinstance z_len z_list z_range z_str z_tuple n) F g z_all z_bool z_int z_isinstance z_len z_list z_range z_str z_tuple
abbrev s__law_turn : Stmt := topS 12
theorem sc__law_turn : FnScope ["word", "p", "k"] ["word", "p"] (defScope s__law_turn) := ⟨rfl, rfl, rfl, by decide +kernel, rfl, by decide +kernel, by decide +kernel⟩
def b__law_turn (word_27 : D) (p_28 : D) : M Bx (Fl Unit Unit) :=
  (retF (bcM allD (consM (compM (rng1M (op2M subD (bcM lenD (consM (ret word_27) (ret []))) (ret p_28))) fun k_29 => (eltM (ret true) (op2M eqD (ixM (ret word_27) (ret k_29)) (ixM (ret word_27) (op2M addD (ret k_29) (ret p_28)))))) (ret []))))
def mb__law_turn : List D → M Bx (Fl Unit Unit)
  | [word_27, p_28] => b__law_turn word_27 p_28
  | _ => stuck
def m__law_turn (ds : List D) : M Bx D := bnd (mb__law_turn ds) endF
set_option maxHeartbeats 0 in
theorem h__law_turn {f : Addr} {fd : FuncData} (F : Fun K "_law_turn" "_law_turn" s__law_turn f fd) (g : mg "_law_turn" = some (.ref f)) (z_all : mg "all" = none) (z_len : mg "len" = none) (z_range : mg "range" = none) : HasF (S := Bx) ⟨P, w, K, mg, base⟩ 1 "_law_turn" 2 m__law_turn :=
  hasF_mk g F sc__law_turn (F.binds fun _ _ _ _ _ _ us hl => match us, hl with | [_, _], _ => rfl) rfl fun ds hl => match ds, hl with
    | [word_27, p_28], _ =>
      (OkB.ret (Ok.frz (Ok.bfun o_all (by decide +kernel) rfl z_all (Ok.cons (Ok.view (OkC.n (Ok.lc [("k", 2)] (OkI.range1 (Ok.view (Ok.op o_sub (Ok.view (Ok.bfun o_len (by decide +kernel) rfl z_len (Ok.cons (Ok.view (Ok.var (i := 0) rfl (.inr (.inl rfl)) rfl)) Ok.nil))) (Ok.view (Ok.var (i := 1) rfl (.inr (.inl rfl)) rfl)))) rfl z_range) fun k_29 => (BindOk.name (i := 2) rfl (.inl rfl) (.inr rfl) (BindOk.nil ⟨_, _, OkTs.nil, (Ok.frz (Ok.cmp o_eq (Ok.view (Ok.ix (Ok.view (Ok.var (i := 0) rfl (.inr (.inl rfl)) rfl)) (Ok.view (Ok.var (i := 2) rfl (.inl rfl) rfl)))) (Ok.view (Ok.ix (Ok.view (Ok.var (i := 0) rfl (.inr (.inl rfl)) rfl)) (Ok.view (Ok.op o_add (Ok.view (Ok.var (i := 2) rfl (.inl rfl) rfl)) (Ok.view (Ok.var (i := 1) rfl (.inr (.inl rfl)) rfl)))))))), rfl⟩))))) Ok.nil))))
abbrev s__law_divisor : Stmt := topS 13
theorem sc__law_divisor : FnScope ["a", "b"] ["a", "b"] (defScope s__law_divisor) := ⟨rfl, rfl, rfl, by decide +kernel, rfl, by decide +kernel, by decide +kernel⟩
def b__law_divisor (a_30 : D) (b_31 : D) : M Bx (Fl Unit Unit) :=
  (whileL (fun (s_32 : D × D) => (cmpT gtD (ret s_32.2) (ret (.int 0)))) (fun s_32 => (parM .E .E (ret s_32.2) (op2M subD (ret s_32.1) (op2M mulD (op2M divD (ret s_32.1) (ret s_32.2)) (ret s_32.2))) fun a_33 b_34 => (ret (.nx (a_33, b_34))))) (fun s_35 => (retF (ret s_35.1))) fuel (a_30, b_31))
def mb__law_divisor : List D → M Bx (Fl Unit Unit)
  | [a_30, b_31] => b__law_divisor a_30 b_31
  | _ => stuck
def m__law_divisor (ds : List D) : M Bx D := bnd (mb__law_divisor ds) endF
set_option maxHeartbeats 0 in
theorem h__law_divisor {f : Addr} {fd : FuncData} (F : Fun K "_law_divisor" "_law_divisor" s__law_divisor f fd) (g : mg "_law_divisor" = some (.ref f)) : HasF (S := Bx) ⟨P, w, K, mg, base⟩ 1 "_law_divisor" 2 m__law_divisor :=
  hasF_mk g F sc__law_divisor (F.binds fun _ _ _ _ _ _ us hl => match us, hl with | [_, _], _ => rfl) rfl fun ds hl => match ds, hl with
    | [a_30, b_31], _ =>
      (OkB.whileR (Γl := fun (s_32 : D × D) => [some (.frz s_32.1), some (.frz s_32.2)]) (s0 := (a_30, b_31)) (n0 := fuel) (wk_mask (bs := [true, true])) (fun s_32 => (OkT.cmp o_gt (Ok.view (Ok.var (i := 1) rfl (.inl rfl) rfl)) (Ok.view Ok.int))) (fun s_32 => (OkB.par2 (i := 0) (j := 1) rfl rfl (by decide) rfl rfl rfl (Ok.var (i := 1) rfl (.inl rfl) rfl) (Ok.frz (Ok.op o_sub (Ok.view (Ok.var (i := 0) rfl (.inl rfl) rfl)) (Ok.view (Ok.op o_mul (Ok.view (Ok.op o_div (Ok.view (Ok.var (i := 0) rfl (.inl rfl) rfl)) (Ok.view (Ok.var (i := 1) rfl (.inl rfl) rfl)))) (Ok.view (Ok.var (i := 1) rfl (.inl rfl) rfl)))))) (.inl rfl) (.inl rfl) fun a_33 b_34 => (OkB.nil (s := (a_33, b_34)) (wk_mask (bs := [true, true]))))) fun s_35 => (OkB.ret (Ok.var (i := 0) rfl (.inl rfl) rfl)))
abbrev s__law_word : Stmt := topS 14
theorem sc__law_word : FnScope ["box", "most", "part", "size", "word", "k"] ["box", "most"] (defScope s__law_word) := ⟨rfl, rfl, rfl, by decide +kernel, rfl, by decide +kernel, by decide +kernel⟩
def b__law_word (box_36 : D) (most_37 : D) : M Bx (Fl Unit Unit) :=
  (bnd (compM (rng1M (op2M addD (ret (.int 1)) (bnd (consM (ret box_36) (consM (ret (.int 5)) (ret []))) m_draw))) fun k_44 => (eltM (ret true) (op2M addD (ret (.int 1)) (bnd (consM (ret box_36) (consM (ret (.int 2)) (ret []))) m_draw)))) fun part_38 => (bnd (op2M addD (ret (.int 1)) (bnd (consM (ret box_36) (consM (ret most_37) (ret []))) m_draw)) fun size_39 => (ownM (compM (rng1M (ret size_39)) fun k_43 => (eltM (ret true) (ixM (ret part_38) (op2M subD (ret k_43) (op2M mulD (op2M divD (ret k_43) (bcM lenD (consM (ret part_38) (ret [])))) (bcM lenD (consM (ret part_38) (ret [])))))))) fun word_40 => (iteF (cmpT eqD (bnd (consM (ret box_36) (consM (ret (.int 3)) (ret []))) m_draw) (ret (.int 0))) (setM word_40 (ret (.int 3)) (bnd (consM (ret box_36) (consM (ret size_39) (ret []))) m_draw) fun word_41 => (ret (.nx word_41))) (ret (.nx word_40)) fun (s_42 : D) => (retF (bcM tupleD (consM (ret s_42) (ret []))))))))
def mb__law_word : List D → M Bx (Fl Unit Unit)
  | [box_36, most_37] => b__law_word box_36 most_37
  | _ => stuck
def m__law_word (ds : List D) : M Bx D := bnd (mb__law_word ds) endF
set_option maxHeartbeats 0 in
theorem h__law_word {f : Addr} {fd : FuncData} (F : Fun K "_law_word" "_law_word" s__law_word f fd) (g : mg "_law_word" = some (.ref f)) (z_len : mg "len" = none) (z_range : mg "range" = none) (z_tuple : mg "tuple" = none) (h__law_draw : HasF (S := Bx) ⟨P, w, K, mg, base⟩ 2 "_law_draw" 2 m_draw) : HasF (S := Bx) ⟨P, w, K, mg, base⟩ 3 "_law_word" 2 m__law_word :=
  hasF_mk g F sc__law_word (F.binds fun _ _ _ _ _ _ us hl => match us, hl with | [_, _], _ => rfl) rfl fun ds hl => match ds, hl with
    | [box_36, most_37], _ =>
      (OkB.set (i := 2) rfl (.inr rfl) (.inl rfl) (Ok.frz (OkC.n (Ok.lc [("k", 5)] (OkI.range1 (Ok.view (Ok.op o_add (Ok.view Ok.int) (Ok.view (Ok.call h__law_draw (Nat.le_of_ble_eq_true rfl) rfl (Ok.cons (Ok.var (i := 0) rfl (.inr (.inl rfl)) rfl) (Ok.cons Ok.int Ok.nil)))))) rfl z_range) fun k_44 => (BindOk.name (i := 5) rfl (.inl rfl) (.inr rfl) (BindOk.nil ⟨_, _, OkTs.nil, (Ok.frz (Ok.op o_add (Ok.view Ok.int) (Ok.view (Ok.call h__law_draw (Nat.le_of_ble_eq_true rfl) rfl (Ok.cons (Ok.var (i := 0) rfl (.inr (.inl rfl)) rfl) (Ok.cons Ok.int Ok.nil)))))), rfl⟩))))) (fun part_38 => (OkB.set (i := 3) rfl (.inl rfl) (.inl rfl) (Ok.frz (Ok.op o_add (Ok.view Ok.int) (Ok.view (Ok.call h__law_draw (Nat.le_of_ble_eq_true rfl) rfl (Ok.cons (Ok.var (i := 0) rfl (.inr (.inl rfl)) rfl) (Ok.cons (Ok.var (i := 1) rfl (.inl rfl) rfl) Ok.nil)))))) (fun size_39 => (OkB.setCO (i := 4) rfl rfl rfl (Ok.lc [("k", 5)] (OkI.range1 (Ok.view (Ok.var (i := 3) rfl (.inl rfl) rfl)) rfl z_range) fun k_43 => (BindOk.name (i := 5) rfl (.inl rfl) (.inr rfl) (BindOk.nil ⟨_, _, OkTs.nil, (Ok.ix (Ok.view (Ok.var (i := 2) rfl (.inr (.inl rfl)) rfl)) (Ok.view (Ok.op o_sub (Ok.view (Ok.var (i := 5) rfl (.inl rfl) rfl)) (Ok.view (Ok.op o_mul (Ok.view (Ok.op o_div (Ok.view (Ok.var (i := 5) rfl (.inl rfl) rfl)) (Ok.view (Ok.bfun o_len (by decide +kernel) rfl z_len (Ok.cons (Ok.view (Ok.var (i := 2) rfl (.inr (.inl rfl)) rfl)) Ok.nil))))) (Ok.view (Ok.bfun o_len (by decide +kernel) rfl z_len (Ok.cons (Ok.view (Ok.var (i := 2) rfl (.inr (.inl rfl)) rfl)) Ok.nil)))))))), rfl⟩))) fun word_40 => (OkB.ite (Γj := fun (s_42 : D) => [none, none, none, none, some (.own s_42), none]) (OkT.cmp o_eq (Ok.view (Ok.call h__law_draw (Nat.le_of_ble_eq_true rfl) rfl (Ok.cons (Ok.var (i := 0) rfl (.inr (.inl rfl)) rfl) (Ok.cons Ok.int Ok.nil)))) (Ok.view Ok.int)) (OkB.setIx (i := 4) rfl (.inl rfl) rfl Ok.int (Ok.view (Ok.call h__law_draw (Nat.le_of_ble_eq_true rfl) rfl (Ok.cons (Ok.var (i := 0) rfl (.inr (.inl rfl)) rfl) (Ok.cons (Ok.var (i := 3) rfl (.inl rfl) rfl) Ok.nil)))) fun word_41 => (OkB.nil (s := word_41) (wk_mask (bs := [false, false, false, false, true, false])))) (OkB.nil (s := word_40) (wk_mask (bs := [false, false, false, false, true, false]))) fun s_42 => (OkB.ret (Ok.frz (Ok.tfun o_tuple (by decide +kernel) rfl z_tuple (Ok.cons (Ok.own (i := 4) rfl (.inl rfl) rfl) Ok.nil))))))))) (hs := fun env h => sw_cell h rfl))
abbrev s__law_reels : Stmt := topS 15
theorem sc__law_reels : FnScope ["size", "rows", "step", "row", "k"] ["size"] (defScope s__law_reels) := ⟨rfl, rfl, rfl, by decide +kernel, rfl, by decide +kernel, by decide +kernel⟩
def b__law_reels (size_45 : D) : M Bx (Fl Unit Unit) :=
  (bnd (lstM (consM (tupM (ret [])) (ret []))) fun rows_46 => (forM' (rng1M (ret size_45)) (fun (s_47 : D) step_48 => (bnd (bnd (consM (compM (itM (ret s_47)) fun row_50 => (eltM (ret true) (compM (itM (tupM (consM (ret (.int 1)) (consM (ret (.int 2)) (consM (ret (.int 3)) (ret [])))))) fun k_51 => (eltM (ret true) (op2M addD (ret row_50) (tupM (consM (ret k_51) (ret [])))))))) (ret [])) m__law_flat) fun rows_49 => (ret (.nx rows_49)))) rows_46 fun s_52 => (retF (ret s_52))))
def mb__law_reels : List D → M Bx (Fl Unit Unit)
  | [size_45] => b__law_reels size_45
  | _ => stuck
def m__law_reels (ds : List D) : M Bx D := bnd (mb__law_reels ds) endF
set_option maxHeartbeats 0 in
theorem h__law_reels {f : Addr} {fd : FuncData} (F : Fun K "_law_reels" "_law_reels" s__law_reels f fd) (g : mg "_law_reels" = some (.ref f)) (z_range : mg "range" = none) (h__law_flat : HasF (S := Bx) ⟨P, w, K, mg, base⟩ 1 "_law_flat" 1 m__law_flat) : HasF (S := Bx) ⟨P, w, K, mg, base⟩ 2 "_law_reels" 1 m__law_reels :=
  hasF_mk g F sc__law_reels (F.binds fun _ _ _ _ _ _ us hl => match us, hl with | [_], _ => rfl) rfl fun ds hl => match ds, hl with
    | [size_45], _ =>
      (OkB.set (i := 1) rfl (.inl rfl) (.inl rfl) (Ok.frz (Ok.lst (Ok.cons (Ok.tup Ok.nil) Ok.nil))) (fun rows_46 => (OkB.forR (Γl := fun (s_47 : D) => [some (.frz size_45), some (.frz s_47), none, none, none]) (s0 := rows_46) (OkI.range1 (Ok.view (Ok.var (i := 0) rfl (.inl rfl) rfl)) rfl z_range) (wk_mask (bs := [true, true, false, false, false])) (fun s_47 step_48 => (BindOk.name (i := 2) rfl (.inl rfl) (.inl rfl) (BindOk.nil (OkB.set (i := 1) rfl (.inl rfl) (.inl rfl) (Ok.call h__law_flat (Nat.le_of_ble_eq_true rfl) rfl (Ok.cons (Ok.frz (OkC.n (Ok.lc [("row", 3)] (OkI.val (Ok.var (i := 1) rfl (.inl rfl) rfl) (fun h => by first | rfl | cases h)) fun row_50 => (BindOk.name (i := 3) rfl (.inr rfl) (.inl rfl) (BindOk.nil ⟨_, _, OkTs.nil, (Ok.frz (OkC.n (Ok.lc [("k", 4)] (OkI.val (Ok.tup (Ok.cons Ok.int (Ok.cons Ok.int (Ok.cons Ok.int Ok.nil)))) (fun h => by first | rfl | cases h)) fun k_51 => (BindOk.name (i := 4) rfl (.inl rfl) (.inr rfl) (BindOk.nil ⟨_, _, OkTs.nil, (Ok.frz (Ok.op o_add (Ok.view (Ok.var (i := 3) rfl (.inr (.inl rfl)) rfl)) (Ok.view (Ok.tup (Ok.cons (Ok.var (i := 4) rfl (.inl rfl) rfl) Ok.nil))))), rfl⟩))))), rfl⟩))))) Ok.nil)) (fun rows_49 => (OkB.nil (s := rows_49) (wk_mask (bs := [true, true, false, false, false])))))))) fun s_52 => (OkB.ret (Ok.var (i := 1) rfl (.inl rfl) rfl)))))
abbrev s_law : Stmt := topS 16
theorem sc_law : FnScope ["script", "box", "turn", "word", "turns", "p", "q", "common", "spots", "short", "fit", "size", "seen", "due", "j", "column", "k", "reel", "packet"] ["script"] (defScope s_law) := ⟨rfl, rfl, rfl, by decide +kernel, rfl, by decide +kernel, by decide +kernel⟩
def b_law : M Bx (Fl Unit Unit) :=
  (forM' (rng1M (ret (.int 5))) (fun (s_54 : Unit) turn_55 => (bnd (bnd (consM (ret .box) (consM (ret (.int 14)) (ret []))) m__law_word) fun word_56 => (bnd (compM (rng2M (ret (.int 1)) (op2M addD (bcM lenD (consM (ret word_56) (ret []))) (ret (.int 1)))) fun p_93 => (eltM (valT (bnd (consM (ret word_56) (consM (ret p_93) (ret []))) m__law_turn)) (ret p_93))) fun turns_57 => (iteF (orT (notT (valT (bnd (consM (bnd (consM (ret word_56) (ret [])) m_turns_of) (consM (bcM tupleD (consM (ret turns_57) (ret []))) (ret []))) (m__law_same 60)))) (notT (valT (bnd (consM (bnd (consM (ret word_56) (ret [])) m_shortest_reel) (consM (slM (ret word_56) (ret none) (ptM (ixM (ret turns_57) (ret (.int 0))))) (ret []))) (m__law_same 60))))) (retF (ret (.bl false))) (ret (.nx ())) fun (s_58 : Unit) => (forM' (itM (ret turns_57)) (fun (s_59 : Unit) p_60 => (forM' (itM (ret turns_57)) (fun (s_61 : Unit) q_62 => (bnd (bnd (consM (ret p_60) (consM (ret q_62) (ret []))) m__law_divisor) fun common_63 => (iteF (andT (cmpT geD (bcM lenD (consM (ret word_56) (ret []))) (op2M subD (op2M addD (ret p_60) (ret q_62)) (ret common_63))) (cmpT ninD (ret common_63) (ret turns_57))) (retF (ret (.bl false))) (ret (.nx ())) fun (s_64 : Unit) => (ret (.nx ()))))) () fun s_65 => (ret (.nx ())))) () fun s_66 => (forM' (rng2M (ret (.int 1)) (op2M addD (bcM lenD (consM (ret word_56) (ret []))) (ret (.int 1)))) (fun (s_67 : Unit) p_68 => (bnd (compM (rng1M (op2M subD (bcM lenD (consM (ret word_56) (ret []))) (ret p_68))) fun k_71 => (eltM (cmpT neD (ixM (ret word_56) (ret k_71)) (ixM (ret word_56) (op2M addD (ret k_71) (ret p_68)))) (ret k_71))) fun spots_69 => (iteF (orT (notT (valT (bnd (consM (bnd (consM (ret word_56) (consM (ret p_68) (ret []))) m_fails_at) (consM (ifM (cmpT gtD (bcM lenD (consM (ret spots_69) (ret []))) (ret (.int 0))) (ixM (ret spots_69) (ret (.int 0))) (ret .non)) (ret []))) (m__law_same 60)))) (cmpT neD (op2M eqD (bcM lenD (consM (ret spots_69) (ret []))) (ret (.int 0))) (op2M inD (ret p_68) (ret turns_57)))) (retF (ret (.bl false))) (ret (.nx ())) fun (s_70 : Unit) => (ret (.nx ()))))) () fun s_72 => (bnd (slM (ret word_56) (ret none) (ptM (ret (.int 5)))) fun short_73 => (ownM (lstM (ret [])) fun fit_74 => (forM' (rng2M (ret (.int 1)) (ret (.int 6))) (fun (s_75 : D) size_76 => (extM s_75 (compM (itM (bnd (consM (ret size_76) (ret [])) m__law_reels)) fun reel_78 => (eltM (valT (bcM allD (consM (compM (rng1M (bcM lenD (consM (ret short_73) (ret [])))) fun k_79 => (eltM (ret true) (op2M eqD (ixM (ret reel_78) (op2M subD (ret k_79) (op2M mulD (op2M divD (ret k_79) (ret size_76)) (ret size_76)))) (ixM (ret short_73) (ret k_79))))) (ret [])))) (ret reel_78))) fun fit_77 => (ret (.nx fit_77)))) fit_74 fun s_80 => (iteF (orT (cmpT neD (bcM lenD (consM (bnd (consM (ret short_73) (ret [])) m_shortest_reel) (ret []))) (bcM lenD (consM (ixM (ret s_80) (ret (.int 0))) (ret [])))) (cmpT ninD (bnd (consM (ret short_73) (ret [])) m_shortest_reel) (ret s_80))) (retF (ret (.bl false))) (ret (.nx ())) fun (s_81 : Unit) => (bnd (bcM tupleD (consM (compM (rng1M (op2M addD (ret (.int 1)) (bnd (consM (ret .box) (consM (ret (.int 9)) (ret []))) m_draw))) fun k_92 => (eltM (ret true) (bcM tupleD (consM (lstM (consM (ixM (ret word_56) (op2M subD (ret k_92) (op2M mulD (op2M divD (ret k_92) (bcM lenD (consM (ret word_56) (ret [])))) (bcM lenD (consM (ret word_56) (ret [])))))) (consM (ret (.int 7)) (consM (ixM (ret word_56) (op2M subD (op2M mulD (ret (.int 2)) (ret k_92)) (op2M mulD (op2M divD (op2M mulD (ret (.int 2)) (ret k_92)) (bcM lenD (consM (ret word_56) (ret [])))) (bcM lenD (consM (ret word_56) (ret [])))))) (ret []))))) (ret []))))) (ret []))) fun seen_82 => (ownM (lstM (ret [])) fun due_83 => (forM' (rng1M (ret (.int 3))) (fun (s_84 : D) j_85 => (bnd (bcM tupleD (consM (compM (itM (ret seen_82)) fun packet_89 => (eltM (ret true) (ixM (ret packet_89) (ret j_85)))) (ret []))) fun column_86 => (appM s_84 (slM (ret column_86) (ret none) (ptM (ixM (compM (rng2M (ret (.int 1)) (op2M addD (bcM lenD (consM (ret column_86) (ret []))) (ret (.int 1)))) fun p_88 => (eltM (valT (bnd (consM (ret column_86) (consM (ret p_88) (ret []))) m__law_turn)) (ret p_88))) (ret (.int 0))))) fun due_87 => (ret (.nx due_87))))) due_83 fun s_90 => (iteF (notT (valT (bnd (consM (bnd (consM (ret seen_82) (ret [])) m_shortest_machine) (consM (bcM tupleD (consM (ret s_90) (ret []))) (ret []))) (m__law_same 60)))) (retF (ret (.bl false))) (ret (.nx ())) fun (s_91 : Unit) => (ret (.nx ())))))))))))))))) () fun s_94 => (retF (bnd (consM (tupM (consM (bnd (consM (tupM (consM (ret (.int 1)) (consM (ret (.int 2)) (consM (ret (.int 1)) (consM (ret (.int 2)) (consM (ret (.int 1)) (ret []))))))) (ret [])) m_turns_of) (consM (bnd (consM (tupM (consM (ret (.int 1)) (consM (ret (.int 2)) (consM (ret (.int 1)) (ret []))))) (ret [])) m_shortest_reel) (consM (bnd (consM (tupM (consM (ret (.int 1)) (consM (ret (.int 2)) (consM (ret (.int 1)) (consM (ret (.int 3)) (ret [])))))) (consM (ret (.int 2)) (ret []))) m_fails_at) (ret []))))) (consM (tupM (consM (tupM (consM (ret (.int 2)) (consM (ret (.int 4)) (consM (ret (.int 5)) (ret []))))) (consM (tupM (consM (ret (.int 1)) (consM (ret (.int 2)) (ret [])))) (consM (ret (.int 1)) (ret []))))) (ret []))) (m__law_same 60))))
set_option maxHeartbeats 0 in
theorem h_law {f fB : Addr} {fd fdB : FuncData} (F : Fun K "law" "law" s_law f fd) (z_all : mg "all" = none) (z_len : mg "len" = none) (z_range : mg "range" = none) (z_tuple : mg "tuple" = none) (h_shortest_reel : HasF (S := Bx) ⟨P, w, K, mg, base⟩ 3 "shortest_reel" 1 m_shortest_reel) (h__law_same : HasF (S := Bx) ⟨P, w, K, mg, base⟩ 61 "_law_same" 2 (m__law_same 60)) (h_turns_of : HasF (S := Bx) ⟨P, w, K, mg, base⟩ 2 "turns_of" 1 m_turns_of) (h__law_divisor : HasF (S := Bx) ⟨P, w, K, mg, base⟩ 1 "_law_divisor" 2 m__law_divisor) (h_fails_at : HasF (S := Bx) ⟨P, w, K, mg, base⟩ 1 "fails_at" 2 m_fails_at) (h__law_reels : HasF (S := Bx) ⟨P, w, K, mg, base⟩ 2 "_law_reels" 1 m__law_reels) (h__law_turn : HasF (S := Bx) ⟨P, w, K, mg, base⟩ 1 "_law_turn" 2 m__law_turn) (h_shortest_machine : HasF (S := Bx) ⟨P, w, K, mg, base⟩ 4 "shortest_machine" 1 m_shortest_machine) (h__law_draw : HasF (S := Bx) ⟨P, w, K, mg, base⟩ 2 "_law_draw" 2 m_draw) (h__law_word : HasF (S := Bx) ⟨P, w, K, mg, base⟩ 3 "_law_word" 2 m__law_word) (GB : FnOk P w K mg base CX0 1 fB fdB ["script"] (spBox K)) (kpB : PySem.W.keepIn K (.ref fB) = true) (bB : Binds K fdB ["script"] []) (gB : mg "_law_box" = some (.ref fB)) (hm : ∀ b : Bx, ∃ b', bnd b_law endF b = some (.bl true, b')) :
    FnOk P w K mg base CX0 62 f fd ["script"] (spLaw K) :=
  ok_law_of (i := 1) F sc_law GB kpB bB gB (Nat.le_of_ble_eq_true rfl) rfl rfl rfl (.inl rfl) rfl rfl (.inl rfl) rfl
    (OkB.forR (Γl := fun (s_54 : Unit) => [none, some (.frz .box), none, none, none, none, none, none, none, none, none, none, none, none, none, none, none, none, none]) (s0 := ()) (OkI.range1 (Ok.view Ok.int) rfl z_range) (wk_mask (bs := [false, true, false, false, false, false, false, false, false, false, false, false, false, false, false, false, false, false, false])) (fun s_54 turn_55 => (BindOk.name (i := 2) rfl (.inl rfl) (.inl rfl) (BindOk.nil (OkB.set (i := 3) rfl (.inr rfl) (.inl rfl) (Ok.call h__law_word (Nat.le_of_ble_eq_true rfl) rfl (Ok.cons (Ok.var (i := 1) rfl (.inl rfl) rfl) (Ok.cons Ok.int Ok.nil))) (fun word_56 => (OkB.setC (i := 4) rfl rfl rfl (Ok.lc [("p", 5)] (OkI.range2 (Ok.view Ok.int) (Ok.view (Ok.op o_add (Ok.view (Ok.bfun o_len (by decide +kernel) rfl z_len (Ok.cons (Ok.view (Ok.var (i := 3) rfl (.inr (.inl rfl)) rfl)) Ok.nil))) (Ok.view Ok.int))) rfl z_range) fun p_93 => (BindOk.name (i := 5) rfl (.inl rfl) (.inr rfl) (BindOk.nil ⟨_, _, (OkTs.one (OkT.val (Ok.view (Ok.call h__law_turn (Nat.le_of_ble_eq_true rfl) rfl (Ok.cons (Ok.var (i := 3) rfl (.inr (.inl rfl)) rfl) (Ok.cons (Ok.var (i := 5) rfl (.inl rfl) rfl) Ok.nil)))))), (Ok.var (i := 5) rfl (.inl rfl) rfl), rfl⟩))) fun turns_57 => (OkB.ite (Γj := fun (s_58 : Unit) => [none, some (.frz .box), none, some (.frz word_56), some (.frz turns_57), none, none, none, none, none, none, none, none, none, none, none, none, none, none]) (OkW.pt (OkW.or (OkT.not (OkT.val (Ok.view (Ok.call h__law_same (Nat.le_of_ble_eq_true rfl) rfl (Ok.cons (Ok.call h_turns_of (Nat.le_of_ble_eq_true rfl) rfl (Ok.cons (Ok.var (i := 3) rfl (.inr (.inl rfl)) rfl) Ok.nil)) (Ok.cons (Ok.frz (Ok.tfun o_tuple (by decide +kernel) rfl z_tuple (Ok.cons (Ok.view (Ok.var (i := 4) rfl (.inl rfl) rfl)) Ok.nil))) Ok.nil)))))) (OkW.or1 (OkT.not (OkT.val (Ok.view (Ok.call h__law_same (Nat.le_of_ble_eq_true rfl) rfl (Ok.cons (Ok.call h_shortest_reel (Nat.le_of_ble_eq_true rfl) rfl (Ok.cons (Ok.var (i := 3) rfl (.inr (.inl rfl)) rfl) Ok.nil)) (Ok.cons (Ok.frz (Ok.sl (Ok.view (Ok.var (i := 3) rfl (.inr (.inl rfl)) rfl)) OkO.none (OkO.some (Ok.view (Ok.ix (Ok.view (Ok.var (i := 4) rfl (.inl rfl) rfl)) (Ok.view Ok.int)))))) Ok.nil))))))))) (OkB.ret Ok.bl) (OkB.nil (s := ()) (wk_mask (bs := [false, true, false, true, true, false, false, false, false, false, false, false, false, false, false, false, false, false, false]))) fun s_58 => (OkB.forR (Γl := fun (s_59 : Unit) => [none, some (.frz .box), none, some (.frz word_56), some (.frz turns_57), none, none, none, none, none, none, none, none, none, none, none, none, none, none]) (s0 := ()) (OkI.val (Ok.var (i := 4) rfl (.inl rfl) rfl) (fun h => by first | rfl | cases h)) (wk_mask (bs := [false, true, false, true, true, false, false, false, false, false, false, false, false, false, false, false, false, false, false])) (fun s_59 p_60 => (BindOk.name (i := 5) rfl (.inr rfl) (.inl rfl) (BindOk.nil (OkB.forR (Γl := fun (s_61 : Unit) => [none, some (.frz .box), none, some (.frz word_56), some (.frz turns_57), some (.frz p_60), none, none, none, none, none, none, none, none, none, none, none, none, none]) (s0 := ()) (OkI.val (Ok.var (i := 4) rfl (.inl rfl) rfl) (fun h => by first | rfl | cases h)) (wk_mask (bs := [false, true, false, true, true, true, false, false, false, false, false, false, false, false, false, false, false, false, false])) (fun s_61 q_62 => (BindOk.name (i := 6) rfl (.inl rfl) (.inl rfl) (BindOk.nil (OkB.set (i := 7) rfl (.inl rfl) (.inl rfl) (Ok.call h__law_divisor (Nat.le_of_ble_eq_true rfl) rfl (Ok.cons (Ok.var (i := 5) rfl (.inr (.inl rfl)) rfl) (Ok.cons (Ok.var (i := 6) rfl (.inl rfl) rfl) Ok.nil))) (fun common_63 => (OkB.ite (Γj := fun (s_64 : Unit) => [none, some (.frz .box), none, some (.frz word_56), some (.frz turns_57), some (.frz p_60), none, none, none, none, none, none, none, none, none, none, none, none, none]) (OkW.pt (OkW.and (OkT.cmp o_ge (Ok.view (Ok.bfun o_len (by decide +kernel) rfl z_len (Ok.cons (Ok.view (Ok.var (i := 3) rfl (.inr (.inl rfl)) rfl)) Ok.nil))) (Ok.view (Ok.op o_sub (Ok.view (Ok.op o_add (Ok.view (Ok.var (i := 5) rfl (.inr (.inl rfl)) rfl)) (Ok.view (Ok.var (i := 6) rfl (.inl rfl) rfl)))) (Ok.view (Ok.var (i := 7) rfl (.inl rfl) rfl))))) (OkW.and1 (OkT.cmp o_nin (Ok.view (Ok.var (i := 7) rfl (.inl rfl) rfl)) (Ok.view (Ok.var (i := 4) rfl (.inl rfl) rfl)))))) (OkB.ret Ok.bl) (OkB.nil (s := ()) (wk_mask (bs := [false, true, false, true, true, true, false, false, false, false, false, false, false, false, false, false, false, false, false]))) fun s_64 => (OkB.nil (s := ()) (wk_mask (bs := [false, true, false, true, true, true, false, false, false, false, false, false, false, false, false, false, false, false, false]))))))))) fun s_65 => (OkB.nil (s := ()) (wk_mask (bs := [false, true, false, true, true, false, false, false, false, false, false, false, false, false, false, false, false, false, false]))))))) fun s_66 => (OkB.forR (Γl := fun (s_67 : Unit) => [none, some (.frz .box), none, some (.frz word_56), some (.frz turns_57), none, none, none, none, none, none, none, none, none, none, none, none, none, none]) (s0 := ()) (OkI.range2 (Ok.view Ok.int) (Ok.view (Ok.op o_add (Ok.view (Ok.bfun o_len (by decide +kernel) rfl z_len (Ok.cons (Ok.view (Ok.var (i := 3) rfl (.inr (.inl rfl)) rfl)) Ok.nil))) (Ok.view Ok.int))) rfl z_range) (wk_mask (bs := [false, true, false, true, true, false, false, false, false, false, false, false, false, false, false, false, false, false, false])) (fun s_67 p_68 => (BindOk.name (i := 5) rfl (.inr rfl) (.inl rfl) (BindOk.nil (OkB.setC (i := 8) rfl rfl rfl (Ok.lc [("k", 16)] (OkI.range1 (Ok.view (Ok.op o_sub (Ok.view (Ok.bfun o_len (by decide +kernel) rfl z_len (Ok.cons (Ok.view (Ok.var (i := 3) rfl (.inr (.inl rfl)) rfl)) Ok.nil))) (Ok.view (Ok.var (i := 5) rfl (.inr (.inl rfl)) rfl)))) rfl z_range) fun k_71 => (BindOk.name (i := 16) rfl (.inl rfl) (.inr rfl) (BindOk.nil ⟨_, _, (OkTs.one (OkT.cmp o_ne (Ok.view (Ok.ix (Ok.view (Ok.var (i := 3) rfl (.inr (.inl rfl)) rfl)) (Ok.view (Ok.var (i := 16) rfl (.inl rfl) rfl)))) (Ok.view (Ok.ix (Ok.view (Ok.var (i := 3) rfl (.inr (.inl rfl)) rfl)) (Ok.view (Ok.op o_add (Ok.view (Ok.var (i := 16) rfl (.inl rfl) rfl)) (Ok.view (Ok.var (i := 5) rfl (.inr (.inl rfl)) rfl)))))))), (Ok.var (i := 16) rfl (.inl rfl) rfl), rfl⟩))) fun spots_69 => (OkB.ite (Γj := fun (s_70 : Unit) => [none, some (.frz .box), none, some (.frz word_56), some (.frz turns_57), none, none, none, none, none, none, none, none, none, none, none, none, none, none]) (OkW.pt (OkW.or (OkT.not (OkT.val (Ok.view (Ok.call h__law_same (Nat.le_of_ble_eq_true rfl) rfl (Ok.cons (Ok.call h_fails_at (Nat.le_of_ble_eq_true rfl) rfl (Ok.cons (Ok.var (i := 3) rfl (.inr (.inl rfl)) rfl) (Ok.cons (Ok.var (i := 5) rfl (.inr (.inl rfl)) rfl) Ok.nil))) (Ok.cons (Ok.ife (OkT.cmp o_gt (Ok.view (Ok.bfun o_len (by decide +kernel) rfl z_len (Ok.cons (Ok.view (Ok.var (i := 8) rfl (.inl rfl) rfl)) Ok.nil))) (Ok.view Ok.int)) (Ok.ix (Ok.view (Ok.var (i := 8) rfl (.inl rfl) rfl)) (Ok.view Ok.int)) Ok.non) Ok.nil)))))) (OkW.or1 (OkT.cmp o_ne (Ok.view (Ok.cmp o_eq (Ok.view (Ok.bfun o_len (by decide +kernel) rfl z_len (Ok.cons (Ok.view (Ok.var (i := 8) rfl (.inl rfl) rfl)) Ok.nil))) (Ok.view Ok.int))) (Ok.view (Ok.cmp o_in (Ok.view (Ok.var (i := 5) rfl (.inr (.inl rfl)) rfl)) (Ok.view (Ok.var (i := 4) rfl (.inl rfl) rfl)))))))) (OkB.ret Ok.bl) (OkB.nil (s := ()) (wk_mask (bs := [false, true, false, true, true, false, false, false, false, false, false, false, false, false, false, false, false, false, false]))) fun s_70 => (OkB.nil (s := ()) (wk_mask (bs := [false, true, false, true, true, false, false, false, false, false, false, false, false, false, false, false, false, false, false])))))))) fun s_72 => (OkB.set (i := 9) rfl (.inr rfl) (.inl rfl) (Ok.frz (Ok.sl (Ok.view (Ok.var (i := 3) rfl (.inr (.inl rfl)) rfl)) OkO.none (OkO.some (Ok.view Ok.int)))) (fun short_73 => (OkB.setO (i := 10) rfl (.inl rfl) (.inl rfl) (Ok.lst Ok.nil) (fun fit_74 => (OkB.forR (Γl := fun (s_75 : D) => [none, some (.frz .box), none, some (.frz word_56), none, none, none, none, none, some (.frz short_73), some (.own s_75), none, none, none, none, none, none, none, none]) (s0 := fit_74) (OkI.range2 (Ok.view Ok.int) (Ok.view Ok.int) rfl z_range) (wk_mask (bs := [false, true, false, true, false, false, false, false, false, true, true, false, false, false, false, false, false, false, false])) (fun s_75 size_76 => (BindOk.name (i := 11) rfl (.inr rfl) (.inl rfl) (BindOk.nil (OkB.ext (i := 10) rfl (.inl rfl) rfl (Ok.view (OkC.n (Ok.lc [("reel", 17)] (OkI.val (Ok.call h__law_reels (Nat.le_of_ble_eq_true rfl) rfl (Ok.cons (Ok.var (i := 11) rfl (.inr (.inl rfl)) rfl) Ok.nil)) (fun h => by first | rfl | cases h)) fun reel_78 => (BindOk.name (i := 17) rfl (.inr rfl) (.inl rfl) (BindOk.nil ⟨_, _, (OkTs.one (OkT.val (Ok.view (Ok.bfun o_all (by decide +kernel) rfl z_all (Ok.cons (Ok.view (OkC.n (Ok.lc [("k", 16)] (OkI.range1 (Ok.view (Ok.bfun o_len (by decide +kernel) rfl z_len (Ok.cons (Ok.view (Ok.var (i := 9) rfl (.inr (.inl rfl)) rfl)) Ok.nil))) rfl z_range) fun k_79 => (BindOk.name (i := 16) rfl (.inl rfl) (.inr rfl) (BindOk.nil ⟨_, _, OkTs.nil, (Ok.frz (Ok.cmp o_eq (Ok.view (Ok.ix (Ok.view (Ok.var (i := 17) rfl (.inr (.inl rfl)) rfl)) (Ok.view (Ok.op o_sub (Ok.view (Ok.var (i := 16) rfl (.inl rfl) rfl)) (Ok.view (Ok.op o_mul (Ok.view (Ok.op o_div (Ok.view (Ok.var (i := 16) rfl (.inl rfl) rfl)) (Ok.view (Ok.var (i := 11) rfl (.inr (.inl rfl)) rfl)))) (Ok.view (Ok.var (i := 11) rfl (.inr (.inl rfl)) rfl)))))))) (Ok.view (Ok.ix (Ok.view (Ok.var (i := 9) rfl (.inr (.inl rfl)) rfl)) (Ok.view (Ok.var (i := 16) rfl (.inl rfl) rfl)))))), rfl⟩))))) Ok.nil))))), (Ok.var (i := 17) rfl (.inr (.inl rfl)) rfl), rfl⟩))))) fun fit_77 => (OkB.nil (s := fit_77) (wk_mask (bs := [false, true, false, true, false, false, false, false, false, true, true, false, false, false, false, false, false, false, false]))))))) fun s_80 => (OkB.ite (Γj := fun (s_81 : Unit) => [none, some (.frz .box), none, some (.frz word_56), none, none, none, none, none, none, none, none, none, none, none, none, none, none, none]) (OkW.pt (OkW.or (OkT.cmp o_ne (Ok.view (Ok.bfun o_len (by decide +kernel) rfl z_len (Ok.cons (Ok.view (Ok.call h_shortest_reel (Nat.le_of_ble_eq_true rfl) rfl (Ok.cons (Ok.var (i := 9) rfl (.inr (.inl rfl)) rfl) Ok.nil))) Ok.nil))) (Ok.view (Ok.bfun o_len (by decide +kernel) rfl z_len (Ok.cons (Ok.view (Ok.ix (Ok.own (i := 10) rfl (.inl rfl) rfl) (Ok.view Ok.int))) Ok.nil)))) (OkW.or1 (OkT.cmp o_nin (Ok.view (Ok.call h_shortest_reel (Nat.le_of_ble_eq_true rfl) rfl (Ok.cons (Ok.var (i := 9) rfl (.inr (.inl rfl)) rfl) Ok.nil))) (Ok.own (i := 10) rfl (.inl rfl) rfl))))) (OkB.ret Ok.bl) (OkB.nil (s := ()) (wk_mask (bs := [false, true, false, true, false, false, false, false, false, false, false, false, false, false, false, false, false, false, false]))) fun s_81 => (OkB.set (i := 12) rfl (.inl rfl) (.inl rfl) (Ok.frz (Ok.tfun o_tuple (by decide +kernel) rfl z_tuple (Ok.cons (Ok.view (OkC.n (Ok.lc [("k", 16)] (OkI.range1 (Ok.view (Ok.op o_add (Ok.view Ok.int) (Ok.view (Ok.call h__law_draw (Nat.le_of_ble_eq_true rfl) rfl (Ok.cons (Ok.var (i := 1) rfl (.inl rfl) rfl) (Ok.cons Ok.int Ok.nil)))))) rfl z_range) fun k_92 => (BindOk.name (i := 16) rfl (.inl rfl) (.inr rfl) (BindOk.nil ⟨_, _, OkTs.nil, (Ok.frz (Ok.tfun o_tuple (by decide +kernel) rfl z_tuple (Ok.cons (Ok.view (Ok.lst (Ok.cons (Ok.ix (Ok.view (Ok.var (i := 3) rfl (.inr (.inl rfl)) rfl)) (Ok.view (Ok.op o_sub (Ok.view (Ok.var (i := 16) rfl (.inl rfl) rfl)) (Ok.view (Ok.op o_mul (Ok.view (Ok.op o_div (Ok.view (Ok.var (i := 16) rfl (.inl rfl) rfl)) (Ok.view (Ok.bfun o_len (by decide +kernel) rfl z_len (Ok.cons (Ok.view (Ok.var (i := 3) rfl (.inr (.inl rfl)) rfl)) Ok.nil))))) (Ok.view (Ok.bfun o_len (by decide +kernel) rfl z_len (Ok.cons (Ok.view (Ok.var (i := 3) rfl (.inr (.inl rfl)) rfl)) Ok.nil)))))))) (Ok.cons Ok.int (Ok.cons (Ok.ix (Ok.view (Ok.var (i := 3) rfl (.inr (.inl rfl)) rfl)) (Ok.view (Ok.op o_sub (Ok.view (Ok.op o_mul (Ok.view Ok.int) (Ok.view (Ok.var (i := 16) rfl (.inl rfl) rfl)))) (Ok.view (Ok.op o_mul (Ok.view (Ok.op o_div (Ok.view (Ok.op o_mul (Ok.view Ok.int) (Ok.view (Ok.var (i := 16) rfl (.inl rfl) rfl)))) (Ok.view (Ok.bfun o_len (by decide +kernel) rfl z_len (Ok.cons (Ok.view (Ok.var (i := 3) rfl (.inr (.inl rfl)) rfl)) Ok.nil))))) (Ok.view (Ok.bfun o_len (by decide +kernel) rfl z_len (Ok.cons (Ok.view (Ok.var (i := 3) rfl (.inr (.inl rfl)) rfl)) Ok.nil)))))))) Ok.nil))))) Ok.nil))), rfl⟩))))) Ok.nil))) (fun seen_82 => (OkB.setO (i := 13) rfl (.inl rfl) (.inl rfl) (Ok.lst Ok.nil) (fun due_83 => (OkB.forR (Γl := fun (s_84 : D) => [none, some (.frz .box), none, none, none, none, none, none, none, none, none, none, some (.frz seen_82), some (.own s_84), none, none, none, none, none]) (s0 := due_83) (OkI.range1 (Ok.view Ok.int) rfl z_range) (wk_mask (bs := [false, true, false, false, false, false, false, false, false, false, false, false, true, true, false, false, false, false, false])) (fun s_84 j_85 => (BindOk.name (i := 14) rfl (.inr rfl) (.inl rfl) (BindOk.nil (OkB.set (i := 15) rfl (.inr rfl) (.inl rfl) (Ok.frz (Ok.tfun o_tuple (by decide +kernel) rfl z_tuple (Ok.cons (Ok.view (OkC.n (Ok.lc [("packet", 18)] (OkI.val (Ok.var (i := 12) rfl (.inl rfl) rfl) (fun h => by first | rfl | cases h)) fun packet_89 => (BindOk.name (i := 18) rfl (.inl rfl) (.inr rfl) (BindOk.nil ⟨_, _, OkTs.nil, (Ok.ix (Ok.view (Ok.var (i := 18) rfl (.inl rfl) rfl)) (Ok.view (Ok.var (i := 14) rfl (.inr (.inl rfl)) rfl))), rfl⟩))))) Ok.nil))) (fun column_86 => (OkB.app (i := 13) rfl (.inl rfl) rfl (Ok.frz (Ok.sl (Ok.view (Ok.var (i := 15) rfl (.inr (.inl rfl)) rfl)) OkO.none (OkO.some (Ok.view (Ok.ix (Ok.view (OkC.n (Ok.lc [("p", 5)] (OkI.range2 (Ok.view Ok.int) (Ok.view (Ok.op o_add (Ok.view (Ok.bfun o_len (by decide +kernel) rfl z_len (Ok.cons (Ok.view (Ok.var (i := 15) rfl (.inr (.inl rfl)) rfl)) Ok.nil))) (Ok.view Ok.int))) rfl z_range) fun p_88 => (BindOk.name (i := 5) rfl (.inl rfl) (.inr rfl) (BindOk.nil ⟨_, _, (OkTs.one (OkT.val (Ok.view (Ok.call h__law_turn (Nat.le_of_ble_eq_true rfl) rfl (Ok.cons (Ok.var (i := 15) rfl (.inr (.inl rfl)) rfl) (Ok.cons (Ok.var (i := 5) rfl (.inl rfl) rfl) Ok.nil)))))), (Ok.var (i := 5) rfl (.inl rfl) rfl), rfl⟩))))) (Ok.view Ok.int)))))) fun due_87 => (OkB.nil (s := due_87) (wk_mask (bs := [false, true, false, false, false, false, false, false, false, false, false, false, true, true, false, false, false, false, false]))))))))) fun s_90 => (OkB.ite (Γj := fun (s_91 : Unit) => [none, some (.frz .box), none, none, none, none, none, none, none, none, none, none, none, none, none, none, none, none, none]) (OkT.not (OkT.val (Ok.view (Ok.call h__law_same (Nat.le_of_ble_eq_true rfl) rfl (Ok.cons (Ok.call h_shortest_machine (Nat.le_of_ble_eq_true rfl) rfl (Ok.cons (Ok.var (i := 12) rfl (.inl rfl) rfl) Ok.nil)) (Ok.cons (Ok.frz (Ok.tfun o_tuple (by decide +kernel) rfl z_tuple (Ok.cons (Ok.own (i := 13) rfl (.inl rfl) rfl) Ok.nil))) Ok.nil)))))) (OkB.ret Ok.bl) (OkB.nil (s := ()) (wk_mask (bs := [false, true, false, false, false, false, false, false, false, false, false, false, false, false, false, false, false, false, false]))) fun s_91 => (OkB.nil (s := ()) (wk_mask (bs := [false, true, false, false, false, false, false, false, false, false, false, false, false, false, false, false, false, false, false])))))))))))))))))))))))) fun s_94 => (OkB.ret (Ok.call h__law_same (Nat.le_of_ble_eq_true rfl) rfl (Ok.cons (Ok.tup (Ok.cons (Ok.call h_turns_of (Nat.le_of_ble_eq_true rfl) rfl (Ok.cons (Ok.tup (Ok.cons Ok.int (Ok.cons Ok.int (Ok.cons Ok.int (Ok.cons Ok.int (Ok.cons Ok.int Ok.nil)))))) Ok.nil)) (Ok.cons (Ok.call h_shortest_reel (Nat.le_of_ble_eq_true rfl) rfl (Ok.cons (Ok.tup (Ok.cons Ok.int (Ok.cons Ok.int (Ok.cons Ok.int Ok.nil)))) Ok.nil)) (Ok.cons (Ok.call h_fails_at (Nat.le_of_ble_eq_true rfl) rfl (Ok.cons (Ok.tup (Ok.cons Ok.int (Ok.cons Ok.int (Ok.cons Ok.int (Ok.cons Ok.int Ok.nil))))) (Ok.cons Ok.int Ok.nil))) Ok.nil)))) (Ok.cons (Ok.tup (Ok.cons (Ok.tup (Ok.cons Ok.int (Ok.cons Ok.int (Ok.cons Ok.int Ok.nil)))) (Ok.cons (Ok.tup (Ok.cons Ok.int (Ok.cons Ok.int Ok.nil))) (Ok.cons Ok.int Ok.nil)))) Ok.nil)))))
    hm
end
end Lw

namespace Lw
open PySem PySem.Spec PyProof.Rows L2 Sn
/-! ### _law_same -/
inductive Pb : Nat → D → Prop
  | non {n : Nat} : Pb n .non
  | bl {n : Nat} (b : Bool) : Pb n (.bl b)
  | int {n : Nat} (i : Int) : Pb n (.int i)
  | str {n : Nat} {x : Str} (h : PyData.strOk x = true) : Pb n (.str x)
  | tup {n : Nat} {xs : List D} (h : ∀ x ∈ xs, Pb n x) (hl : xs.length < 16777216) : Pb (n + 1) (.tup xs)
  | lst {n : Nat} {xs : List D} (h : ∀ x ∈ xs, Pb n x) (hl : xs.length < 16777216) : Pb (n + 1) (.lst xs)
theorem all_true (n : Nat) : allD [.lst (List.replicate n (.bl true))] = some (.bl true) := by
  have : List.replicate n (D.bl true) = (List.replicate n true).map D.bl := by simp
  rw [this, all_bls]
  congr 2
  simp
theorem same_non (self : List D → M Bx D) : bnd (b__law_same self .non .non) endF = ret (.bl true) := by simp [b__law_same]
theorem same_bl (self : List D → M Bx D) (b : Bool) : bnd (b__law_same self (.bl b) (.bl b)) endF = ret (.bl true) := by simp [b__law_same]
theorem same_int (self : List D → M Bx D) (b : Int) : bnd (b__law_same self (.int b) (.int b)) endF = ret (.bl true) := by simp [b__law_same]
theorem same_str (self : List D → M Bx D) {x : Str} (h : PyData.strOk x = true) : bnd (b__law_same self (.str x) (.str x)) endF = ret (.bl true) := by
  have e := eq_pl (Pl.str (n := 0) h) (Pl.str (n := 0) h) (by decide) (by decide)
  simp [b__law_same, e]
theorem same_items {self : List D → M Bx D} {n : Nat} {xs : List D} {g : D} (hg : ∀ i : Int, ixD g (.int i) = atI xs i) (ih : ∀ d, Pb n d → self [d, d] = ret (.bl true)) (h : ∀ x ∈ xs, Pb n x) (hl : xs.length < 16777216) :
    compM (rng1M (ret (.int xs.length))) (fun k => eltM (ret true) (bnd (consM (ixM (ret g) (ret k)) (consM (ixM (ret g) (ret k)) (ret []))) self)) = (ret (.lst (List.replicate xs.length (.bl true))) : M Bx D) := by
  rw [rng1_ok (by omega) (by omega), comp_ok (by rw [rng_len]; omega), compL_all (fun _ => D.bl true) fun x hx => ?_]
  · have e : (rng 0 (xs.length : Int)).map (fun _ => D.bl true) = List.replicate xs.length (.bl true) := by
      rw [List.map_const', rng_len]
      congr 1
    rw [e]; rfl
  · obtain ⟨i, rfl, h1, h2⟩ := mem_rng.mp hx
    have e := atI_ok h1 h2
    simp only [r_ixM, hg, e, r_lift, r_consM, r_bnd, r_eltT, ih _ (h _ (List.getElem_mem _))]
theorem same_tup {self : List D → M Bx D} {n : Nat} {xs : List D} (ih : ∀ d, Pb n d → self [d, d] = ret (.bl true)) (h : ∀ x ∈ xs, Pb n x) (hl : xs.length < 16777216) : bnd (b__law_same self (.tup xs) (.tup xs)) endF = ret (.bl true) := by
  have e := same_items (g := .tup xs) (fun _ => rfl) ih h hl
  unfold b__law_same
  simp only [r_isi, i_tuple_tuple, r_lift, r_valT, r_tru_bl, r_andT, Bool.and_self, r_orTt, r_iteF, if_true, r_consM, r_bcM, r_lenT, e, all_true, r_op2, r_eq, decide_true, r_andMt, r_retF, r_bnd, r_seqR, r_endR]
theorem same_lst {self : List D → M Bx D} {n : Nat} {xs : List D} (ih : ∀ d, Pb n d → self [d, d] = ret (.bl true)) (h : ∀ x ∈ xs, Pb n x) (hl : xs.length < 16777216) : bnd (b__law_same self (.lst xs) (.lst xs)) endF = ret (.bl true) := by
  have e := same_items (g := .lst xs) (fun _ => rfl) ih h hl
  unfold b__law_same
  simp only [r_isi, i_tuple_list, i_list_list, r_lift, r_valT, r_tru_bl, r_andT, Bool.and_self, r_orTf, r_orTt, r_iteF, if_true, r_consM, r_bcM, r_lenL, e, all_true, r_op2, r_eq, decide_true, r_andMt, r_retF, r_bnd, r_seqR, r_endR]
theorem same_ok : ∀ (n : Nat) (d : D), Pb n d → m__law_same (n + 1) [d, d] = ret (.bl true)
  | n, _, .non => same_non (m__law_same n)
  | n, _, .bl b => same_bl (m__law_same n) b
  | n, _, .int i => same_int (m__law_same n) i
  | n, _, .str h => same_str (m__law_same n) h
  | n + 1, _, .tup h hl => same_tup (same_ok n) h hl
  | n + 1, _, .lst h hl => same_lst (same_ok n) h hl
theorem Pb.mono {n m : Nat} {d : D} (h : Pb n d) (hm : n ≤ m) : Pb m d := by
  induction h generalizing m with
  | non => exact .non
  | bl b => exact .bl b
  | int i => exact .int i
  | str h => exact .str h
  | tup h hl ih => cases m with | zero => omega | succ m => exact .tup (fun x hx => ih x hx (by omega)) hl
  | lst h hl ih => cases m with | zero => omega | succ m => exact .lst (fun x hx => ih x hx (by omega)) hl
theorem same60 {n : Nat} {d : D} (h : Pb n d) (hn : n ≤ 59) : m__law_same 60 [d, d] = ret (.bl true) := same_ok 59 d (h.mono hn)
end Lw

namespace Lw
open PySem PySem.Spec PyProof.Rows L2 Sn
/-! ### ranges of ints -/
def rI (lo hi : Int) : List Int := (List.range (hi - lo).toNat).map fun k : Nat => lo + (k : Int)
theorem rng_rI (lo hi : Int) : rng lo hi = (rI lo hi).map .int := by unfold rng rI; rw [List.map_map]; rfl
theorem mem_rI {lo hi i : Int} : i ∈ rI lo hi ↔ lo ≤ i ∧ i < hi := by
  unfold rI
  rw [List.mem_map]
  constructor
  · rintro ⟨k, hk, rfl⟩
    rw [List.mem_range] at hk
    omega
  · rintro ⟨h1, h2⟩
    exact ⟨(i - lo).toNat, by rw [List.mem_range]; omega, by omega⟩
theorem rI_len (lo hi : Int) : (rI lo hi).length = (hi - lo).toNat := by unfold rI; simp
/-- the p such that w has the same so far apart -/
def tB (w : List Int) (p : Int) : Bool := decide (w.drop p.toNat = w.take (w.length - p.toNat))
def turnsI (w : List Int) : List Int := (rI 1 (w.length + 1)).filter (tB w)
theorem len_tI (w : List Int) : lenD [tI w] = some (.int w.length) := by simp [tI, lenD]
theorem is_turn_of_ok (w : List Int) (p : Int) (h : 0 ≤ p) (h2 : p ≤ w.length) : m_is_turn_of [tI w, .int p] = ret (.bl (tB w p)) := by
  unfold m_is_turn_of mb_is_turn_of b_is_turn_of
  have e1 : slD (tI w) (some p) none = some (tI (w.drop p.toNat)) := by
    unfold tI
    rw [r_slT, cutL_map, cutL_from h]
  have e2 : slD (tI w) none (some (w.length - p)) = some (tI (w.take (w.length - p.toNat))) := by
    unfold tI
    rw [r_slT, cutL_map, cutL_to (by omega)]
    congr 4
    omega
  simp only [r_ptM, r_slM, r_consM, r_bcM, len_tI, r_lift, r_op2, r_sub, e1, e2, eq_tI, r_retF, r_bnd, r_endR]
  rfl
/-- the turns of a word, by any test that says tB -/
theorem turns_comp (w : List Int) (hw : w.length < 1000000) (f : D → M Bx D) (hf : ∀ p : Int, 1 ≤ p → p ≤ w.length → f (.int p) = ret (.bl (tB w p))) :
    compM (rng2M (ret (.int 1)) (ret (.int (w.length + 1)))) (fun p => eltM (valT (f p)) (ret p)) = (ret (lI (turnsI w)) : M Bx D) := by
  rw [rng2_ok (by decide) (by decide) (by omega) (by omega), comp_ok (by rw [rng_len]; omega), rng_rI, compL_map, compL_if (tB w) D.int fun p hp => ?_]
  · rfl
  · obtain ⟨h1, h2⟩ := mem_rI.mp hp
    rw [hf p h1 (by omega)]
    simp
theorem turns_of_ok (w : List Int) (hw : w.length < 1000000) : m_turns_of [tI w] = ret (tI (turnsI w)) := by
  unfold m_turns_of mb_turns_of b_turns_of
  simp only [r_consM, r_bcM, len_tI, r_lift, r_op2, r_add, r_bnd]
  rw [turns_comp w hw (fun p => m_is_turn_of [tI w, p]) fun p h1 h2 => is_turn_of_ok w p (by omega) h2]
  simp [lI, tI]
theorem tB_len (w : List Int) : tB w w.length = true := by simp [tB]
theorem mem_turns {w : List Int} {p : Int} : p ∈ turnsI w ↔ (1 ≤ p ∧ p ≤ w.length) ∧ tB w p = true := by
  unfold turnsI
  rw [List.mem_filter, mem_rI]
  constructor
  · rintro ⟨h1, h2⟩; exact ⟨⟨h1.1, by omega⟩, h2⟩
  · rintro ⟨h1, h2⟩; exact ⟨⟨h1.1, by omega⟩, h2⟩
theorem turns_ne {w : List Int} (h : 0 < w.length) : turnsI w ≠ [] := fun e => by
  have : (w.length : Int) ∈ turnsI w := mem_turns.mpr ⟨⟨by omega, by omega⟩, tB_len w⟩
  rw [e] at this; cases this
/-- the least turn -/
def t0 (w : List Int) : Int := (turnsI w).headD 0
theorem t0_at {w : List Int} (h : 0 < w.length) : ∃ r, turnsI w = t0 w :: r := by
  unfold t0
  cases e : turnsI w with
  | nil => exact absurd e (turns_ne h)
  | cons p r => exact ⟨r, rfl⟩
theorem t0_mem {w : List Int} (h : 0 < w.length) : t0 w ∈ turnsI w := by
  obtain ⟨r, e⟩ := t0_at h
  rw [e]; exact List.mem_cons_self
theorem ix0 {x : Int} {r : List Int} : atI ((x :: r).map D.int) 0 = some (.int x) := by
  rw [atI_map, atI_ok (by decide) (by rw [List.length_cons]; omega)]
  rfl
theorem shortest_reel_ok (w : List Int) (h : 0 < w.length) (hw : w.length < 1000000) : m_shortest_reel [tI w] = ret (tI (w.take (t0 w).toNat)) := by
  unfold m_shortest_reel mb_shortest_reel b_shortest_reel
  obtain ⟨r, e⟩ := t0_at h
  have hp := (mem_turns.mp (t0_mem h)).1
  have e2 : ixD (tI (turnsI w)) (.int 0) = some (.int (t0 w)) := by
    rw [e]; unfold tI; rw [r_ixT, ix0]
  have e3 : slD (tI w) none (some (t0 w)) = some (tI (w.take (t0 w).toNat)) := by
    unfold tI
    rw [r_slT, cutL_map, cutL_to (by omega)]
  simp only [r_consM, r_bnd, turns_of_ok w hw, r_ixM, e2, r_lift, r_ptM, r_slM, e3, r_retF, r_endR]
/-! ### the law's own turn -/
theorem getD_at {α : Type} {l : List α} {k : Nat} {d : α} (h : k < l.length) : l.getD k d = l[k] := by simp [List.getD, h]
theorem ix_tI {w : List Int} {i : Int} (h : 0 ≤ i) (h2 : i < w.length) : ixD (tI w) (.int i) = some (.int (w[i.toNat]'(by omega))) := by
  unfold tI
  rw [r_ixT, atI_map, atI_ok h h2]
  rfl
theorem drop_take_iff (w : List Int) (p : Nat) (hp : p ≤ w.length) : w.drop p = w.take (w.length - p) ↔ ∀ (k : Nat) (h : k + p < w.length), w[k] = w[k + p] := by
  constructor
  · intro e k h
    have h1 : (w.drop p)[k]? = (w.take (w.length - p))[k]? := by rw [e]
    rw [List.getElem?_drop, List.getElem?_take, if_pos (by omega), List.getElem?_eq_getElem (by omega : p + k < w.length), List.getElem?_eq_getElem (by omega : k < w.length)] at h1
    have h2 : w[p + k] = w[k] := Option.some.inj h1
    have h3 : w[k + p] = w[p + k] := by congr 1; omega
    rw [h3, h2]
  · intro h
    apply List.ext_getElem
    · simp
    · intro k h1 h2
      rw [List.length_drop] at h1
      rw [List.getElem_drop, List.getElem_take]
      have := h k (by omega)
      rw [this]
      congr 1; omega
theorem law_turn_ok (w : List Int) (hw : w.length < 1000000) (p : Int) (h : 0 ≤ p) (h2 : p ≤ w.length) : m__law_turn [tI w, .int p] = ret (.bl (tB w p)) := by
  unfold m__law_turn mb__law_turn b__law_turn
  simp only [r_consM, r_bcM, len_tI, r_lift, r_op2, r_sub, r_bnd]
  rw [rng1_ok (by omega) (by omega), comp_ok (by rw [rng_len]; omega), rng_rI, compL_map, compL_all (fun k : Int => D.bl (decide (w.getD k.toNat 0 = w.getD (k + p).toNat 0))) fun k hk => ?_]
  · have e : ((rI 0 (w.length - p)).map fun k : Int => D.bl (decide (w.getD k.toNat 0 = w.getD (k + p).toNat 0))) = ((rI 0 (w.length - p)).map fun k : Int => decide (w.getD k.toNat 0 = w.getD (k + p).toNat 0)).map D.bl := by
      rw [List.map_map]; rfl
    rw [e]
    simp only [r_bnd, r_consM, r_bcM, all_bls, r_lift, r_retF, r_endR]
    congr 2
    rw [Bool.eq_iff_iff]
    unfold tB
    rw [decide_eq_true_eq, drop_take_iff w p.toNat (by omega), List.all_eq_true]
    constructor
    · intro hh k hk
      have := hh (decide (w.getD k 0 = w.getD (k + p.toNat) 0)) (List.mem_map.mpr ⟨(k : Int), mem_rI.mpr ⟨by omega, by omega⟩, by
        rw [show ((k : Int)).toNat = k by omega, show ((k : Int) + p).toNat = k + p.toNat by omega]⟩)
      have := of_decide_eq_true this
      rw [getD_at (by omega), getD_at (by omega)] at this
      exact this
    · intro hh b hb
      obtain ⟨k, hk, rfl⟩ := List.mem_map.mp hb
      obtain ⟨k1, k2⟩ := mem_rI.mp hk
      have := hh k.toNat (by omega)
      apply decide_eq_true
      rw [getD_at (by omega), getD_at (by omega), this]
      congr 1; omega
  · obtain ⟨k1, k2⟩ := mem_rI.mp hk
    simp only [r_ixM, ix_tI k1 (by omega : k < w.length), r_op2, r_add, r_lift, ix_tI (by omega : 0 ≤ k + p) (by omega : k + p < w.length), r_eq, r_eltT, r_bnd]
    rw [getD_at (by omega), getD_at (by omega)]
theorem pb_ints {n : Nat} (ns : List Int) : ∀ x ∈ ns.map D.int, Pb n x := fun x hx => by
  obtain ⟨i, _, rfl⟩ := List.mem_map.mp hx
  exact .int i
theorem pb_tI (ns : List Int) (h : ns.length < 16777216) : Pb 1 (tI ns) := .tup (pb_ints ns) (by rw [List.length_map]; exact h)
theorem turnsI_len (w : List Int) : (turnsI w).length ≤ w.length := by
  unfold turnsI
  refine Nat.le_trans (List.length_filter_le _ _) ?_
  rw [rI_len]; omega
end Lw

namespace Lw
open PySem PySem.Spec PyProof.Rows L2 Sn
/-! ### fails_at -/
theorem forL_findI {S : Type} {τ' l' : Type} {f : Unit → D → M S (Fl Unit Unit)} {k : Unit → M S (Fl τ' l')} (p : Int → Bool) : ∀ {xs : List Int}, (∀ x ∈ xs, f () (.int x) = if p x = true then ret (.rt (.int x)) else ret (.nx ())) → forL f k (xs.map .int) () = match xs.find? p with | some x => ret (.rt (.int x)) | none => k ()
  | [], _ => rfl
  | x :: xs, h => by
    rw [List.map_cons, forL_cons, h x List.mem_cons_self, List.find?_cons]
    cases hp : p x
    · simp only [Bool.false_eq_true, if_false, r_bnd]
      exact forL_findI p fun y hy => h y (List.mem_cons_of_mem _ hy)
    · simp
def nqB (w : List Int) (p k : Int) : Bool := !decide (w.getD k.toNat 0 = w.getD (k + p).toNat 0)
def failI (w : List Int) (p : Int) : Option Int := (rI 0 (w.length - p)).find? (nqB w p)
def oD : Option Int → D
  | some i => .int i
  | none => .non
theorem nq_at (w : List Int) (p k : Int) (h : 0 ≤ p) (hk : k ∈ rI 0 (w.length - p)) : (cmpT neD (ixM (ret (tI w)) (ret (.int k))) (ixM (ret (tI w)) (op2M addD (ret (.int k)) (ret (.int p)))) : M Bx Bool) = ret (nqB w p k) := by
  obtain ⟨k1, k2⟩ := mem_rI.mp hk
  simp only [r_ixM, ix_tI k1 (by omega : k < w.length), r_op2, r_add, r_lift, ix_tI (by omega : 0 ≤ k + p) (by omega : k + p < w.length), r_cmpT, r_ne, r_bnd, r_asB]
  unfold nqB
  rw [getD_at (by omega), getD_at (by omega)]
theorem fails_at_ok (w : List Int) (hw : w.length < 1000000) (p : Int) (h : 0 ≤ p) (h2 : p ≤ w.length) : m_fails_at [tI w, .int p] = ret (oD (failI w p)) := by
  unfold m_fails_at mb_fails_at b_fails_at
  simp only [r_consM, r_bcM, len_tI, r_lift, r_op2, r_sub, r_bnd]
  rw [rng1_ok (by omega) (by omega), r_forM, rng_rI, forL_findI (nqB w p) fun k hk => ?_]
  · unfold failI
    cases (rI 0 (w.length - p)).find? (nqB w p) with
    | none => simp [oD]
    | some x => simp [oD]
  · have e := nq_at w p k h hk
    simp only [r_op2] at e
    simp only [e, r_iteF]
    cases nqB w p k <;> simp
/-! ### _law_divisor -/
def divC (s : D × D) : M Bx Bool := cmpT gtD (ret s.2) (ret (.int 0))
def divF (s : D × D) : M Bx (Fl (D × D) (D × D)) := parM .E .E (ret s.2) (op2M subD (ret s.1) (op2M mulD (op2M divD (ret s.1) (ret s.2)) (ret s.2))) fun a_33 b_34 => (ret (.nx (a_33, b_34)))
theorem divC_ok (a : D) (b : Int) : divC (a, .int b) = ret (decide (0 < b)) := by simp [divC]
theorem divF_ok (a b : Int) (h : 0 < b) (h2 : b < 1000000) : divF (.int a, .int b) = ret (.nx (.int b, .int (a % b))) := by
  have e : a - a / b * b = a % b := by
    have := Int.emod_add_mul_ediv a b
    rw [Int.mul_comm] at this
    omega
  unfold divF
  simp only [r_op2, div_ok h (by omega : b < 1073741824), r_lift, mul_ok (i := a / b) (j := b) (.inr ⟨by omega, by omega⟩), r_sub, r_par, e]
theorem whileL_on {S τ τ' l' : Type} {c : τ → M S Bool} {f : τ → M S (Fl τ τ)} {k : τ → M S (Fl τ' l')} {n : Nat} {s s' : τ} (hc : c s = ret true) (hf : f s = ret (.nx s')) : whileL c f k (n + 1) s = whileL c f k n s' := by
  show bnd (c s) _ = _
  rw [hc, r_bnd, if_pos rfl, hf]
  rfl
theorem whileL_off {S τ τ' l' : Type} {c : τ → M S Bool} {f : τ → M S (Fl τ τ)} {k : τ → M S (Fl τ' l')} {n : Nat} {s : τ} (hc : c s = ret false) : whileL c f k (n + 1) s = k s := by
  show bnd (c s) _ = _
  rw [hc, r_bnd]
  rfl
theorem law_div_loop {τ' l' : Type} (k : D × D → M Bx (Fl τ' l')) : ∀ (n a b : Nat), b < n → a < 1000000 → b < 1000000 →
    whileL divC divF k n (.int (a : Int), .int (b : Int)) = k (.int (Nat.gcd a b : Int), .int 0)
  | 0, _, _, h, _, _ => by omega
  | n + 1, a, b, h, h1, h2 => by
    by_cases hb : b = 0
    · subst hb
      rw [whileL_off (divC_ok _ _), Nat.gcd_zero_right]
      rfl
    · rw [whileL_on ((divC_ok (.int (a : Int)) (b : Int)).trans (by rw [decide_eq_true (by omega : (0 : Int) < b)])) (divF_ok _ _ (by omega) (by omega))]
      have hm : a % b < b := Nat.mod_lt _ (by omega)
      rw [← Int.natCast_emod, law_div_loop k n b (a % b) (by omega) (by omega) (by omega)]
      have : Nat.gcd b (a % b) = Nat.gcd a b := by
        rw [Nat.gcd_comm a b]
        rw [Nat.gcd_rec b a, Nat.gcd_comm]
      rw [this]
theorem fuel_eq : fuel = 1000000000 := rfl
theorem law_divisor_ok (a b : Nat) (h1 : a < 1000000) (h2 : b < 1000000) : m__law_divisor [.int (a : Int), .int (b : Int)] = ret (.int (Nat.gcd a b : Int)) := by
  unfold m__law_divisor mb__law_divisor b__law_divisor
  show bnd (whileL divC divF _ fuel _) endF = _
  rw [law_div_loop _ fuel a b (by rw [fuel_eq]; omega) h1 h2]
  simp
/-! ### two turns and their divisor -/
def Per (f : Nat → Int) (n p : Nat) : Prop := ∀ k, k + p < n → f k = f (k + p)
theorem Per.mul {f : Nat → Int} {n g : Nat} (h : Per f n g) : ∀ (m k : Nat), k + m * g < n → f k = f (k + m * g)
  | 0, k, _ => by simp
  | m + 1, k, hk => by
    rw [Nat.add_mul, Nat.one_mul] at hk ⊢
    rw [h.mul m k (by omega), h (k + m * g) (by omega)]
    congr 1; omega
theorem fine_wilf : ∀ (s n p q : Nat) (f : Nat → Int), p + q ≤ s → 0 < p → 0 < q → p + q ≤ n + Nat.gcd p q → Per f n p → Per f n q → Per f n (Nat.gcd p q)
  | 0, _, _, _, _, h, _, _, _, _, _ => by omega
  | s + 1, n, p, q, f, hs, hp, hq, hn, h1, h2 => by
    have main : ∀ p q : Nat, p + q ≤ s + 1 → 0 < p → p < q → p + q ≤ n + Nat.gcd p q → Per f n p → Per f n q → Per f n (Nat.gcd p q) := by
      intro p q hs hp hlt hn h1 h2
      have hg : Nat.gcd p (q - p) = Nat.gcd p q := by
        have := Nat.gcd_add_self_right p (q - p)
        rw [show q - p + p = q by omega] at this
        exact this.symm
      have g0 : 0 < Nat.gcd p q := Nat.gcd_pos_of_pos_left _ hp
      have gd1 : Nat.gcd p q ∣ p := Nat.gcd_dvd_left p q
      have gd2 : Nat.gcd p q ∣ q - p := hg ▸ Nat.gcd_dvd_right p (q - p)
      have gl : Nat.gcd p q ≤ q - p := Nat.le_of_dvd (by omega) gd2
      have gp : Nat.gcd p q ≤ p := Nat.le_of_dvd hp gd1
      have ih := fine_wilf s (n - p) p (q - p) f (by omega) hp (by omega) (by rw [hg]; omega) (fun k hk => h1 k (by omega)) (fun k hk => by
        have e1 := h2 k (by omega)
        have e2 := h1 (k + (q - p)) (by omega)
        rw [e1, e2]; congr 1; omega)
      rw [hg] at ih
      intro k hk
      by_cases c : k + Nat.gcd p q < n - p
      · exact ih k c
      · by_cases c2 : p ≤ k
        · have e1 := h1 (k - p) (by omega)
          have e2 := h1 (k - p + Nat.gcd p q) (by omega)
          have e3 := ih (k - p) (by omega)
          rw [show k - p + p = k by omega] at e1
          rw [show k - p + Nat.gcd p q + p = k + Nat.gcd p q by omega] at e2
          rw [← e1, ← e2, e3]
        · obtain ⟨m, hm⟩ := gd1
          have hm1 : 0 < m := by
            rcases Nat.eq_zero_or_pos m with h | h
            · rw [h, Nat.mul_zero] at hm; omega
            · exact h
          have hm' : (m - 1) * Nat.gcd p q + Nat.gcd p q = p := by
            rw [← Nat.succ_mul, Nat.succ_eq_add_one, show m - 1 + 1 = m by omega, Nat.mul_comm]; exact hm.symm
          have e1 := ih.mul (m - 1) (k + Nat.gcd p q - p) (by omega)
          have e2 := h1 (k + Nat.gcd p q - p) (by omega)
          rw [show k + Nat.gcd p q - p + (m - 1) * Nat.gcd p q = k by omega] at e1
          rw [show k + Nat.gcd p q - p + p = k + Nat.gcd p q by omega] at e2
          rw [← e1, e2]
    rcases Nat.lt_trichotomy p q with h | h | h
    · exact main p q hs hp h hn h1 h2
    · subst h
      rw [Nat.gcd_self]; exact h1
    · rw [Nat.gcd_comm] at hn ⊢
      exact main q p (by omega) hq h (by omega) h2 h1
theorem tB_per {w : List Int} {p : Nat} (h : p ≤ w.length) : tB w p = true ↔ Per (fun k => w.getD k 0) w.length p := by
  unfold tB
  rw [decide_eq_true_eq, Int.toNat_natCast, drop_take_iff w p h]
  unfold Per
  constructor
  · intro g k hk
    have := g k hk
    show w.getD k 0 = w.getD (k + p) 0
    rw [getD_at (by omega), getD_at hk, this]
  · intro g k hk
    have : w.getD k 0 = w.getD (k + p) 0 := g k hk
    rw [getD_at (by omega), getD_at hk] at this
    exact this
end Lw

namespace Lw
open PySem PySem.Spec PyProof.Rows L2 Sn
/-! ### _law_flat, _law_reels -/
theorem flat_loop {τ' l' : Type} (k : D → M Bx (Fl τ' l')) : ∀ (rows : List (List D)) (acc : List D), acc.length + rows.flatten.length ≤ 16777216 →
    forL (fun (s : D) row => (extM s (ret row) fun found => (ret (.nx found)))) k (rows.map .lst) (.lst acc) = k (.lst (acc ++ rows.flatten))
  | [], acc, _ => by rw [List.map_nil, r_forN, List.flatten_nil, List.append_nil]
  | r :: rows, acc, h => by
    rw [List.flatten_cons, List.length_append] at h
    rw [List.map_cons, forL_on (ext_ok (by omega))]
    rw [flat_loop k rows (acc ++ r) (by rw [List.length_append]; omega), List.flatten_cons, List.append_assoc]
theorem law_flat_ok (rows : List (List D)) (h : rows.flatten.length ≤ 16777216) : m__law_flat [.lst (rows.map .lst)] = ret (.lst rows.flatten) := by
  show bnd (ownM (lstM (ret [])) fun found => bnd (ret (rows.map .lst)) fun xs => forL _ _ xs found) endF = _
  have e : (lstM (ret []) : M Bx D) = ret (.lst []) := by simp [lstM, lstD_le]
  rw [e, r_own, r_bnd, flat_loop _ rows [] (by simpa using h)]
  rfl
def rl : Nat → List (List Int)
  | 0 => [[]]
  | n + 1 => (rl n).flatMap fun r => [r ++ [1], r ++ [2], r ++ [3]]
theorem rl_len : ∀ n : Nat, (rl n).length = 3 ^ n
  | 0 => rfl
  | n + 1 => by
    have : ∀ l : List (List Int), (l.flatMap fun r => [r ++ [1], r ++ [2], r ++ [3]]).length = l.length * 3 := by
      intro l
      induction l with
      | nil => rfl
      | cons a l ih => rw [List.flatMap_cons, List.length_append, ih, List.length_cons]; simp; omega
    show ((rl n).flatMap _).length = _
    rw [this, rl_len n, Nat.pow_succ]
theorem mem_rl : ∀ (n : Nat) (r : List Int), r ∈ rl n ↔ r.length = n ∧ ∀ x ∈ r, x = 1 ∨ x = 2 ∨ x = 3
  | 0, r => by
    show r ∈ [[]] ↔ _
    rw [List.mem_singleton, List.length_eq_zero_iff]
    constructor
    · rintro rfl; exact ⟨rfl, fun x h => by cases h⟩
    · exact fun h => h.1
  | n + 1, r => by
    show r ∈ (rl n).flatMap _ ↔ _
    rw [List.mem_flatMap]
    constructor
    · rintro ⟨a, ha, hr⟩
      obtain ⟨h1, h2⟩ := (mem_rl n a).mp ha
      simp only [List.mem_cons, List.not_mem_nil, or_false] at hr
      rcases hr with rfl | rfl | rfl <;>
      · refine ⟨by simp [h1], fun x hx => ?_⟩
        rcases List.mem_append.mp hx with h | h
        · exact h2 x h
        · simp at h; simp [h]
    · rintro ⟨h1, h2⟩
      have hne : r ≠ [] := fun e => by rw [e] at h1; simp at h1
      have e := List.dropLast_concat_getLast hne
      refine ⟨r.dropLast, (mem_rl n _).mpr ⟨by rw [List.length_dropLast, h1]; omega, fun x hx => h2 x (List.dropLast_subset _ hx)⟩, ?_⟩
      rcases h2 (r.getLast hne) (List.getLast_mem hne) with h | h | h <;>
      · rw [h] at e
        rw [← e]
        simp
theorem tI_app (r : List Int) (k : Int) (h : r.length < 1000000) : (op2M addD (ret (tI r)) (tupM (consM (ret (.int k)) (ret []))) : M Bx D) = ret (tI (r ++ [k])) := by
  simp only [tupM, r_consM, r_bnd, r_tup1, r_lift, r_op2]
  unfold tI
  rw [addT_ok (by rw [List.length_map, List.length_singleton]; omega), r_lift, List.map_append]
  rfl
theorem reel_row (r : List Int) (h : r.length < 1000000) : (compM (itM (tupM (consM (ret (.int 1)) (consM (ret (.int 2)) (consM (ret (.int 3)) (ret [])))))) fun k_51 => (eltM (ret true) (op2M addD (ret (tI r)) (tupM (consM (ret k_51) (ret [])))))) = (ret (.lst ([r ++ [1], r ++ [2], r ++ [3]].map tI)) : M Bx D) := by
  have e : (itM (tupM (consM (ret (.int 1)) (consM (ret (.int 2)) (consM (ret (.int 3)) (ret []))))) : M Bx (List D)) = ret ([1, 2, 3].map D.int) := by
    simp [tupM]
  rw [e, comp_ok (by decide), compL_map, compL_all (fun k : Int => tI (r ++ [k])) fun k _ => by rw [tI_app r k h, r_eltT, r_bnd]]
  rfl
theorem reel_rows (n : Nat) (h : n ≤ 5) : (compM (itM (ret (.lst ((rl n).map tI)))) fun row_50 => (eltM (ret true) (compM (itM (tupM (consM (ret (.int 1)) (consM (ret (.int 2)) (consM (ret (.int 3)) (ret [])))))) fun k_51 => (eltM (ret true) (op2M addD (ret row_50) (tupM (consM (ret k_51) (ret [])))))))) = (ret (.lst (((rl n).map fun r => [r ++ [1], r ++ [2], r ++ [3]].map tI).map .lst)) : M Bx D) := by
  have h5 : 3 ^ n ≤ 3 ^ 5 := Nat.pow_le_pow_right (by decide) h
  rw [r_itL, comp_ok (by rw [List.length_map, rl_len]; omega), compL_map, compL_all (fun r : List Int => D.lst ([r ++ [1], r ++ [2], r ++ [3]].map tI)) fun r hr => ?_]
  · rw [r_bnd, List.map_map]; rfl
  · rw [reel_row r (by rw [((mem_rl n r).mp hr).1]; omega), r_eltT, r_bnd]
theorem rl_flat (n : Nat) : ((rl n).map fun r => [r ++ [1], r ++ [2], r ++ [3]].map tI).flatten = (rl (n + 1)).map tI := by
  show _ = ((rl n).flatMap _).map tI
  rw [List.map_flatMap, List.flatMap_def]
theorem reel_loop {τ' l' : Type} (k : D → M Bx (Fl τ' l')) : ∀ (xs : List D) (n : Nat), n + xs.length ≤ 5 →
    forL (fun (s_47 : D) step_48 => (bnd (bnd (consM (compM (itM (ret s_47)) fun row_50 => (eltM (ret true) (compM (itM (tupM (consM (ret (.int 1)) (consM (ret (.int 2)) (consM (ret (.int 3)) (ret [])))))) fun k_51 => (eltM (ret true) (op2M addD (ret row_50) (tupM (consM (ret k_51) (ret [])))))))) (ret [])) m__law_flat) fun rows_49 => (ret (.nx rows_49)))) k xs (.lst ((rl n).map tI)) = k (.lst ((rl (n + xs.length)).map tI))
  | [], n, _ => rfl
  | x :: xs, n, h => by
    rw [List.length_cons] at h
    have h5 : 3 ^ (n + 1) ≤ 3 ^ 5 := Nat.pow_le_pow_right (by decide) (by omega)
    rw [forL_on (s1 := .lst ((rl (n + 1)).map tI)) (by rw [reel_rows n (by omega), r_consM, r_bnd, law_flat_ok _ (by rw [rl_flat, List.length_map, rl_len]; omega), r_bnd, rl_flat])]
    rw [reel_loop k xs (n + 1) (by omega), List.length_cons, show n + 1 + xs.length = n + (xs.length + 1) by omega]
theorem law_reels_ok (n : Nat) (h : n ≤ 5) : m__law_reels [.int n] = ret (.lst ((rl n).map tI)) := by
  rw [show m__law_reels [.int n] = bnd (b__law_reels (.int n)) endF from rfl]
  unfold b__law_reels
  have e : (lstM (consM (tupM (ret [])) (ret [])) : M Bx D) = ret (.lst ((rl 0).map tI)) := by
    simp only [lstM, tupM, r_bnd, r_tup0, r_lift, r_consM, r_lst1]; rfl
  rw [e, r_bnd, rng1_ok (by omega) (by omega), r_forM, reel_loop _ _ 0 (by rw [rng_len]; omega), rng_len]
  rw [show 0 + ((n : Int) - 0).toNat = n by omega]
  rfl
/-! ### the reels that read a word -/
def rdB (w r : List Int) : Bool := (List.range w.length).all fun k => decide (r.getD (k % r.length) 0 = w.getD k 0)
def fitI (w : List Int) : List (List Int) := (rI 1 6).flatMap fun s => (rl s.toNat).filter (rdB w)
theorem rI_lt (a b : Int) : (rI a b).Pairwise (· < ·) := by
  unfold rI
  rw [List.pairwise_map]
  exact List.pairwise_lt_range.imp fun h => by omega
theorem t0_le {w : List Int} {p : Int} (h : p ∈ turnsI w) : t0 w ≤ p := by
  have hs : (turnsI w).Pairwise (· < ·) := (rI_lt _ _).filter _
  unfold t0
  cases e : turnsI w with
  | nil => rw [e] at h; cases h
  | cons x r =>
    rw [e] at h hs
    rcases List.mem_cons.mp h with rfl | h
    · exact Int.le_refl _
    · exact Int.le_of_lt ((List.pairwise_cons.mp hs).1 p h)
theorem rd_turn {w r : List Int} (h : 0 < r.length) (h2 : r.length ≤ w.length) (hr : rdB w r = true) : r = w.take r.length ∧ tB w r.length = true := by
  have g : ∀ k, k < w.length → r.getD (k % r.length) 0 = w.getD k 0 := fun k hk => of_decide_eq_true (List.all_eq_true.mp hr k (List.mem_range.mpr hk))
  refine ⟨?_, (tB_per h2).mpr fun k hk => ?_⟩
  · apply List.ext_getElem
    · rw [List.length_take]; omega
    · intro k h3 h4
      have := g k (by omega)
      rw [Nat.mod_eq_of_lt h3, getD_at h3, getD_at (by omega)] at this
      rw [List.getElem_take, this]
  · show w.getD k 0 = w.getD (k + r.length) 0
    rw [← g k (by omega), ← g (k + r.length) hk, Nat.add_mod_right]
theorem rd_take {w : List Int} {p : Nat} (h : 0 < p) (h2 : p ≤ w.length) (ht : tB w p = true) : rdB w (w.take p) = true := by
  have hp := (tB_per h2).mp ht
  unfold rdB
  rw [List.all_eq_true]
  intro k hk
  rw [List.mem_range] at hk
  have hl : (w.take p).length = p := by rw [List.length_take]; omega
  have hm : k % p < p := Nat.mod_lt _ h
  have hd := Nat.mod_add_div k p
  rw [Nat.mul_comm] at hd
  apply decide_eq_true
  rw [hl, getD_at (by rw [hl]; exact hm), List.getElem_take]
  have := hp.mul (k / p) (k % p) (by omega)
  rw [hd] at this
  rw [← getD_at (d := 0)]
  exact this
theorem fm_head {α β : Type} (f : Int → List β) (t : Int) {y : β} {ys : List β} (hf : f t = y :: ys) : ∀ {L : List Int}, L.Pairwise (· < ·) → t ∈ L → (∀ s ∈ L, s < t → f s = []) → ∃ rest, L.flatMap f = y :: rest
  | [], _, h, _ => by cases h
  | a :: L, hp, h, hs => by
    rw [List.flatMap_cons]
    by_cases e : a = t
    · subst e; rw [hf]; exact ⟨_, rfl⟩
    · have hm : t ∈ L := by
        rcases List.mem_cons.mp h with h | h
        · exact absurd h.symm e
        · exact h
      rw [hs a List.mem_cons_self ((List.pairwise_cons.mp hp).1 t hm), List.nil_append]
      exact fm_head (α := α) f t hf (List.pairwise_cons.mp hp).2 hm fun s hs' => hs s (List.mem_cons_of_mem _ hs')
theorem fit_head {w : List Int} (h : 0 < w.length) (h5 : w.length ≤ 5) (hw : ∀ x ∈ w, x = 1 ∨ x = 2 ∨ x = 3) : (∃ x rest, fitI w = x :: rest ∧ (x.length : Int) = t0 w) ∧ w.take (t0 w).toNat ∈ fitI w := by
  obtain ⟨⟨p1, p2⟩, pt⟩ := mem_turns.mp (t0_mem h)
  obtain ⟨p, hp⟩ := Int.eq_ofNat_of_zero_le (show 0 ≤ t0 w by omega)
  rw [hp] at p1 p2 pt ⊢
  have hin : w.take p ∈ (rl p).filter (rdB w) := List.mem_filter.mpr ⟨(mem_rl p _).mpr ⟨by rw [List.length_take]; omega, fun x hx => hw x (List.mem_of_mem_take hx)⟩, rd_take (by omega) (by omega) pt⟩
  have hR : (p : Int) ∈ rI 1 6 := mem_rI.mpr ⟨by omega, by omega⟩
  refine ⟨?_, List.mem_flatMap.mpr ⟨p, hR, by simpa using hin⟩⟩
  cases e : (rl p).filter (rdB w) with
  | nil => rw [e] at hin; cases hin
  | cons y ys =>
    obtain ⟨rest, er⟩ := fm_head (α := Unit) (fun s : Int => (rl s.toNat).filter (rdB w)) p (y := y) (ys := ys) (by simpa using e) (rI_lt 1 6) hR fun s hs hlt => by
      obtain ⟨s1, s2⟩ := mem_rI.mp hs
      rw [List.filter_eq_nil_iff]
      intro r hr hrd
      have hl := ((mem_rl _ r).mp hr).1
      have := (rd_turn (w := w) (r := r) (by omega) (by omega) hrd).2
      have hm : (r.length : Int) ∈ turnsI w := mem_turns.mpr ⟨⟨by omega, by omega⟩, this⟩
      have := t0_le hm
      omega
    have hy : y ∈ (rl p).filter (rdB w) := by rw [e]; exact List.mem_cons_self
    exact ⟨y, rest, er, by rw [((mem_rl p y).mp (List.mem_filter.mp hy).1).1]⟩
end Lw

namespace Lw
open PySem PySem.Spec PyProof.Rows L2 Sn
theorem len_ok (w : List Int) : (bcM lenD (consM (ret (tI w)) (ret [])) : M Bx D) = ret (.int w.length) := by simp only [r_consM, r_bcM, len_tI, r_lift]
/-! ### the loop that gathers fitting reels -/
theorem read_row (w r : List Int) (n : Nat) (hr : r.length = n) (h : 0 < n) (h5 : n ≤ 5) (hw : w.length < 1000000) :
    (compM (rng1M (bcM lenD (consM (ret (tI w)) (ret [])))) fun k_79 => (eltM (ret true) (op2M eqD (ixM (ret (tI r)) (op2M subD (ret k_79) (op2M mulD (op2M divD (ret k_79) (ret (.int n))) (ret (.int n))))) (ixM (ret (tI w)) (ret k_79))))) = (ret (.lst (((List.range w.length).map fun k => decide (r.getD (k % r.length) 0 = w.getD k 0)).map .bl)) : M Bx D) := by
  subst hr
  rw [len_ok, rng1_ok (by omega) (by omega), comp_ok (by rw [rng_len]; omega)]
  have e : rng 0 (w.length : Int) = (List.range w.length).map fun k : Nat => D.int k := by
    unfold rng
    rw [show ((w.length : Int) - 0).toNat = w.length by omega]
    apply List.map_congr_left
    intro k _
    rw [Int.zero_add]
  rw [e, compL_map, compL_all (fun k : Nat => D.bl (decide (r.getD (k % r.length) 0 = w.getD k 0))) fun k hk => ?_]
  · rw [r_bnd, List.map_map]; rfl
  · rw [List.mem_range] at hk
    have hm : k % r.length < r.length := Nat.mod_lt _ h
    have e2 : (k : Int) - (k : Int) / (r.length : Int) * (r.length : Int) = ((k % r.length : Nat) : Int) := by rw [modv, Int.natCast_emod]
    simp only [r_op2, div_ok (by omega : (0 : Int) < r.length) (by omega), r_lift, mul_ok (i := (k : Int) / r.length) (j := (r.length : Int)) (.inr ⟨by omega, by omega⟩), r_sub, e2, r_ixM,
      ix_tI (w := r) (i := ((k % r.length : Nat) : Int)) (by omega) (by omega), ix_tI (w := w) (i := (k : Int)) (by omega) (by omega), r_eq, r_eltT, r_bnd]
    rw [getD_at (by omega), getD_at hk]
    rfl
theorem fit_size (w : List Int) (n : Nat) (h : 0 < n) (h5 : n ≤ 5) (hw : w.length < 1000000) :
    (compM (itM (bnd (consM (ret (.int n)) (ret [])) m__law_reels)) fun reel_78 => (eltM (valT (bcM allD (consM (compM (rng1M (bcM lenD (consM (ret (tI w)) (ret [])))) fun k_79 => (eltM (ret true) (op2M eqD (ixM (ret reel_78) (op2M subD (ret k_79) (op2M mulD (op2M divD (ret k_79) (ret (.int n))) (ret (.int n))))) (ixM (ret (tI w)) (ret k_79))))) (ret [])))) (ret reel_78))) = (ret (.lst (((rl n).filter (rdB w)).map tI)) : M Bx D) := by
  have h3 : 3 ^ n ≤ 3 ^ 5 := Nat.pow_le_pow_right (by decide) h5
  rw [r_consM, r_bnd, law_reels_ok n h5, r_itL, comp_ok (by rw [List.length_map, rl_len]; omega), compL_map, compL_if (rdB w) tI fun r hr => ?_]
  · rw [r_bnd]
  · rw [read_row w r n ((mem_rl n r).mp hr).1 h h5 hw]
    simp only [r_consM, r_bcM, all_bls, r_lift, r_valT, r_tru_bl, r_elt]
    have e : ((List.range w.length).map fun k => decide (r.getD (k % r.length) 0 = w.getD k 0)).all id = rdB w r := by
      unfold rdB
      rw [List.all_map]
      rfl
    rw [e]
theorem fit_loop {τ' l' : Type} (w : List Int) (hw : w.length < 1000000) (k : D → M Bx (Fl τ' l')) : ∀ (ns : List Int) (acc : List (List Int)), (∀ n ∈ ns, 1 ≤ n ∧ n ≤ 5) → acc.length + ns.length * 243 ≤ 16777216 →
    forL (fun (s_75 : D) size_76 => (extM s_75 (compM (itM (bnd (consM (ret size_76) (ret [])) m__law_reels)) fun reel_78 => (eltM (valT (bcM allD (consM (compM (rng1M (bcM lenD (consM (ret (tI w)) (ret [])))) fun k_79 => (eltM (ret true) (op2M eqD (ixM (ret reel_78) (op2M subD (ret k_79) (op2M mulD (op2M divD (ret k_79) (ret size_76)) (ret size_76)))) (ixM (ret (tI w)) (ret k_79))))) (ret [])))) (ret reel_78))) fun fit_77 => (ret (.nx fit_77)))) k (ns.map .int) (.lst (acc.map tI)) = k (.lst ((acc ++ ns.flatMap fun s => (rl s.toNat).filter (rdB w)).map tI))
  | [], acc, _, _ => by rw [List.map_nil, r_forN, List.flatMap_nil, List.append_nil]
  | n :: ns, acc, hn, hl => by
    obtain ⟨n1, n2⟩ := hn n List.mem_cons_self
    rw [List.length_cons] at hl
    obtain ⟨m, rfl⟩ := Int.eq_ofNat_of_zero_le (show 0 ≤ n by omega)
    have h3 : 3 ^ m ≤ 3 ^ 5 := Nat.pow_le_pow_right (by decide) (by omega)
    have hf : ((rl m).filter (rdB w)).length ≤ 243 := Nat.le_trans (List.length_filter_le _ _) (by rw [rl_len]; omega)
    rw [List.map_cons, forL_on (s1 := .lst ((acc ++ (rl m).filter (rdB w)).map tI)) (by
      rw [fit_size w m (by omega) (by omega) hw, ext_ok (by rw [List.length_map, List.length_map]; omega), List.map_append])]
    rw [fit_loop w hw k ns (acc ++ (rl m).filter (rdB w)) (fun n h => hn n (List.mem_cons_of_mem _ h)) (by rw [List.length_append]; omega), List.flatMap_cons, List.append_assoc]
    rfl
/-! ### shortest_machine and the law's own -/
def col (ps : List (List Int)) (j : Int) : List Int := ps.map fun p => p.getD j.toNat 0
def colR (ps : List (List Int)) (j : Int) : D := tI ((col ps j).take (t0 (col ps j)).toNat)
theorem column_ok (ps : List (List Int)) (hl : ps.length < 1000000) (j : Int) (h : 0 ≤ j) (hp : ∀ p ∈ ps, j < p.length) :
    (bcM tupleD (consM (compM (itM (ret (.tup (ps.map tI)))) fun packet_14 => (eltM (ret true) (ixM (ret packet_14) (ret (.int j))))) (ret [])) : M Bx D) = ret (tI (col ps j)) := by
  rw [r_itT, comp_ok (by rw [List.length_map]; omega), compL_map, compL_all (fun p : List Int => D.int (p.getD j.toNat 0)) fun p hp' => ?_]
  · simp only [r_bnd, r_consM, r_bcM, r_tupL, r_lift]
    unfold tI col
    rw [List.map_map]; rfl
  · have := hp p hp'
    rw [r_ixM, ix_tI h this, r_lift, r_eltT, r_bnd, getD_at (by omega)]
theorem rI_map_lt {n : Nat} (hn : (n : Int) < 1000000) : (rng 0 (n : Int)).length ≤ 16777216 := by rw [rng_len]; omega
theorem shortest_machine_ok (ps : List (List Int)) (h : 0 < ps.length) (hl : ps.length < 1000000) (hp : ∀ p ∈ ps, p.length = 3) :
    m_shortest_machine [.tup (ps.map tI)] = ret (.tup ((rI 0 3).map (colR ps))) := by
  rw [show m_shortest_machine [.tup (ps.map tI)] = bnd (b_shortest_machine (.tup (ps.map tI))) endF from rfl]
  unfold b_shortest_machine
  have e : (bcM lenD (consM (ixM (ret (.tup (ps.map tI))) (ret (.int 0))) (ret [])) : M Bx D) = ret (.int 3) := by
    cases ps with
    | nil => cases h
    | cons p ps =>
      rw [r_ixM, r_ixT, List.map_cons, atI_ok (by decide) (by rw [List.length_cons]; omega)]
      simp only [Int.toNat_zero, List.getElem_cons_zero, r_lift]
      rw [len_ok, hp p List.mem_cons_self]; rfl
  rw [e, rng1_ok (by decide) (by decide), comp_ok (by rw [rng_len]; decide), rng_rI, compL_map, compL_all (colR ps) fun j hj => ?_]
  · simp only [r_bnd, r_consM, r_bcM, r_tupL, r_lift, r_retF, r_endR]
  · obtain ⟨j1, j2⟩ := mem_rI.mp hj
    rw [column_ok ps hl j j1 fun p hp' => by rw [hp p hp']; exact j2]
    have hc : (col ps j).length = ps.length := by unfold col; rw [List.length_map]
    rw [r_consM, r_bnd, shortest_reel_ok _ (by omega) (by omega), r_eltT, r_bnd]
    rfl
theorem due_one (ps : List (List Int)) (h : 0 < ps.length) (hl : ps.length < 1000000) (hp : ∀ p ∈ ps, p.length = 3) (j : Int) (j1 : 0 ≤ j) (j2 : j < 3) (acc : List D) (ha : acc.length < 1000000) :
    (bnd (bcM tupleD (consM (compM (itM (ret (.tup (ps.map tI)))) fun packet_89 => (eltM (ret true) (ixM (ret packet_89) (ret (.int j))))) (ret []))) fun column_86 => (appM (.lst acc) (slM (ret column_86) (ret none) (ptM (ixM (compM (rng2M (ret (.int 1)) (op2M addD (bcM lenD (consM (ret column_86) (ret []))) (ret (.int 1)))) fun p_88 => (eltM (valT (bnd (consM (ret column_86) (consM (ret p_88) (ret []))) m__law_turn)) (ret p_88))) (ret (.int 0))))) fun due_87 => (ret (.nx due_87))) : M Bx (Fl D D)) = ret (.nx (.lst (acc ++ [colR ps j]))) := by
  have hc : (col ps j).length = ps.length := by unfold col; rw [List.length_map]
  rw [column_ok ps hl j j1 fun p hp' => by rw [hp p hp']; exact j2, r_bnd, len_ok]
  simp only [r_op2, r_add, r_lift, r_consM, r_bnd]
  rw [turns_comp (col ps j) (by omega) (fun p => m__law_turn [tI (col ps j), p]) fun p h1 h2 => law_turn_ok _ (by omega) p (by omega) h2]
  obtain ⟨r, e⟩ := t0_at (w := col ps j) (by omega)
  have ht := (mem_turns.mp (t0_mem (w := col ps j) (by omega))).1
  have e2 : (ixD (lI (turnsI (col ps j))) (.int 0)) = some (.int (t0 (col ps j))) := by
    rw [e]; unfold lI; rw [r_ixL, ix0]
  have e3 : slD (tI (col ps j)) none (some (t0 (col ps j))) = some (colR ps j) := by
    unfold tI colR
    rw [r_slT, cutL_map, cutL_to (by omega)]
    rfl
  simp only [r_ixM, e2, r_lift, r_ptM, r_slM, e3]
  rw [Sn.app_ok (by omega)]
theorem due_loop {τ' l' : Type} (ps : List (List Int)) (h : 0 < ps.length) (hl : ps.length < 1000000) (hp : ∀ p ∈ ps, p.length = 3) (k : D → M Bx (Fl τ' l')) : ∀ (js : List Int) (acc : List D), (∀ j ∈ js, 0 ≤ j ∧ j < 3) → acc.length + js.length < 1000000 →
    forL (fun (s_84 : D) j_85 => (bnd (bcM tupleD (consM (compM (itM (ret (.tup (ps.map tI)))) fun packet_89 => (eltM (ret true) (ixM (ret packet_89) (ret j_85)))) (ret []))) fun column_86 => (appM s_84 (slM (ret column_86) (ret none) (ptM (ixM (compM (rng2M (ret (.int 1)) (op2M addD (bcM lenD (consM (ret column_86) (ret []))) (ret (.int 1)))) fun p_88 => (eltM (valT (bnd (consM (ret column_86) (consM (ret p_88) (ret []))) m__law_turn)) (ret p_88))) (ret (.int 0))))) fun due_87 => (ret (.nx due_87))))) k (js.map .int) (.lst acc) = k (.lst (acc ++ js.map (colR ps)))
  | [], acc, _, _ => by rw [List.map_nil, r_forN, List.map_nil, List.append_nil]
  | j :: js, acc, hj, ha => by
    rw [List.length_cons] at ha
    obtain ⟨j1, j2⟩ := hj j List.mem_cons_self
    rw [List.map_cons, forL_on (due_one ps h hl hp j j1 j2 acc (by omega))]
    rw [due_loop ps h hl hp k js (acc ++ [colR ps j]) (fun j h => hj j (List.mem_cons_of_mem _ h)) (by rw [List.length_append, List.length_singleton]; omega), List.append_assoc]
    rfl
/-! ### _law_word -/
def WordI (w : List Int) : Prop := 1 ≤ w.length ∧ w.length ≤ 14 ∧ ∀ x ∈ w, x = 1 ∨ x = 2 ∨ x = 3
theorem law_word_ok : Wp (m__law_word [.box, .int 14]) fun d => ∃ w, d = tI w ∧ WordI w := by
  rw [show m__law_word [.box, .int 14] = bnd (b__law_word .box (.int 14)) endF from rfl]
  unfold b__law_word
  have hpart : Wp (compM (rng1M (op2M addD (ret (.int 1)) (bnd (consM (ret .box) (consM (ret (.int 5)) (ret []))) m_draw))) fun k_44 => (eltM (ret true) (op2M addD (ret (.int 1)) (bnd (consM (ret .box) (consM (ret (.int 2)) (ret []))) m_draw)))) fun d => ∃ part, d = lI part ∧ 1 ≤ part.length ∧ part.length ≤ 5 ∧ ∀ x ∈ part, x = 1 ∨ x = 2 ∨ x = 3 := by
    refine Wp.compM (Wp.rng1 (Wp.op2 (Wp.ret (Wp.drawc (by decide) (by decide) fun n n1 n2 => ⟨_, r_add _ _, _, rfl, ⟨by omega, by omega⟩, by rw [rng_len]; omega, ?_⟩))))
    refine Wp.comp (R := fun _ y => ∃ i : Int, y = .int i ∧ (i = 1 ∨ i = 2 ∨ i = 3)) (fun x _ => Wp.elt (Wp.op2 (Wp.ret (Wp.drawc (by decide) (by decide) fun n n1 n2 => ⟨_, r_add _ _, _, rfl, _, rfl, by omega⟩)))) fun ys hl hr => ?_
    rw [rng_len] at hl
    have hy : ∀ y ∈ ys, ∃ i : Int, y = .int i ∧ (i = 1 ∨ i = 2 ∨ i = 3) := fun y hy => by
      obtain ⟨i, hi, rfl⟩ := List.mem_iff_getElem.mp hy
      exact hr i _ _ (List.getElem?_eq_getElem (by rw [rng_len]; omega)) (List.getElem?_eq_getElem hi)
    have : ∃ part : List Int, ys = part.map .int ∧ ∀ x ∈ part, x = 1 ∨ x = 2 ∨ x = 3 := by
      clear hr hl
      induction ys with
      | nil => exact ⟨[], rfl, fun _ h => by cases h⟩
      | cons y ys ih =>
        obtain ⟨p, e, hp⟩ := ih fun z hz => hy z (List.mem_cons_of_mem _ hz)
        obtain ⟨i, e2, hi⟩ := hy y List.mem_cons_self
        refine ⟨i :: p, by rw [e, e2]; rfl, fun x hx => ?_⟩
        rcases List.mem_cons.mp hx with rfl | h
        · exact hi
        · exact hp x h
    obtain ⟨p, e, hp⟩ := this
    subst e
    rw [List.length_map] at hl
    exact ⟨p, rfl, by omega, by omega, hp⟩
  refine Wp.bnd (Wp.bnd (hpart.mono fun d ⟨part, e, p1, p2, p3⟩ => ?_))
  subst e
  refine Wp.bnd (Wp.op2 (Wp.ret (Wp.drawc (by decide) (by decide) fun s0 s1 s2 => ⟨_, r_add _ _, ?_⟩)))
  obtain ⟨n, hn⟩ := Int.eq_ofNat_of_zero_le (show (0 : Int) ≤ 1 + s0 by omega)
  rw [hn]
  have hlen : (bcM lenD (consM (ret (lI part)) (ret [])) : M Bx D) = ret (.int part.length) := by simp [lI, lenD]
  have hix : ∀ i : Int, 0 ≤ i → i < part.length → ixD (lI part) (.int i) = some (.int (part.getD i.toNat 0)) := fun i h1 h2 => by
    unfold lI
    rw [r_ixL, atI_map, atI_ok h1 h2, getD_at (by omega)]
    rfl
  have e1 : (compM (rng1M (ret (.int n))) fun k_43 => (eltM (ret true) (ixM (ret (lI part)) (op2M subD (ret k_43) (op2M mulD (op2M divD (ret k_43) (bcM lenD (consM (ret (lI part)) (ret [])))) (bcM lenD (consM (ret (lI part)) (ret []))))))) : M Bx D) = ret (lI ((rI 0 n).map fun k => part.getD (k % (part.length : Int)).toNat 0)) := by
    rw [rng1_ok (by omega) (by omega), comp_ok (by rw [rng_len]; omega), rng_rI, compL_map, compL_all (fun k : Int => D.int (part.getD (k % (part.length : Int)).toNat 0)) fun k hk => ?_]
    · rw [r_bnd]; unfold lI; rw [List.map_map]; rfl
    · obtain ⟨k1, k2⟩ := mem_rI.mp hk
      have m1 := Int.emod_nonneg k (show (part.length : Int) ≠ 0 by omega)
      have m2 := Int.emod_lt_of_pos k (show (0 : Int) < part.length by omega)
      simp only [hlen, r_op2, div_ok (by omega : (0 : Int) < part.length) (by omega), r_lift, mul_ok (i := k / part.length) (j := (part.length : Int)) (.inr ⟨by omega, by omega⟩), r_sub, modv, r_ixM, hix _ m1 m2, r_eltT, r_bnd]
  rw [e1]
  refine Wp.own (Wp.ret ⟨rfl, ?_⟩)
  have hw : ∀ x ∈ (rI 0 n).map (fun k => part.getD (k % (part.length : Int)).toNat 0), x = 1 ∨ x = 2 ∨ x = 3 := fun x hx => by
    obtain ⟨k, hk, rfl⟩ := List.mem_map.mp hx
    have m1 := Int.emod_nonneg k (show (part.length : Int) ≠ 0 by omega)
    have m2 := Int.emod_lt_of_pos k (show (0 : Int) < part.length by omega)
    rw [getD_at (by omega)]
    exact p3 _ (List.getElem_mem _)
  have hwl : ((rI 0 n).map (fun k => part.getD (k % (part.length : Int)).toNat 0)).length = n := by rw [List.length_map, rI_len]; omega
  revert hw hwl
  generalize (rI 0 n).map (fun k => part.getD (k % (part.length : Int)).toNat 0) = w
  intro hw hwl
  have fin : ∀ w' : List Int, w'.length = n → (∀ x ∈ w', x = 1 ∨ x = 2 ∨ x = 3) → Wp (retF (bcM tupleD (consM (ret (lI w')) (ret []))) : M Bx (Fl Unit Unit)) fun a => Wp (endF a : M Bx D) fun d => ∃ w, d = tI w ∧ WordI w := fun w' h1 h2 =>
    Wp.retF (P := fun a => Wp (endF a : M Bx D) fun d => ∃ w, d = tI w ∧ WordI w) (Wp.eq (n := ret (tI w')) (by simp [lI, tI]) (Wp.ret (Wp.ret ⟨w', rfl, by omega, by omega, h2⟩)))
  refine Wp.iteN (Wp.cmp (Wp.drawc (by decide) (by decide) fun c _ _ => Wp.ret ⟨_, r_eq _ _, ?_⟩))
  by_cases hc : c = 0
  · rw [if_pos (decide_eq_true hc)]
    refine Wp.setM (Wp.ret (Wp.drawc (by omega) (by omega) fun i i1 i2 => ⟨lI (w.set i.toNat 3), ?_, ?_⟩))
    · unfold lI
      rw [setD_ok i1 (by rw [List.length_map]; omega), List.map_set]
    · refine Wp.ret ⟨_, rfl, fin _ (by rw [List.length_set]; omega) fun x hx => ?_⟩
      rcases List.mem_or_eq_of_mem_set hx with h | h
      · exact hw x h
      · exact .inr (.inr h)
  · rw [if_neg (by simpa using hc)]
    exact Wp.ret ⟨_, rfl, fin w hwl hw⟩
end Lw

namespace Lw
open PySem PySem.Spec PyProof.Rows L2 Sn
theorem law_turns_ok (w : List Int) (hw : w.length < 1000000) : (compM (rng2M (ret (.int 1)) (op2M addD (bcM lenD (consM (ret (tI w)) (ret []))) (ret (.int 1)))) fun p_93 => (eltM (valT (bnd (consM (ret (tI w)) (consM (ret p_93) (ret []))) m__law_turn)) (ret p_93))) = (ret (lI (turnsI w)) : M Bx D) := by
  rw [len_ok]
  simp only [r_op2, r_add, r_lift, r_consM, r_bnd]
  exact turns_comp w hw (fun p => m__law_turn [tI w, p]) fun p h1 h2 => law_turn_ok _ hw p (by omega) h2
theorem same_tI (w : List Int) (h : w.length < 16777216) : m__law_same 60 [tI w, tI w] = ret (.bl true) := same60 (pb_tI w h) (by decide)
theorem ix_t0 {w : List Int} (h : 0 < w.length) : ixD (lI (turnsI w)) (.int 0) = some (.int (t0 w)) := by
  obtain ⟨r, e⟩ := t0_at h
  rw [e]; unfold lI; rw [r_ixL, ix0]
theorem sl_t0 {w : List Int} (h : 0 < w.length) : slD (tI w) none (some (t0 w)) = some (tI (w.take (t0 w).toNat)) := by
  have ht := (mem_turns.mp (t0_mem h)).1
  unfold tI
  rw [r_slT, cutL_map, cutL_to (by omega)]
theorem seg1 {τ' l' : Type} (w : List Int) (h : 0 < w.length) (hw : w.length < 1000000) (k : Unit → M Bx (Fl τ' l')) :
    (iteF (orT (notT (valT (bnd (consM (bnd (consM (ret (tI w)) (ret [])) m_turns_of) (consM (bcM tupleD (consM (ret (lI (turnsI w))) (ret []))) (ret []))) (m__law_same 60)))) (notT (valT (bnd (consM (bnd (consM (ret (tI w)) (ret [])) m_shortest_reel) (consM (slM (ret (tI w)) (ret none) (ptM (ixM (ret (lI (turnsI w))) (ret (.int 0))))) (ret []))) (m__law_same 60))))) (retF (ret (.bl false))) (ret (.nx ())) k : M Bx (Fl τ' l')) = k () := by
  have e : tupleD [lI (turnsI w)] = some (tI (turnsI w)) := rfl
  have hl := turnsI_len w
  simp only [r_consM, r_bnd, turns_of_ok w hw, shortest_reel_ok w h hw, r_bcM, e, r_lift, r_ixM, ix_t0 h, r_ptM, r_slM, sl_t0 h, same_tI (turnsI w) (by omega), same_tI (w.take (t0 w).toNat) (by rw [List.length_take]; omega), r_valT, r_tru_bl, r_notT, r_orT, r_iteF]
  rfl
theorem seg2 {τ' l' : Type} (w : List Int) (hw : w.length < 1000000) (k : Unit → M Bx (Fl τ' l')) :
    (forM' (itM (ret (lI (turnsI w)))) (fun (s_59 : Unit) p_60 => (forM' (itM (ret (lI (turnsI w)))) (fun (s_61 : Unit) q_62 => (bnd (bnd (consM (ret p_60) (consM (ret q_62) (ret []))) m__law_divisor) fun common_63 => (iteF (andT (cmpT geD (bcM lenD (consM (ret (tI w)) (ret []))) (op2M subD (op2M addD (ret p_60) (ret q_62)) (ret common_63))) (cmpT ninD (ret common_63) (ret (lI (turnsI w))))) (retF (ret (.bl false))) (ret (.nx ())) fun (s_64 : Unit) => (ret (.nx ()))))) () fun s_65 => (ret (.nx ())))) () k : M Bx (Fl τ' l')) = k () := by
  unfold lI
  rw [r_itL, r_forM, forL_unit fun x hx => ?_]
  obtain ⟨p, hp, rfl⟩ := List.mem_map.mp hx
  rw [r_forM, forL_unit fun y hy => ?_]
  obtain ⟨q, hq, rfl⟩ := List.mem_map.mp hy
  obtain ⟨⟨p1, p2⟩, pt⟩ := mem_turns.mp hp
  obtain ⟨⟨q1, q2⟩, qt⟩ := mem_turns.mp hq
  obtain ⟨a, rfl⟩ := Int.eq_ofNat_of_zero_le (show 0 ≤ p by omega)
  obtain ⟨b, rfl⟩ := Int.eq_ofNat_of_zero_le (show 0 ≤ q by omega)
  have ed := law_divisor_ok a b (by omega) (by omega)
  rw [len_ok]
  have en := ninL_pl (n := 1) (x := .int (Nat.gcd a b : Int)) (ys := (turnsI w).map .int) (.int _) (pl_ints _) (by decide)
  simp only [r_consM, r_bnd, ed, r_op2, r_add, r_sub, r_lift, r_cmpT, r_ge, en, r_asB, r_andT, r_iteF]
  have g0 : 0 < Nat.gcd a b := Nat.gcd_pos_of_pos_left _ (by omega)
  have gp : Nat.gcd a b ≤ a := Nat.le_of_dvd (by omega) (Nat.gcd_dvd_left a b)
  have hc : (decide ((a : Int) + b - (Nat.gcd a b : Int) ≤ (w.length : Int)) && !decide (D.int (Nat.gcd a b : Int) ∈ (turnsI w).map D.int)) = false := by
    by_cases c : (a : Int) + b - (Nat.gcd a b : Int) ≤ (w.length : Int)
    · have := fine_wilf (a + b) w.length a b (fun k => w.getD k 0) (Nat.le_refl _) (by omega) (by omega) (by omega) ((tB_per (by omega)).mp pt) ((tB_per (by omega)).mp qt)
      have hm : (Nat.gcd a b : Int) ∈ turnsI w := mem_turns.mpr ⟨⟨by omega, by omega⟩, (tB_per (by omega)).mpr this⟩
      rw [decide_eq_true (List.mem_map.mpr ⟨_, hm, rfl⟩ : D.int (Nat.gcd a b : Int) ∈ (turnsI w).map D.int)]
      simp
    · rw [decide_eq_false c]; rfl
  rw [hc]
  rfl
theorem tB_nq {w : List Int} {p : Int} (h : 0 ≤ p) (h2 : p ≤ w.length) : ((rI 0 (w.length - p)).filter (nqB w p) = [] ↔ tB w p = true) := by
  obtain ⟨a, rfl⟩ := Int.eq_ofNat_of_zero_le h
  rw [tB_per (by omega), List.filter_eq_nil_iff]
  unfold Per nqB
  constructor
  · intro g k hk
    have := g (k : Int) (mem_rI.mpr ⟨by omega, by omega⟩)
    have e : ((k : Int) + (a : Int)).toNat = k + a := by omega
    simpa [e] using this
  · intro g k hk
    obtain ⟨k1, k2⟩ := mem_rI.mp hk
    obtain ⟨j, rfl⟩ := Int.eq_ofNat_of_zero_le k1
    have := g j (by omega)
    have e : ((j : Int) + (a : Int)).toNat = j + a := by omega
    simpa [e] using this
theorem spots_ok (w : List Int) (hw : w.length < 1000000) (p : Int) (h : 0 ≤ p) (h2 : p ≤ w.length) :
    (compM (rng1M (op2M subD (bcM lenD (consM (ret (tI w)) (ret []))) (ret (.int p)))) fun k_71 => (eltM (cmpT neD (ixM (ret (tI w)) (ret k_71)) (ixM (ret (tI w)) (op2M addD (ret k_71) (ret (.int p))))) (ret k_71))) = (ret (lI ((rI 0 (w.length - p)).filter (nqB w p))) : M Bx D) := by
  rw [len_ok, r_op2, r_sub, r_lift, rng1_ok (by omega) (by omega), comp_ok (by rw [rng_len]; omega), rng_rI, compL_map, compL_if (nqB w p) D.int fun k hk => ?_]
  · rfl
  · rw [nq_at w p k h hk, r_elt]
theorem seg3_cond (w : List Int) (hw : w.length < 1000000) (p : Int) (p1 : 1 ≤ p) (p2 : p ≤ w.length) :
    (orT (notT (valT (bnd (consM (bnd (consM (ret (tI w)) (consM (ret (.int p)) (ret []))) m_fails_at) (consM (ifM (cmpT gtD (bcM lenD (consM (ret (lI ((rI 0 (w.length - p)).filter (nqB w p)))) (ret []))) (ret (.int 0))) (ixM (ret (lI ((rI 0 (w.length - p)).filter (nqB w p)))) (ret (.int 0))) (ret .non)) (ret []))) (m__law_same 60)))) (cmpT neD (op2M eqD (bcM lenD (consM (ret (lI ((rI 0 (w.length - p)).filter (nqB w p)))) (ret []))) (ret (.int 0))) (op2M inD (ret (.int p)) (ret (lI (turnsI w)))))) = (ret false : M Bx Bool) := by
  have e1 : failI w p = ((rI 0 (w.length - p)).filter (nqB w p)).head? := by unfold failI; rw [List.head?_filter]
  have e2 := tB_nq (w := w) (p := p) (by omega) p2
  have e3 := inL_pl (n := 1) (x := .int p) (ys := (turnsI w).map .int) (.int _) (pl_ints _) (by decide)
  have e4 : (D.int p ∈ (turnsI w).map D.int) ↔ tB w p = true := by
    constructor
    · intro h
      obtain ⟨q, hq, e⟩ := List.mem_map.mp h
      cases e
      exact (mem_turns.mp hq).2
    · intro h
      exact List.mem_map.mpr ⟨p, mem_turns.mpr ⟨⟨p1, p2⟩, h⟩, rfl⟩
  have ef := fails_at_ok w hw p (by omega) p2
  rw [e1] at ef
  have elen : ∀ l : List Int, lenD [lI l] = some (.int l.length) := fun l => by simp [lI, lenD]
  have ein : inD (.int p) (lI (turnsI w)) = some (.bl (decide (tB w p = true))) := by
    unfold lI; rw [e3]
    congr 2
    rw [Bool.eq_iff_iff, decide_eq_true_eq, decide_eq_true_eq, e4]
  revert e2 ef
  generalize (rI 0 (w.length - p)).filter (nqB w p) = sp
  intro e2 ef
  cases sp with
  | nil =>
    have ht : tB w p = true := e2.mp rfl
    have es : m__law_same 60 [.non, .non] = ret (.bl true) := same60 (n := 0) .non (by decide)
    simp only [List.head?_nil, oD] at ef
    simp only [elen, r_consM, r_bcM, r_bnd, ef, r_cmpT, r_gt, r_lift, r_asB, r_ifM, List.length_nil, r_op2, r_eq, ein, ht, r_neb]
    simp [es]
  | cons x sp =>
    have ht : tB w p = false := by
      cases h : tB w p with
      | false => rfl
      | true => cases e2.mpr h
    have es : m__law_same 60 [.int x, .int x] = ret (.bl true) := same60 (n := 0) (.int x) (by decide)
    simp only [List.head?_cons, oD] at ef
    have ei : ixD (lI (x :: sp)) (.int 0) = some (.int x) := by unfold lI; rw [r_ixL, ix0]
    have hgt : decide ((0 : Int) < ((x :: sp).length : Int)) = true := decide_eq_true (by rw [List.length_cons]; omega)
    have hz : decide ((((x :: sp).length : Nat) : Int) = 0) = false := decide_eq_false (by rw [List.length_cons]; omega)
    simp only [elen, r_consM, r_bcM, r_bnd, ef, r_cmpT, r_gt, r_lift, r_asB, r_ifM, r_op2, r_eq, ein, ht, r_neb, hgt, hz, r_ixM, ei, if_true, es]
    simp
theorem seg3 {τ' l' : Type} (w : List Int) (hw : w.length < 1000000) (k : Unit → M Bx (Fl τ' l')) :
    (forM' (rng2M (ret (.int 1)) (op2M addD (bcM lenD (consM (ret (tI w)) (ret []))) (ret (.int 1)))) (fun (s_67 : Unit) p_68 => (bnd (compM (rng1M (op2M subD (bcM lenD (consM (ret (tI w)) (ret []))) (ret p_68))) fun k_71 => (eltM (cmpT neD (ixM (ret (tI w)) (ret k_71)) (ixM (ret (tI w)) (op2M addD (ret k_71) (ret p_68)))) (ret k_71))) fun spots_69 => (iteF (orT (notT (valT (bnd (consM (bnd (consM (ret (tI w)) (consM (ret p_68) (ret []))) m_fails_at) (consM (ifM (cmpT gtD (bcM lenD (consM (ret spots_69) (ret []))) (ret (.int 0))) (ixM (ret spots_69) (ret (.int 0))) (ret .non)) (ret []))) (m__law_same 60)))) (cmpT neD (op2M eqD (bcM lenD (consM (ret spots_69) (ret []))) (ret (.int 0))) (op2M inD (ret p_68) (ret (lI (turnsI w)))))) (retF (ret (.bl false))) (ret (.nx ())) fun (s_70 : Unit) => (ret (.nx ()))))) () k : M Bx (Fl τ' l')) = k () := by
  rw [len_ok, r_op2, r_add, r_lift, rng2_ok (by omega) (by omega) (by omega) (by omega), r_forM, rng_rI, forL_unit fun x hx => ?_]
  obtain ⟨p, hp, rfl⟩ := List.mem_map.mp hx
  obtain ⟨p1, p2⟩ := mem_rI.mp hp
  have es := spots_ok w hw p (by omega) (by omega)
  rw [len_ok] at es
  rw [es, r_bnd, seg3_cond w hw p p1 (by omega), r_iteF]
  rfl
theorem seg5 {τ' l' : Type} (w : List Int) (h : 0 < w.length) (h5 : w.length ≤ 5) (hw : ∀ x ∈ w, x = 1 ∨ x = 2 ∨ x = 3) (k : Unit → M Bx (Fl τ' l')) :
    (iteF (orT (cmpT neD (bcM lenD (consM (bnd (consM (ret (tI w)) (ret [])) m_shortest_reel) (ret []))) (bcM lenD (consM (ixM (ret (.lst ((fitI w).map tI))) (ret (.int 0))) (ret [])))) (cmpT ninD (bnd (consM (ret (tI w)) (ret [])) m_shortest_reel) (ret (.lst ((fitI w).map tI))))) (retF (ret (.bl false))) (ret (.nx ())) k : M Bx (Fl τ' l')) = k () := by
  obtain ⟨⟨x, rest, e, hx⟩, hm⟩ := fit_head h h5 hw
  have ht := (mem_turns.mp (t0_mem h)).1
  have en := ninL_pl (n := 1) (x := tI (w.take (t0 w).toNat)) (ys := (fitI w).map tI) (pl_tI _) (fun y hy => by
    obtain ⟨r, _, rfl⟩ := List.mem_map.mp hy
    exact pl_tI r) (by decide)
  rw [decide_eq_true (List.mem_map.mpr ⟨_, hm, rfl⟩ : tI (w.take (t0 w).toNat) ∈ (fitI w).map tI)] at en
  have ei : ixD (.lst ((fitI w).map tI)) (.int 0) = some (tI x) := by
    rw [e, r_ixL, List.map_cons, atI_ok (by decide) (by rw [List.length_cons]; omega)]
    rfl
  have hl : ((w.take (t0 w).toNat).length : Int) = (x.length : Int) := by rw [List.length_take, hx]; omega
  simp only [r_consM, r_bnd, shortest_reel_ok w h (by omega), r_ixM, ei, r_lift, r_bcM, len_tI, r_cmpT, r_ne, hl, decide_true, en, r_asB, r_orT, r_iteF]
  rfl
end Lw

namespace Lw
open PySem PySem.Spec PyProof.Rows L2 Sn
/-- a place of the word, turned round -/
theorem round_ok (w : List Int) (h : 0 < w.length) (hw : w.length < 1000000) (j : Int) (j1 : 0 ≤ j) :
    (ixM (ret (tI w)) (op2M subD (ret (.int j)) (op2M mulD (op2M divD (ret (.int j)) (bcM lenD (consM (ret (tI w)) (ret [])))) (bcM lenD (consM (ret (tI w)) (ret []))))) : M Bx D) = ret (.int (w.getD (j % (w.length : Int)).toNat 0)) := by
  have m1 := Int.emod_nonneg j (show (w.length : Int) ≠ 0 by omega)
  have m2 := Int.emod_lt_of_pos j (show (0 : Int) < w.length by omega)
  rw [len_ok]
  simp only [r_op2, div_ok (by omega : (0 : Int) < w.length) (by omega), r_lift, mul_ok (i := j / w.length) (j := (w.length : Int)) (.inr ⟨by omega, by omega⟩), r_sub, modv, r_ixM, ix_tI m1 m2]
  rw [getD_at (by omega)]
def packI (w : List Int) (k : Int) : List Int := [w.getD (k % (w.length : Int)).toNat 0, 7, w.getD (2 * k % (w.length : Int)).toNat 0]
theorem pack_ok (w : List Int) (h : 0 < w.length) (hw : w.length < 1000000) (k : Int) (k1 : 0 ≤ k) (k2 : k < 1000000) :
    (bcM tupleD (consM (lstM (consM (ixM (ret (tI w)) (op2M subD (ret (.int k)) (op2M mulD (op2M divD (ret (.int k)) (bcM lenD (consM (ret (tI w)) (ret [])))) (bcM lenD (consM (ret (tI w)) (ret [])))))) (consM (ret (.int 7)) (consM (ixM (ret (tI w)) (op2M subD (op2M mulD (ret (.int 2)) (ret (.int k))) (op2M mulD (op2M divD (op2M mulD (ret (.int 2)) (ret (.int k))) (bcM lenD (consM (ret (tI w)) (ret [])))) (bcM lenD (consM (ret (tI w)) (ret [])))))) (ret []))))) (ret [])) : M Bx D) = ret (tI (packI w k)) := by
  have e2 : (op2M mulD (ret (.int 2)) (ret (.int k)) : M Bx D) = ret (.int (2 * k)) := by
    rw [r_op2, mul_ok (.inr ⟨by omega, by omega⟩), r_lift]
  rw [e2, round_ok w h hw k k1, round_ok w h hw (2 * k) (by omega)]
  simp [lstM, tI, packI]
theorem seen_ok (w : List Int) (h : 0 < w.length) (hw : w.length < 1000000) (n : Int) (n1 : 0 ≤ n) (n2 : n < 1000000) :
    (compM (ret (rng 0 n)) fun k_92 => (eltM (ret true) (bcM tupleD (consM (lstM (consM (ixM (ret (tI w)) (op2M subD (ret k_92) (op2M mulD (op2M divD (ret k_92) (bcM lenD (consM (ret (tI w)) (ret [])))) (bcM lenD (consM (ret (tI w)) (ret [])))))) (consM (ret (.int 7)) (consM (ixM (ret (tI w)) (op2M subD (op2M mulD (ret (.int 2)) (ret k_92)) (op2M mulD (op2M divD (op2M mulD (ret (.int 2)) (ret k_92)) (bcM lenD (consM (ret (tI w)) (ret [])))) (bcM lenD (consM (ret (tI w)) (ret [])))))) (ret []))))) (ret [])))) : M Bx D) = ret (.lst (((rI 0 n).map (packI w)).map tI)) := by
  rw [comp_ok (by rw [rng_len]; omega), rng_rI, compL_map, compL_all (fun k : Int => tI (packI w k)) fun k hk => ?_]
  · rw [r_bnd, List.map_map]; rfl
  · obtain ⟨k1, k2⟩ := mem_rI.mp hk
    rw [pack_ok w h hw k k1 (by omega), r_eltT, r_bnd]
theorem pb_cols (ps : List (List Int)) (h : ps.length < 1000000) : Pb 2 (.tup ((rI 0 3).map (colR ps))) := by
  refine .tup (fun x hx => ?_) (by rw [List.length_map, rI_len]; decide)
  obtain ⟨j, _, rfl⟩ := List.mem_map.mp hx
  exact pb_tI _ (by rw [List.length_take]; unfold col; rw [List.length_map]; omega)
theorem seg6 (w : List Int) (h : 0 < w.length) (hw : w.length < 1000000) :
    Wp ((bnd (bcM tupleD (consM (compM (rng1M (op2M addD (ret (.int 1)) (bnd (consM (ret .box) (consM (ret (.int 9)) (ret []))) m_draw))) fun k_92 => (eltM (ret true) (bcM tupleD (consM (lstM (consM (ixM (ret (tI w)) (op2M subD (ret k_92) (op2M mulD (op2M divD (ret k_92) (bcM lenD (consM (ret (tI w)) (ret [])))) (bcM lenD (consM (ret (tI w)) (ret [])))))) (consM (ret (.int 7)) (consM (ixM (ret (tI w)) (op2M subD (op2M mulD (ret (.int 2)) (ret k_92)) (op2M mulD (op2M divD (op2M mulD (ret (.int 2)) (ret k_92)) (bcM lenD (consM (ret (tI w)) (ret [])))) (bcM lenD (consM (ret (tI w)) (ret [])))))) (ret []))))) (ret []))))) (ret []))) fun seen_82 => (ownM (lstM (ret [])) fun due_83 => (forM' (rng1M (ret (.int 3))) (fun (s_84 : D) j_85 => (bnd (bcM tupleD (consM (compM (itM (ret seen_82)) fun packet_89 => (eltM (ret true) (ixM (ret packet_89) (ret j_85)))) (ret []))) fun column_86 => (appM s_84 (slM (ret column_86) (ret none) (ptM (ixM (compM (rng2M (ret (.int 1)) (op2M addD (bcM lenD (consM (ret column_86) (ret []))) (ret (.int 1)))) fun p_88 => (eltM (valT (bnd (consM (ret column_86) (consM (ret p_88) (ret []))) m__law_turn)) (ret p_88))) (ret (.int 0))))) fun due_87 => (ret (.nx due_87))))) due_83 fun s_90 => (iteF (notT (valT (bnd (consM (bnd (consM (ret seen_82) (ret [])) m_shortest_machine) (consM (bcM tupleD (consM (ret s_90) (ret []))) (ret []))) (m__law_same 60)))) (retF (ret (.bl false))) (ret (.nx ())) fun (s_91 : Unit) => (ret (.nx ())))))) : M Bx (Fl Unit Unit)) fun fl => fl = .nx () := by
  refine Wp.bnd (Wp.bc (Wp.cons (Wp.bnd (Wp.rng1 (Wp.op2 (Wp.ret (Wp.drawc (by decide) (by decide) fun n n1 n2 => ⟨_, r_add _ _, _, rfl, ⟨by omega, by omega⟩, ?_⟩)))))))
  have e := seen_ok w h hw (1 + n) (by omega) (by omega)
  unfold compM at e
  rw [r_bnd] at e
  refine Wp.eq e (Wp.ret (Wp.ret ⟨.tup (((rI 0 (1 + n)).map (packI w)).map tI), rfl, ?_⟩))
  have hl : ((rI 0 (1 + n)).map (packI w)).length = (1 + n).toNat := by rw [List.length_map, rI_len]; congr 1; omega
  have hp : ∀ p ∈ (rI 0 (1 + n)).map (packI w), p.length = 3 := fun p hp => by
    obtain ⟨k, _, rfl⟩ := List.mem_map.mp hp
    rfl
  revert hl hp
  generalize (rI 0 (1 + n)).map (packI w) = ps
  intro hl hp
  have e0 : (lstM (ret []) : M Bx D) = ret (.lst []) := by simp [lstM, lstD_le]
  have es : m__law_same 60 [.tup ((rI 0 3).map (colR ps)), .tup ((rI 0 3).map (colR ps))] = ret (.bl true) := same60 (pb_cols ps (by omega)) (by decide)
  refine Wp.eq ?_ (Wp.ret (a := Fl.nx ()) rfl)
  rw [e0, r_own, rng1_ok (by decide) (by decide), r_forM, rng_rI, due_loop ps (by omega) (by omega) hp _ (rI 0 3) [] (fun j hj => mem_rI.mp hj) (by rw [rI_len]; decide), List.nil_append]
  simp only [r_consM, r_bnd, shortest_machine_ok ps (by omega) (by omega) hp, r_bcM, r_tupL, r_lift, es, r_valT, r_tru_bl, r_notT, r_iteF]
  rfl
theorem slice5 (w : List Int) : (slM (ret (tI w)) (ret none) (ptM (ret (.int 5))) : M Bx D) = ret (tI (w.take 5)) := by
  rw [r_ptM, r_slM]
  unfold tI
  rw [r_slT, cutL_map, cutL_to (by decide)]
  rfl
theorem fin_ok : (bnd (consM (tupM (consM (bnd (consM (tupM (consM (ret (.int 1)) (consM (ret (.int 2)) (consM (ret (.int 1)) (consM (ret (.int 2)) (consM (ret (.int 1)) (ret []))))))) (ret [])) m_turns_of) (consM (bnd (consM (tupM (consM (ret (.int 1)) (consM (ret (.int 2)) (consM (ret (.int 1)) (ret []))))) (ret [])) m_shortest_reel) (consM (bnd (consM (tupM (consM (ret (.int 1)) (consM (ret (.int 2)) (consM (ret (.int 1)) (consM (ret (.int 3)) (ret [])))))) (consM (ret (.int 2)) (ret []))) m_fails_at) (ret []))))) (consM (tupM (consM (tupM (consM (ret (.int 2)) (consM (ret (.int 4)) (consM (ret (.int 5)) (ret []))))) (consM (tupM (consM (ret (.int 1)) (consM (ret (.int 2)) (ret [])))) (consM (ret (.int 1)) (ret []))))) (ret []))) (m__law_same 60) : M Bx D) = ret (.bl true) := by
  have a1 := turns_of_ok [1, 2, 1, 2, 1] (by decide)
  have a2 := shortest_reel_ok [1, 2, 1] (by decide) (by decide)
  have a3 := fails_at_ok [1, 2, 1, 3] (by decide) 2 (by decide) (by decide)
  rw [show turnsI [1, 2, 1, 2, 1] = [2, 4, 5] by decide] at a1
  rw [show (List.take (t0 [1, 2, 1]).toNat [1, 2, 1] : List Int) = [1, 2] by decide] at a2
  rw [show failI [1, 2, 1, 3] 2 = some 1 by decide] at a3
  have es : m__law_same 60 [.tup [tI [2, 4, 5], tI [1, 2], .int 1], .tup [tI [2, 4, 5], tI [1, 2], .int 1]] = ret (.bl true) := same60 (n := 2) (.tup (fun x hx => by
    simp only [List.mem_cons, List.not_mem_nil, or_false] at hx
    rcases hx with rfl | rfl | rfl
    · exact pb_tI _ (by decide)
    · exact pb_tI _ (by decide)
    · exact .int 1) (by decide)) (by decide)
  simp only [tI, List.map_cons, List.map_nil, oD] at a1 a2 a3 es
  simp only [tupM, r_consM, r_bnd, r_tup2, r_tup3, r_tup4, r_tup5, r_lift, a1, a2, a3, es]
theorem law_wp : Wp (bnd b_law endF) fun d => d = .bl true := by
  unfold b_law
  rw [rng1_ok (by decide) (by decide), r_forM]
  refine Wp.bnd (Wp.forU (fun x _ => ?_) ?_)
  · refine Wp.bnd (Wp.mono law_word_ok fun d ⟨w, e, w1, w2, w3⟩ => ?_)
    subst e
    rw [law_turns_ok w (by omega), r_bnd]
    refine Wp.eq (seg1 w (by omega) (by omega) _) ?_
    refine Wp.eq (seg2 w (by omega) _) ?_
    refine Wp.eq (seg3 w (by omega) _) ?_
    have e0 : (lstM (ret []) : M Bx D) = ret (.lst ([].map tI)) := by simp [lstM, lstD_le]
    have hl : (w.take 5).length ≤ 5 := by rw [List.length_take]; omega
    have hl1 : 0 < (w.take 5).length := by rw [List.length_take]; omega
    rw [slice5, r_bnd, e0]
    have eo : ∀ (xs : List (List Int)) (k : D → M Bx (Fl Unit Unit)), ownM (ret (.lst (xs.map tI))) k = k (.lst (xs.map tI)) := fun xs k => r_own _ k
    rw [eo, rng2_ok (by decide) (by decide) (by decide) (by decide), r_forM, rng_rI]
    refine Wp.eq (fit_loop (w.take 5) (by omega) _ (rI 1 6) [] (fun n hn => ⟨(mem_rI.mp hn).1, by have := (mem_rI.mp hn).2; omega⟩) (by rw [rI_len]; decide)) ?_
    refine Wp.eq (seg5 (w.take 5) hl1 hl (fun x hx => w3 x (List.mem_of_mem_take hx)) _) ?_
    exact seg6 w (by omega) (by omega)
  · rw [fin_ok]
    exact Wp.retF (Wp.ret (Wp.ret rfl))
theorem law_true (b : Bx) : ∃ b', bnd b_law endF b = some (.bl true, b') := by
  obtain ⟨d, b', e, h⟩ := law_wp b
  subst h
  exact ⟨b', e⟩
end Lw

namespace Lw
open PySem PySem.Spec PyProof.Rows L2 Sn
theorem all_mk (hm : ∀ b : Bx, ∃ b', bnd b_law endF b = some (.bl true, b')) {l : PySem.W.OpenLaw} {w : World} {K : PySem.W.Frag} {h : Heap} {mg : Str → Option Value} {fa : Addr} (X : K.In h) (G : h.Ns mainGlobals mg) (hfa : mg "law" = some (.ref fa))
    {f_is_turn_of : Addr} {od_is_turn_of an_is_turn_of : Option Addr} {sl_is_turn_of : Array (Option Value)} {oc_is_turn_of kV_is_turn_of dc_is_turn_of pm_is_turn_of cd_is_turn_of ct_is_turn_of : Value}
    {f_turns_of : Addr} {od_turns_of an_turns_of : Option Addr} {sl_turns_of : Array (Option Value)} {oc_turns_of kV_turns_of dc_turns_of pm_turns_of cd_turns_of ct_turns_of : Value}
    {f_shortest_reel : Addr} {od_shortest_reel an_shortest_reel : Option Addr} {sl_shortest_reel : Array (Option Value)} {oc_shortest_reel kV_shortest_reel dc_shortest_reel pm_shortest_reel cd_shortest_reel ct_shortest_reel : Value}
    {f_fails_at : Addr} {od_fails_at an_fails_at : Option Addr} {sl_fails_at : Array (Option Value)} {oc_fails_at kV_fails_at dc_fails_at pm_fails_at cd_fails_at ct_fails_at : Value}
    {f_shortest_machine : Addr} {od_shortest_machine an_shortest_machine : Option Addr} {sl_shortest_machine : Array (Option Value)} {oc_shortest_machine kV_shortest_machine dc_shortest_machine pm_shortest_machine cd_shortest_machine ct_shortest_machine : Value}
    {f__law_flat : Addr} {od__law_flat an__law_flat : Option Addr} {sl__law_flat : Array (Option Value)} {oc__law_flat kV__law_flat dc__law_flat pm__law_flat cd__law_flat ct__law_flat : Value}
    {f__law_box : Addr} {od__law_box an__law_box : Option Addr} {sl__law_box : Array (Option Value)} {oc__law_box kV__law_box dc__law_box pm__law_box cd__law_box ct__law_box : Value}
    {f__law_load : Addr} {od__law_load an__law_load : Option Addr} {sl__law_load : Array (Option Value)} {oc__law_load kV__law_load dc__law_load pm__law_load cd__law_load ct__law_load : Value}
    {f__law_draw : Addr} {od__law_draw an__law_draw : Option Addr} {sl__law_draw : Array (Option Value)} {oc__law_draw kV__law_draw dc__law_draw pm__law_draw cd__law_draw ct__law_draw : Value}
    {f__law_same : Addr} {od__law_same an__law_same : Option Addr} {sl__law_same : Array (Option Value)} {oc__law_same kV__law_same dc__law_same pm__law_same cd__law_same ct__law_same : Value}
    {f__law_turn : Addr} {od__law_turn an__law_turn : Option Addr} {sl__law_turn : Array (Option Value)} {oc__law_turn kV__law_turn dc__law_turn pm__law_turn cd__law_turn ct__law_turn : Value}
    {f__law_divisor : Addr} {od__law_divisor an__law_divisor : Option Addr} {sl__law_divisor : Array (Option Value)} {oc__law_divisor kV__law_divisor dc__law_divisor pm__law_divisor cd__law_divisor ct__law_divisor : Value}
    {f__law_word : Addr} {od__law_word an__law_word : Option Addr} {sl__law_word : Array (Option Value)} {oc__law_word kV__law_word dc__law_word pm__law_word cd__law_word ct__law_word : Value}
    {f__law_reels : Addr} {od__law_reels an__law_reels : Option Addr} {sl__law_reels : Array (Option Value)} {oc__law_reels kV__law_reels dc__law_reels pm__law_reels cd__law_reels ct__law_reels : Value}
    {f_law : Addr} {od_law an_law : Option Addr} {sl_law : Array (Option Value)} {oc_law kV_law dc_law pm_law cd_law ct_law : Value}
    (a_is_turn_of : PySem.W.nsIn K mainGlobals "is_turn_of" = some (some (.ref f_is_turn_of))) (l_is_turn_of : K.lookup f_is_turn_of = some ⟨oc_is_turn_of, od_is_turn_of, .func (PySem.W.fnOf "is_turn_of" "is_turn_of" (defArgs s_is_turn_of) (defBody s_is_turn_of) (defScope s_is_turn_of) .none kV_is_turn_of dc_is_turn_of pm_is_turn_of an_is_turn_of cd_is_turn_of ct_is_turn_of), sl_is_turn_of⟩) (c_is_turn_of : PySem.W.codeIn K cd_is_turn_of "is_turn_of" = true) (k_is_turn_of : PySem.W.keepIn K (.ref f_is_turn_of) = true)
    (a_turns_of : PySem.W.nsIn K mainGlobals "turns_of" = some (some (.ref f_turns_of))) (l_turns_of : K.lookup f_turns_of = some ⟨oc_turns_of, od_turns_of, .func (PySem.W.fnOf "turns_of" "turns_of" (defArgs s_turns_of) (defBody s_turns_of) (defScope s_turns_of) .none kV_turns_of dc_turns_of pm_turns_of an_turns_of cd_turns_of ct_turns_of), sl_turns_of⟩) (c_turns_of : PySem.W.codeIn K cd_turns_of "turns_of" = true) (k_turns_of : PySem.W.keepIn K (.ref f_turns_of) = true)
    (a_shortest_reel : PySem.W.nsIn K mainGlobals "shortest_reel" = some (some (.ref f_shortest_reel))) (l_shortest_reel : K.lookup f_shortest_reel = some ⟨oc_shortest_reel, od_shortest_reel, .func (PySem.W.fnOf "shortest_reel" "shortest_reel" (defArgs s_shortest_reel) (defBody s_shortest_reel) (defScope s_shortest_reel) .none kV_shortest_reel dc_shortest_reel pm_shortest_reel an_shortest_reel cd_shortest_reel ct_shortest_reel), sl_shortest_reel⟩) (c_shortest_reel : PySem.W.codeIn K cd_shortest_reel "shortest_reel" = true) (k_shortest_reel : PySem.W.keepIn K (.ref f_shortest_reel) = true)
    (a_fails_at : PySem.W.nsIn K mainGlobals "fails_at" = some (some (.ref f_fails_at))) (l_fails_at : K.lookup f_fails_at = some ⟨oc_fails_at, od_fails_at, .func (PySem.W.fnOf "fails_at" "fails_at" (defArgs s_fails_at) (defBody s_fails_at) (defScope s_fails_at) .none kV_fails_at dc_fails_at pm_fails_at an_fails_at cd_fails_at ct_fails_at), sl_fails_at⟩) (c_fails_at : PySem.W.codeIn K cd_fails_at "fails_at" = true) (k_fails_at : PySem.W.keepIn K (.ref f_fails_at) = true)
    (a_shortest_machine : PySem.W.nsIn K mainGlobals "shortest_machine" = some (some (.ref f_shortest_machine))) (l_shortest_machine : K.lookup f_shortest_machine = some ⟨oc_shortest_machine, od_shortest_machine, .func (PySem.W.fnOf "shortest_machine" "shortest_machine" (defArgs s_shortest_machine) (defBody s_shortest_machine) (defScope s_shortest_machine) .none kV_shortest_machine dc_shortest_machine pm_shortest_machine an_shortest_machine cd_shortest_machine ct_shortest_machine), sl_shortest_machine⟩) (c_shortest_machine : PySem.W.codeIn K cd_shortest_machine "shortest_machine" = true) (k_shortest_machine : PySem.W.keepIn K (.ref f_shortest_machine) = true)
    (a__law_flat : PySem.W.nsIn K mainGlobals "_law_flat" = some (some (.ref f__law_flat))) (l__law_flat : K.lookup f__law_flat = some ⟨oc__law_flat, od__law_flat, .func (PySem.W.fnOf "_law_flat" "_law_flat" (defArgs s__law_flat) (defBody s__law_flat) (defScope s__law_flat) .none kV__law_flat dc__law_flat pm__law_flat an__law_flat cd__law_flat ct__law_flat), sl__law_flat⟩) (c__law_flat : PySem.W.codeIn K cd__law_flat "_law_flat" = true) (k__law_flat : PySem.W.keepIn K (.ref f__law_flat) = true)
    (a__law_box : PySem.W.nsIn K mainGlobals "_law_box" = some (some (.ref f__law_box))) (l__law_box : K.lookup f__law_box = some ⟨oc__law_box, od__law_box, .func (PySem.W.fnOf "_law_box" "_law_box" (defArgs s__law_box) (defBody s__law_box) (defScope s__law_box) .none kV__law_box dc__law_box pm__law_box an__law_box cd__law_box ct__law_box), sl__law_box⟩) (c__law_box : PySem.W.codeIn K cd__law_box "_law_box" = true) (k__law_box : PySem.W.keepIn K (.ref f__law_box) = true)
    (a__law_load : PySem.W.nsIn K mainGlobals "_law_load" = some (some (.ref f__law_load))) (l__law_load : K.lookup f__law_load = some ⟨oc__law_load, od__law_load, .func (PySem.W.fnOf "_law_load" "_law_load" (defArgs s__law_load) (defBody s__law_load) (defScope s__law_load) .none kV__law_load dc__law_load pm__law_load an__law_load cd__law_load ct__law_load), sl__law_load⟩) (c__law_load : PySem.W.codeIn K cd__law_load "_law_load" = true) (k__law_load : PySem.W.keepIn K (.ref f__law_load) = true)
    (a__law_draw : PySem.W.nsIn K mainGlobals "_law_draw" = some (some (.ref f__law_draw))) (l__law_draw : K.lookup f__law_draw = some ⟨oc__law_draw, od__law_draw, .func (PySem.W.fnOf "_law_draw" "_law_draw" (defArgs s__law_draw) (defBody s__law_draw) (defScope s__law_draw) .none kV__law_draw dc__law_draw pm__law_draw an__law_draw cd__law_draw ct__law_draw), sl__law_draw⟩) (c__law_draw : PySem.W.codeIn K cd__law_draw "_law_draw" = true) (k__law_draw : PySem.W.keepIn K (.ref f__law_draw) = true)
    (a__law_same : PySem.W.nsIn K mainGlobals "_law_same" = some (some (.ref f__law_same))) (l__law_same : K.lookup f__law_same = some ⟨oc__law_same, od__law_same, .func (PySem.W.fnOf "_law_same" "_law_same" (defArgs s__law_same) (defBody s__law_same) (defScope s__law_same) .none kV__law_same dc__law_same pm__law_same an__law_same cd__law_same ct__law_same), sl__law_same⟩) (c__law_same : PySem.W.codeIn K cd__law_same "_law_same" = true) (k__law_same : PySem.W.keepIn K (.ref f__law_same) = true)
    (a__law_turn : PySem.W.nsIn K mainGlobals "_law_turn" = some (some (.ref f__law_turn))) (l__law_turn : K.lookup f__law_turn = some ⟨oc__law_turn, od__law_turn, .func (PySem.W.fnOf "_law_turn" "_law_turn" (defArgs s__law_turn) (defBody s__law_turn) (defScope s__law_turn) .none kV__law_turn dc__law_turn pm__law_turn an__law_turn cd__law_turn ct__law_turn), sl__law_turn⟩) (c__law_turn : PySem.W.codeIn K cd__law_turn "_law_turn" = true) (k__law_turn : PySem.W.keepIn K (.ref f__law_turn) = true)
    (a__law_divisor : PySem.W.nsIn K mainGlobals "_law_divisor" = some (some (.ref f__law_divisor))) (l__law_divisor : K.lookup f__law_divisor = some ⟨oc__law_divisor, od__law_divisor, .func (PySem.W.fnOf "_law_divisor" "_law_divisor" (defArgs s__law_divisor) (defBody s__law_divisor) (defScope s__law_divisor) .none kV__law_divisor dc__law_divisor pm__law_divisor an__law_divisor cd__law_divisor ct__law_divisor), sl__law_divisor⟩) (c__law_divisor : PySem.W.codeIn K cd__law_divisor "_law_divisor" = true) (k__law_divisor : PySem.W.keepIn K (.ref f__law_divisor) = true)
    (a__law_word : PySem.W.nsIn K mainGlobals "_law_word" = some (some (.ref f__law_word))) (l__law_word : K.lookup f__law_word = some ⟨oc__law_word, od__law_word, .func (PySem.W.fnOf "_law_word" "_law_word" (defArgs s__law_word) (defBody s__law_word) (defScope s__law_word) .none kV__law_word dc__law_word pm__law_word an__law_word cd__law_word ct__law_word), sl__law_word⟩) (c__law_word : PySem.W.codeIn K cd__law_word "_law_word" = true) (k__law_word : PySem.W.keepIn K (.ref f__law_word) = true)
    (a__law_reels : PySem.W.nsIn K mainGlobals "_law_reels" = some (some (.ref f__law_reels))) (l__law_reels : K.lookup f__law_reels = some ⟨oc__law_reels, od__law_reels, .func (PySem.W.fnOf "_law_reels" "_law_reels" (defArgs s__law_reels) (defBody s__law_reels) (defScope s__law_reels) .none kV__law_reels dc__law_reels pm__law_reels an__law_reels cd__law_reels ct__law_reels), sl__law_reels⟩) (c__law_reels : PySem.W.codeIn K cd__law_reels "_law_reels" = true) (k__law_reels : PySem.W.keepIn K (.ref f__law_reels) = true)
    (a_law : PySem.W.nsIn K mainGlobals "law" = some (some (.ref f_law))) (l_law : K.lookup f_law = some ⟨oc_law, od_law, .func (PySem.W.fnOf "law" "law" (defArgs s_law) (defBody s_law) (defScope s_law) .none kV_law dc_law pm_law an_law cd_law ct_law), sl_law⟩) (c_law : PySem.W.codeIn K cd_law "law" = true) (k_law : PySem.W.keepIn K (.ref f_law) = true)
    (z_all : PySem.W.nsIn K mainGlobals "all" = some none)
    (z_bool : PySem.W.nsIn K mainGlobals "bool" = some none)
    (z_int : PySem.W.nsIn K mainGlobals "int" = some none)
    (z_isinstance : PySem.W.nsIn K mainGlobals "isinstance" = some none)
    (z_len : PySem.W.nsIn K mainGlobals "len" = some none)
    (z_list : PySem.W.nsIn K mainGlobals "list" = some none)
    (z_range : PySem.W.nsIn K mainGlobals "range" = some none)
    (z_str : PySem.W.nsIn K mainGlobals "str" = some none)
    (z_tuple : PySem.W.nsIn K mainGlobals "tuple" = some none) :
    ∃ fd : FuncData, (∀ (s : Shared) (v : Value), BindsTo s fd ⟨[v], []⟩ [("script", v)]) ∧ ∀ base : Heap, K.In base → base.Ns mainGlobals mg → FnOk l.prog w K mg base CX0 62 fa fd ["script"] (spLaw K) := by
  have e := hfa.symm.trans (PySem.W.mg_of X G a_law)
  cases e
  have F_is_turn_of := fun_mk (st := s_is_turn_of) l_is_turn_of c_is_turn_of k_is_turn_of
  have F_turns_of := fun_mk (st := s_turns_of) l_turns_of c_turns_of k_turns_of
  have F_shortest_reel := fun_mk (st := s_shortest_reel) l_shortest_reel c_shortest_reel k_shortest_reel
  have F_fails_at := fun_mk (st := s_fails_at) l_fails_at c_fails_at k_fails_at
  have F_shortest_machine := fun_mk (st := s_shortest_machine) l_shortest_machine c_shortest_machine k_shortest_machine
  have F__law_flat := fun_mk (st := s__law_flat) l__law_flat c__law_flat k__law_flat
  have F__law_box := fun_mk (st := s__law_box) l__law_box c__law_box k__law_box
  have F__law_load := fun_mk (st := s__law_load) l__law_load c__law_load k__law_load
  have F__law_draw := fun_mk (st := s__law_draw) l__law_draw c__law_draw k__law_draw
  have F__law_same := fun_mk (st := s__law_same) l__law_same c__law_same k__law_same
  have F__law_turn := fun_mk (st := s__law_turn) l__law_turn c__law_turn k__law_turn
  have F__law_divisor := fun_mk (st := s__law_divisor) l__law_divisor c__law_divisor k__law_divisor
  have F__law_word := fun_mk (st := s__law_word) l__law_word c__law_word k__law_word
  have F__law_reels := fun_mk (st := s__law_reels) l__law_reels c__law_reels k__law_reels
  have F_law := fun_mk (st := s_law) l_law c_law k_law
  have z_all := PySem.W.mg_none_of X G z_all
  have z_bool := PySem.W.mg_none_of X G z_bool
  have z_int := PySem.W.mg_none_of X G z_int
  have z_isinstance := PySem.W.mg_none_of X G z_isinstance
  have z_len := PySem.W.mg_none_of X G z_len
  have z_list := PySem.W.mg_none_of X G z_list
  have z_range := PySem.W.mg_none_of X G z_range
  have z_str := PySem.W.mg_none_of X G z_str
  have z_tuple := PySem.W.mg_none_of X G z_tuple
  refine ⟨PySem.W.fnOf "law" "law" (defArgs s_law) (defBody s_law) (defScope s_law) .none kV_law dc_law pm_law an_law cd_law ct_law, fun s v => .of_eq rfl, fun base _ _ => ?_⟩
  have b_load := F__law_load.binds (ps := ["box"]) fun _ _ _ _ _ _ us hl => match us, hl with | [_], _ => rfl
  have b_box := F__law_box.binds (ps := ["script"]) fun _ _ _ _ _ _ us hl => match us, hl with | [_], _ => rfl
  have b_draw := F__law_draw.binds (ps := ["box", "many"]) fun _ _ _ _ _ _ us hl => match us, hl with | [_, _], _ => rfl
  have h__law_draw : HasF (S := Bx) ⟨l.prog, w, K, mg, base⟩ 2 "_law_draw" 2 m_draw := ⟨_, _, _, PySem.W.mg_of X G a__law_draw, k__law_draw, b_draw, ok_draw (k := 0) F__law_draw F__law_load b_load (PySem.W.mg_of X G a__law_load) z_len z_int⟩
  have h_is_turn_of := h_is_turn_of (P := l.prog) (w := w) (base := base) F_is_turn_of (PySem.W.mg_of X G a_is_turn_of) z_len
  have h_turns_of := h_turns_of (P := l.prog) (w := w) (base := base) F_turns_of (PySem.W.mg_of X G a_turns_of) z_len z_range z_tuple h_is_turn_of
  have h_shortest_reel := h_shortest_reel (P := l.prog) (w := w) (base := base) F_shortest_reel (PySem.W.mg_of X G a_shortest_reel) h_turns_of
  have h_fails_at := h_fails_at (P := l.prog) (w := w) (base := base) F_fails_at (PySem.W.mg_of X G a_fails_at) z_len z_range
  have h_shortest_machine := h_shortest_machine (P := l.prog) (w := w) (base := base) F_shortest_machine (PySem.W.mg_of X G a_shortest_machine) z_len z_range z_tuple h_shortest_reel
  have h__law_flat := h__law_flat (P := l.prog) (w := w) (base := base) F__law_flat (PySem.W.mg_of X G a__law_flat)
  have h__law_same := h__law_same (P := l.prog) (w := w) (base := base) F__law_same (PySem.W.mg_of X G a__law_same) z_all z_bool z_int z_isinstance z_len z_list z_range z_str z_tuple 60
  have h__law_turn := h__law_turn (P := l.prog) (w := w) (base := base) F__law_turn (PySem.W.mg_of X G a__law_turn) z_all z_len z_range
  have h__law_divisor := h__law_divisor (P := l.prog) (w := w) (base := base) F__law_divisor (PySem.W.mg_of X G a__law_divisor)
  have h__law_word := h__law_word (P := l.prog) (w := w) (base := base) F__law_word (PySem.W.mg_of X G a__law_word) z_len z_range z_tuple h__law_draw
  have h__law_reels := h__law_reels (P := l.prog) (w := w) (base := base) F__law_reels (PySem.W.mg_of X G a__law_reels) z_range h__law_flat
  exact h_law (P := l.prog) (w := w) (base := base) F_law z_all z_len z_range z_tuple h_shortest_reel h__law_same h_turns_of h__law_divisor h_fails_at h__law_reels h__law_turn h_shortest_machine h__law_draw h__law_word (ok_box (k := 0) F__law_box z_len z_list) k__law_box b_box (PySem.W.mg_of X G a__law_box) hm
end Lw
open PySem PySem.W PyProof.Rows
set_option maxHeartbeats 0 in
theorem PySem.Challenge.cw_albumsfilled_k61_whole_words_of_reels_holds : PySem.Challenge.rw_albumsfilled_k61_whole_words_of_reels.Holds := by
  w_on; o_law; k_head; (case hw => w_witness2)
  k_fill
  refine L2.walk_of (l := PySem.Challenge.rw_albumsfilled_k61_whole_words_of_reels) (n := 63) (k := 62) (x := "script") (CX := fun _ => L2.CX0) (sp := fun w => Sn.spLaw _) rfl (by decide) rfl ⟨rfl, by decide, by decide⟩ (fun w h Y => PySem.W.kIn_of Y) ?F (fun _ H a ns hl hO hS => ⟨a, ns, rfl, hS, hl, Sn.Sz.only hO, fun _ => rfl⟩) (fun _ _ _ _ _ h => h)
  case F =>
    intro w mg fa h KX G hmg
    refine' Lw.all_mk Lw.law_true KX G hmg ?a_is_turn_of ?l_is_turn_of ?c_is_turn_of ?k_is_turn_of ?a_turns_of ?l_turns_of ?c_turns_of ?k_turns_of ?a_shortest_reel ?l_shortest_reel ?c_shortest_reel ?k_shortest_reel ?a_fails_at ?l_fails_at ?c_fails_at ?k_fails_at ?a_shortest_machine ?l_shortest_machine ?c_shortest_machine ?k_shortest_machine ?a__law_flat ?l__law_flat ?c__law_flat ?k__law_flat ?a__law_box ?l__law_box ?c__law_box ?k__law_box ?a__law_load ?l__law_load ?c__law_load ?k__law_load ?a__law_draw ?l__law_draw ?c__law_draw ?k__law_draw ?a__law_same ?l__law_same ?c__law_same ?k__law_same ?a__law_turn ?l__law_turn ?c__law_turn ?k__law_turn ?a__law_divisor ?l__law_divisor ?c__law_divisor ?k__law_divisor ?a__law_word ?l__law_word ?c__law_word ?k__law_word ?a__law_reels ?l__law_reels ?c__law_reels ?k__law_reels ?a_law ?l_law ?c_law ?k_law ?z_all ?z_bool ?z_int ?z_isinstance ?z_len ?z_list ?z_range ?z_str ?z_tuple
    (case a_is_turn_of => k_is); (case l_is_turn_of => k_is); (case c_is_turn_of => k_is); (case k_is_turn_of => k_is); (case a_turns_of => k_is); (case l_turns_of => k_is); (case c_turns_of => k_is); (case k_turns_of => k_is); (case a_shortest_reel => k_is); (case l_shortest_reel => k_is); (case c_shortest_reel => k_is); (case k_shortest_reel => k_is); (case a_fails_at => k_is); (case l_fails_at => k_is); (case c_fails_at => k_is); (case k_fails_at => k_is); (case a_shortest_machine => k_is); (case l_shortest_machine => k_is); (case c_shortest_machine => k_is); (case k_shortest_machine => k_is); (case a__law_flat => k_is); (case l__law_flat => k_is); (case c__law_flat => k_is); (case k__law_flat => k_is); (case a__law_box => k_is); (case l__law_box => k_is); (case c__law_box => k_is); (case k__law_box => k_is); (case a__law_load => k_is); (case l__law_load => k_is); (case c__law_load => k_is); (case k__law_load => k_is); (case a__law_draw => k_is); (case l__law_draw => k_is); (case c__law_draw => k_is); (case k__law_draw => k_is); (case a__law_same => k_is); (case l__law_same => k_is); (case c__law_same => k_is); (case k__law_same => k_is); (case a__law_turn => k_is); (case l__law_turn => k_is); (case c__law_turn => k_is); (case k__law_turn => k_is); (case a__law_divisor => k_is); (case l__law_divisor => k_is); (case c__law_divisor => k_is); (case k__law_divisor => k_is); (case a__law_word => k_is); (case l__law_word => k_is); (case c__law_word => k_is); (case k__law_word => k_is); (case a__law_reels => k_is); (case l__law_reels => k_is); (case c__law_reels => k_is); (case k__law_reels => k_is); (case a_law => k_is); (case l_law => k_is); (case c_law => k_is); (case k_law => k_is); (case z_all => k_is); (case z_bool => k_is); (case z_int => k_is); (case z_isinstance => k_is); (case z_len => k_is); (case z_list => k_is); (case z_range => k_is); (case z_str => k_is); (case z_tuple => k_is)
