import PyProof.Rows.All
import Wide.All
import OpenK.AllK
import Wide.FinOn
import HandS.ForMost
import HandS.ForExc
import HandS.Conv
import HandS.Zip
import HandS.Deep
import HandS.TupAny
import HandS.IsInst
import HandS.DictComp
import HandS.More
import HandS.SortRule
import HandS.SortInts
import HandS.TupLe
import HandS.Small
import HandS.ExcInit
import HandS.RaiseMore
import HandS.Defaults
import HandS.Wide
import HandS.WideMore
import HandS.Style
import HandS.NoneIn
import HandS.CallSlots
import HandS.WordsExc
import HandS.HeadEnd
import HandS.HeadHook2
import KE.SortData
import KE.SortLaws
import HandS.Words
import HandS.Iter
import HandS.Head0
import HandS.Head1
import HandS.Head2
import HandS.HeadHook1
import KE.KStateDown
import Lean
import HandS.Base
import HandS.Call
import HandS.Ends
import PySem.Challenge.RW_dotcrowds_k87_whole_squares_of_how_far
set_option Elab.async false
set_option linter.all false
set_option maxRecDepth 100000
set_option maxHeartbeats 0
/-! VA: data by value (D), how a value of the abstract heap bears it (Rep), names' cells, the state's relation (Rel). -/
namespace VS
open PySem PySem.Spec PyProof.Rows L2

/-- decided, but not by reckoning -/
noncomputable def dec (p : Prop) : Bool := @decide p (Classical.propDecidable p)
theorem dec_true {p : Prop} (h : p) : dec p = true := @decide_eq_true p (Classical.propDecidable p) h
theorem dec_false {p : Prop} (h : ¬ p) : dec p = false := @decide_eq_false p (Classical.propDecidable p) h
theorem of_dec {p : Prop} (h : dec p = true) : p := @of_decide_eq_true p (Classical.propDecidable p) h
theorem dec_eq (p : Prop) [Decidable p] : dec p = decide p := by
  by_cases h : p
  · rw [dec_true h, decide_eq_true h]
  · rw [dec_false h, decide_eq_false h]

/-- data by value; op: a closed value (a def, a class, a type); fl: a list that may be frozen (the script); dct: a dict, whose keys are ints and texts (false) or tuples of these (true) -/
inductive D where
  | non | bl (b : Bool) | int (i : Int) | str (x : Str)
  | lst (xs : List D) | tup (xs : List D) | dct (t : Bool) (kvs : List (D × D)) | op (v : V) | fl (xs : List D)
  deriving Inhabited

def kD : Key → D
  | .inl i => .int i
  | .inr x => .str x
def tD (k : List Key) : D := .tup (k.map kD)

abbrev Sub (H H' : Hp) : Prop := ∀ a o, H a = some o → H' a = some o
theorem Sub.refl (H : Hp) : Sub H H := fun _ _ h => h
theorem Sub.trans {H H1 H2 : Hp} (a : Sub H H1) (b : Sub H1 H2) : Sub H H2 := fun c o h => b c o (a c o h)
theorem Sub.new {H : Hp} {p : Addr} {o : HO} (h : H p = none) : Sub H (upd H p o) := fun b x e => by
  rw [upd_ne (ne_of_none e h)]
  exact e
theorem Sub.rd {H H' : Hp} (s : Sub H H') {a : Addr} {u : HO} (h : Rd H a u) : Rd H' a u := by
  rcases h with h | ⟨o, h⟩
  · exact .inl (s a _ h)
  · exact .inr ⟨o, s a _ h⟩
theorem Sub.sqL {K : PySem.W.Frag} {H H' : Hp} (s : Sub H H') {a : Addr} {xs : List V} (h : SqL K H a xs) : SqL K H' a xs := by
  rcases h with h | h
  · exact .inl (s.rd h)
  · exact .inr h
theorem Sub.none {H H' : Hp} (s : Sub H H') {a : Addr} (h : H' a = Option.none) : H a = Option.none := by
  cases q : H a with
  | none => rfl
  | some o => rw [s a o q] at h; cases h

mutual
inductive Rep (K : PySem.W.Frag) (H : Hp) : V → D → Prop
  | non : Rep K H .non .non
  | bl (b : Bool) : Rep K H (.bl b) (.bl b)
  | int (i : Int) : Rep K H (.int i) (.int i)
  | str (x : Str) : Rep K H (.str x) (.str x)
  | lst {a : Addr} {xs : List V} {ds : List D} : H a = some (.lst xs) → Reps K H xs ds → Rep K H (.ref a) (.lst ds)
  | tup {a : Addr} {xs : List V} {ds : List D} : H a = some (.tup xs) → Reps K H xs ds → Rep K H (.ref a) (.tup ds)
  | dK {a : Addr} {kvs : List (Key × V)} {l : List (D × D)} : Rd H a (.dK kvs) → RepsK K H kvs l → Rep K H (.ref a) (.dct false l)
  | dT {a : Addr} {kvs : List (List Key × V)} {l : List (D × D)} : Rd H a (.dT kvs) → RepsT K H kvs l → Rep K H (.ref a) (.dct true l)
  | op (v : V) : Rep K H v (.op v)
  | fl {a : Addr} {xs : List V} {ds : List D} : SqL K H a xs → Reps K H xs ds → Rep K H (.ref a) (.fl ds)
inductive Reps (K : PySem.W.Frag) (H : Hp) : List V → List D → Prop
  | nil : Reps K H [] []
  | cons {v : V} {vs : List V} {d : D} {ds : List D} : Rep K H v d → Reps K H vs ds → Reps K H (v :: vs) (d :: ds)
inductive RepsK (K : PySem.W.Frag) (H : Hp) : List (Key × V) → List (D × D) → Prop
  | nil : RepsK K H [] []
  | cons {k : Key} {v : V} {kvs : List (Key × V)} {d : D} {l : List (D × D)} : Rep K H v d → RepsK K H kvs l → RepsK K H ((k, v) :: kvs) ((kD k, d) :: l)
inductive RepsT (K : PySem.W.Frag) (H : Hp) : List (List Key × V) → List (D × D) → Prop
  | nil : RepsT K H [] []
  | cons {k : List Key} {v : V} {kvs : List (List Key × V)} {d : D} {l : List (D × D)} : Rep K H v d → RepsT K H kvs l → RepsT K H ((k, v) :: kvs) ((tD k, d) :: l)
end

section
variable {K : PySem.W.Frag} {H H' : Hp}
mutual
theorem Rep.mono (s : Sub H H') : ∀ {v : V} {d : D}, Rep K H v d → Rep K H' v d
  | _, _, .non => .non
  | _, _, .bl b => .bl b
  | _, _, .int i => .int i
  | _, _, .str x => .str x
  | _, _, .lst h r => .lst (s _ _ h) (Reps.mono s r)
  | _, _, .fl h r => .fl (s.sqL h) (Reps.mono s r)
  | _, _, .tup h r => .tup (s _ _ h) (Reps.mono s r)
  | _, _, .dK h r => .dK (s.rd h) (RepsK.mono s r)
  | _, _, .dT h r => .dT (s.rd h) (RepsT.mono s r)
  | _, _, .op v => .op v
theorem Reps.mono (s : Sub H H') : ∀ {vs : List V} {ds : List D}, Reps K H vs ds → Reps K H' vs ds
  | _, _, .nil => .nil
  | _, _, .cons r t => .cons (Rep.mono s r) (Reps.mono s t)
theorem RepsK.mono (s : Sub H H') : ∀ {vs : List (Key × V)} {ds : List (D × D)}, RepsK K H vs ds → RepsK K H' vs ds
  | _, _, .nil => .nil
  | _, _, .cons r t => .cons (Rep.mono s r) (RepsK.mono s t)
theorem RepsT.mono (s : Sub H H') : ∀ {vs : List (List Key × V)} {ds : List (D × D)}, RepsT K H vs ds → RepsT K H' vs ds
  | _, _, .nil => .nil
  | _, _, .cons r t => .cons (Rep.mono s r) (RepsT.mono s t)
end
theorem Reps.length : ∀ {vs : List V} {ds : List D}, Reps K H vs ds → vs.length = ds.length
  | _, _, .nil => rfl
  | _, _, .cons _ t => by rw [List.length_cons, List.length_cons, Reps.length t]
theorem Reps.append : ∀ {vs ws : List V} {ds es : List D}, Reps K H vs ds → Reps K H ws es → Reps K H (vs ++ ws) (ds ++ es)
  | _, _, _, _, .nil, s => s
  | _, _, _, _, .cons r t, s => .cons r (Reps.append t s)
theorem Reps.one {v : V} {d : D} (r : Rep K H v d) : Reps K H [v] [d] := .cons r .nil
theorem Reps.get : ∀ {vs : List V} {ds : List D} {i : Nat} {d : D}, Reps K H vs ds → ds[i]? = some d → ∃ v, vs[i]? = some v ∧ Rep K H v d
  | _, _, _, _, .nil, e => by simp at e
  | _, _, 0, _, .cons r _, e => by simp at e; subst e; exact ⟨_, rfl, r⟩
  | _, _, i + 1, d, .cons _ t, e => by
    obtain ⟨v, h1, h2⟩ := Reps.get (i := i) (d := d) t (by simpa using e)
    exact ⟨v, by simpa using h1, h2⟩
theorem Reps.get' : ∀ {vs : List V} {ds : List D} {i : Nat} {v : V}, Reps K H vs ds → vs[i]? = some v → ∃ d, ds[i]? = some d ∧ Rep K H v d
  | _, _, _, _, .nil, e => by simp at e
  | _, _, 0, _, .cons r _, e => by simp at e; subst e; exact ⟨_, rfl, r⟩
  | _, _, i + 1, d, .cons _ t, e => by
    obtain ⟨v, h1, h2⟩ := Reps.get' (i := i) (v := d) t (by simpa using e)
    exact ⟨v, by simpa using h1, h2⟩
theorem Reps.take : ∀ {vs : List V} {ds : List D} (n : Nat), Reps K H vs ds → Reps K H (vs.take n) (ds.take n)
  | _, _, 0, _ => .nil
  | _, _, _ + 1, .nil => .nil
  | _, _, n + 1, .cons r t => .cons r (Reps.take n t)
theorem Reps.drop : ∀ {vs : List V} {ds : List D} (n : Nat), Reps K H vs ds → Reps K H (vs.drop n) (ds.drop n)
  | _, _, 0, r => r
  | _, _, _ + 1, .nil => .nil
  | _, _, n + 1, .cons _ t => Reps.drop n t
theorem Reps.reverse : ∀ {vs : List V} {ds : List D}, Reps K H vs ds → Reps K H vs.reverse ds.reverse
  | _, _, .nil => .nil
  | _, _, .cons r t => by rw [List.reverse_cons, List.reverse_cons]; exact Reps.append (Reps.reverse t) (.one r)
theorem Reps.set {v : V} {d : D} (r : Rep K H v d) : ∀ {vs : List V} {ds : List D} (i : Nat), Reps K H vs ds → Reps K H (vs.set i v) (ds.set i d)
  | _, _, _, .nil => .nil
  | _, _, 0, .cons _ t => .cons r t
  | _, _, i + 1, .cons q t => .cons q (Reps.set r i t)
theorem Reps.eraseIdx : ∀ {vs : List V} {ds : List D} (i : Nat), Reps K H vs ds → Reps K H (vs.eraseIdx i) (ds.eraseIdx i)
  | _, _, _, .nil => .nil
  | _, _, 0, .cons _ t => t
  | _, _, i + 1, .cons q t => .cons q (Reps.eraseIdx i t)
theorem RepsK.length : ∀ {vs : List (Key × V)} {ds : List (D × D)}, RepsK K H vs ds → vs.length = ds.length
  | _, _, .nil => rfl
  | _, _, .cons _ t => by rw [List.length_cons, List.length_cons, RepsK.length t]
theorem RepsT.length : ∀ {vs : List (List Key × V)} {ds : List (D × D)}, RepsT K H vs ds → vs.length = ds.length
  | _, _, .nil => rfl
  | _, _, .cons _ t => by rw [List.length_cons, List.length_cons, RepsT.length t]
end

/-! ### what is owned: a list or a dict whose parts are shared -/
def Own (K : PySem.W.Frag) (W H : Hp) (p : Addr) : D → Prop
  | .lst ds => ∃ vs, H p = some (.lst vs) ∧ Reps K W vs ds
  | .dct false l => ∃ kvs, H p = some (.dK kvs) ∧ RepsK K W kvs l
  | .dct true l => ∃ kvs, H p = some (.dT kvs) ∧ RepsT K W kvs l
  | _ => False
theorem Own.mono {K : PySem.W.Frag} {W W' H H' : Hp} {p : Addr} {d : D} (h : Own K W H p d) (s : Sub W W') (e : ∀ o, H p = some o → H' p = some o) : Own K W' H' p d := by
  cases d with
  | lst ds => obtain ⟨vs, a, b⟩ := h; exact ⟨vs, e _ a, b.mono s⟩
  | dct t l =>
    cases t
    · obtain ⟨kvs, a, b⟩ := h; exact ⟨kvs, e _ a, b.mono s⟩
    · obtain ⟨kvs, a, b⟩ := h; exact ⟨kvs, e _ a, b.mono s⟩
  | _ => exact h.elim
/-- no tuple -/
abbrev NT (o : HO) : Prop := ∀ xs, o ≠ .tup xs
theorem Own.nt {K : PySem.W.Frag} {W H : Hp} {p : Addr} {d : D} {o : HO} (h : Own K W H p d) (e : H p = some o) : NT o := by
  cases d with
  | lst ds => obtain ⟨vs, a, _⟩ := h; rw [a] at e; cases e; intro xs; simp
  | dct t l =>
    cases t
    · obtain ⟨kvs, a, b⟩ := h; rw [a] at e; cases e; intro xs; simp
    · obtain ⟨kvs, a, b⟩ := h; rw [a] at e; cases e; intro xs; simp
  | _ => exact h.elim
theorem Own.some {K : PySem.W.Frag} {W H : Hp} {p : Addr} {d : D} (h : Own K W H p d) : ∃ o, H p = some o := by
  cases d with
  | lst ds => obtain ⟨vs, a, _⟩ := h; exact ⟨_, a⟩
  | dct t l =>
    cases t
    · obtain ⟨kvs, a, b⟩ := h; exact ⟨_, a⟩
    · obtain ⟨kvs, a, b⟩ := h; exact ⟨_, a⟩
  | _ => exact h.elim
/-- made part of the shared world -/
theorem Own.rep {K : PySem.W.Frag} {W W' H : Hp} {p : Addr} {d : D} (h : Own K W H p d) (s : Sub W W') (e : ∀ o, H p = Option.some o → W' p = Option.some o) : Rep K W' (.ref p) d := by
  cases d with
  | lst ds => obtain ⟨vs, a, b⟩ := h; exact .lst (e _ a) (b.mono s)
  | dct t l =>
    cases t
    · obtain ⟨kvs, a, b⟩ := h; exact .dK (.inl (e _ a)) (b.mono s)
    · obtain ⟨kvs, a, b⟩ := h; exact .dT (.inl (e _ a)) (b.mono s)
  | _ => exact h.elim

/-- a value to be read: shared, or owned with shared parts -/
def RepO (K : PySem.W.Frag) (W H : Hp) (v : V) (d : D) : Prop := Rep K W v d ∨ ∃ p, v = .ref p ∧ Own K W H p d
theorem RepO.rep {K : PySem.W.Frag} {W H : Hp} {v : V} {d : D} (s : Sub W H) (h : RepO K W H v d) : Rep K H v d := by
  rcases h with h | ⟨p, rfl, h⟩
  · exact h.mono s
  · exact h.rep s fun _ e => e

/-! ### cells of names -/
inductive Cell where
  | un | sh (d : D) | ow (d : D) | ln (d : D)
  deriving Inhabited
abbrev Env := List Cell
def Cell.own : Cell → Bool
  | .ow _ => true
  | .ln _ => true
  | _ => false
def CellOk (K : PySem.W.Frag) (fg : Hp) (la : Nat → Addr) (W H : Hp) (i : Nat) (s : Option (Option V)) : Cell → Prop
  | .un => True
  | .sh d => ∃ v, s = some (some v) ∧ Rep K W v d
  | .ow d => ∃ p, s = some (some (.ref p)) ∧ W p = none ∧ fg p = none ∧ Own K W H p d
  | .ln d => s = some (some (.ref (la i))) ∧ W (la i) = none ∧ fg (la i) = none ∧ Own K W H (la i) d
theorem CellOk.at_ {K : PySem.W.Frag} {fg : Hp} {la : Nat → Addr} {W H : Hp} {i : Nat} {s : Option (Option V)} {c : Cell} (h : CellOk K fg la W H i s c) (o : c.own = true) :
    ∃ p d, s = some (some (.ref p)) ∧ W p = none ∧ fg p = none ∧ Own K W H p d ∧ (c = .ow d ∨ (c = .ln d ∧ p = la i)) := by
  cases c with
  | un => cases o
  | sh d => cases o
  | ow d => obtain ⟨p, h1, h2, h3, h4⟩ := h; exact ⟨p, d, h1, h2, h3, h4, .inl rfl⟩
  | ln d => obtain ⟨h1, h2, h3, h4⟩ := h; exact ⟨_, d, h1, h2, h3, h4, .inr ⟨rfl, rfl⟩⟩

/-- the state: W the shared world, fg what is foreign (kept as it is, never shared), la where the lent lists stand -/
structure Rel (K : PySem.W.Frag) (fg : Hp) (la : Nat → Addr) (W H : Hp) (σ : L2.St) (e : Env) : Prop where
  sub : Sub W H
  frn : ∀ a o, fg a = some o → H a = some o ∧ (NT o → W a = none)
  len : e.length = σ.length
  cell : ∀ (i : Nat) c, e[i]? = some c → CellOk K fg la W H i σ[i]? c
  apart : ∀ (i j : Nat) c d p, i ≠ j → e[i]? = some c → e[j]? = some d → c.own = true → d.own = true → σ[i]? = some (some (V.ref p)) → σ[j]? = some (some (V.ref p)) → False

/-- all that was stays, what is shared anew is new -/
structure Step (W H W' H' : Hp) : Prop where
  w : Sub W W'
  h : Sub H H'
  s : Sub W' H'
  f : ∀ a o, W a = none → H a = some o → NT o → W' a = none
theorem Step.refl {W H : Hp} (s : Sub W H) : Step W H W H := ⟨.refl _, .refl _, s, fun _ _ h _ _ => h⟩
theorem Step.trans {W H W1 H1 W2 H2 : Hp} (a : Step W H W1 H1) (b : Step W1 H1 W2 H2) : Step W H W2 H2 :=
  ⟨a.w.trans b.w, a.h.trans b.h, b.s, fun x o h1 h2 nt => b.f x o (a.f x o h1 h2 nt) (a.h x o h2) nt⟩
/-- a new shared object -/
theorem Step.new {W H : Hp} {p : Addr} {o : HO} (s : Sub W H) (h : H p = none) : Step W H (upd W p o) (upd H p o) where
  w := .new (s.none h)
  h := .new h
  s := fun a u e => by
    by_cases z : a = p
    · subst z; rw [upd_same] at e ⊢; exact e
    · rw [upd_ne z] at e ⊢; exact s a u e
  f := fun a o h1 h2 _ => by rw [upd_ne (fun z => by rw [z, h] at h2; cases h2)]; exact h1
/-- a new object that is not shared -/
theorem Step.newH {W H : Hp} {p : Addr} {o : HO} (s : Sub W H) (h : H p = none) : Step W H W (upd H p o) where
  w := .refl _
  h := .new h
  s := s.trans (.new h)
  f := fun a _ h1 _ _ => h1

section
variable {K : PySem.W.Frag} {fg : Hp} {la : Nat → Addr} {W H W' H' : Hp} {σ : L2.St} {e : Env}
theorem CellOk.step {i : Nat} {s : Option (Option V)} {c : Cell} (h : CellOk K fg la W H i s c) (t : Step W H W' H') : CellOk K fg la W' H' i s c := by
  cases c with
  | un => trivial
  | sh d => obtain ⟨v, h1, h2⟩ := h; exact ⟨v, h1, h2.mono t.w⟩
  | ow d =>
    obtain ⟨p, h1, h2, h3, h4⟩ := h
    obtain ⟨o, ho⟩ := h4.some
    exact ⟨p, h1, t.f p o h2 ho (h4.nt ho), h3, h4.mono t.w fun u hu => t.h p u hu⟩
  | ln d =>
    obtain ⟨h1, h2, h3, h4⟩ := h
    obtain ⟨o, ho⟩ := h4.some
    exact ⟨h1, t.f _ o h2 ho (h4.nt ho), h3, h4.mono t.w fun u hu => t.h _ u hu⟩
theorem Rel.step (r : Rel K fg la W H σ e) (t : Step W H W' H') : Rel K fg la W' H' σ e where
  sub := t.s
  frn := fun a o h => by
    obtain ⟨h1, h2⟩ := r.frn a o h
    exact ⟨t.h a o h1, fun nt => t.f a o (h2 nt) h1 nt⟩
  len := r.len
  cell := fun i c h => (r.cell i c h).step t
  apart := r.apart

/-! ### what an expression gives: shared data, a new owned list or dict, or what a name holds -/
inductive Val where
  | sh (d : D) | ow (d : D) | bw (i : Nat)
  deriving Inhabited
end
def ValOk (K : PySem.W.Frag) (fg : Hp) (W H : Hp) (σ : L2.St) (e : Env) (v : V) : Val → Prop
  | .sh d => Rep K W v d
  | .ow d => ∃ p, v = .ref p ∧ W p = none ∧ fg p = none ∧ Own K W H p d ∧ ∀ (i : Nat) c, e[i]? = some c → c.own = true → σ[i]? ≠ some (some (V.ref p))
  | .bw i => σ[i]? = some (some v)
def cellD : Option Cell → Option D
  | some (.sh d) => some d
  | some (.ow d) => some d
  | some (.ln d) => some d
  | _ => none
def look (e : Env) : Val → Option D
  | .sh d => some d
  | .ow d => some d
  | .bw i => cellD e[i]?
/-- what may be kept elsewhere: a name's own list is shared from now on -/
def esc (e : Env) : Val → Option (D × Env)
  | .sh d => some (d, e)
  | .ow d => some (d, e)
  | .bw i => match e[i]? with
    | some (.sh d) => some (d, e)
    | some (.ow d) => some (d, e.set i (.sh d))
    | _ => none
/-- held while others are reckoned -/
def hold : Val → Val
  | .ow d => .sh d
  | v => v

section
variable {K : PySem.W.Frag} {fg : Hp} {la : Nat → Addr} {W H W' H' : Hp} {σ : L2.St} {e : Env}
theorem look_ok {v : V} {a : Val} {d : D} (r : Rel K fg la W H σ e) (h : ValOk K fg W H σ e v a) (l : look e a = some d) : RepO K W H v d := by
  cases a with
  | sh d' => cases l; exact .inl h
  | ow d' =>
    cases l
    obtain ⟨p, h1, h2, h3, h4, _⟩ := h
    exact .inr ⟨p, h1, h4⟩
  | bw i =>
    have hv : σ[i]? = some (some v) := h
    have l : cellD e[i]? = some d := l
    cases q : e[i]? with
    | none => rw [q] at l; cases l
    | some c =>
      rw [q] at l
      have k := r.cell i c q
      rw [hv] at k
      cases c with
      | un => cases l
      | sh d' => cases l; obtain ⟨u, h1, h2⟩ := k; cases h1; exact .inl h2
      | ow d' => cases l; obtain ⟨p, h1, h2, h3, h4⟩ := k; cases h1; exact .inr ⟨p, rfl, h4⟩
      | ln d' => cases l; obtain ⟨h1, h2, h3, h4⟩ := k; cases h1; exact .inr ⟨_, rfl, h4⟩
theorem upd_sub {p : Addr} {o : HO} (s : Sub W H) (h : H p = some o) : Sub (upd W p o) H := fun a u e => by
  by_cases z : a = p
  · subst z; rw [upd_same] at e; cases e; exact h
  · rw [upd_ne z] at e; exact s a u e
/-- an owned object that no cell owns is shared -/
theorem Rel.share {p : Addr} {o : HO} (r : Rel K fg la W H σ e) (h : H p = some o) (w : W p = none) (f : fg p = none) (n : ∀ (i : Nat) c, e[i]? = some c → c.own = true → σ[i]? ≠ some (some (V.ref p))) :
    Rel K fg la (upd W p o) H σ e where
  sub := upd_sub r.sub h
  frn := fun a u q => by
    obtain ⟨h1, h2⟩ := r.frn a u q
    refine ⟨h1, fun nt => ?_⟩
    rw [upd_ne (fun z => by rw [z, f] at q; cases q)]
    exact h2 nt
  len := r.len
  cell := fun i c q => by
    have k := r.cell i c q
    have sw : Sub W (upd W p o) := .new w
    cases c with
    | un => trivial
    | sh d => obtain ⟨v, h1, h2⟩ := k; exact ⟨v, h1, h2.mono sw⟩
    | ow d =>
      obtain ⟨b, h1, h2, h3, h4⟩ := k
      refine ⟨b, h1, ?_, h3, h4.mono sw fun _ z => z⟩
      rw [upd_ne (fun z => n i _ q rfl (by rw [h1, z]))]
      exact h2
    | ln d =>
      obtain ⟨h1, h2, h3, h4⟩ := k
      refine ⟨h1, ?_, h3, h4.mono sw fun _ z => z⟩
      rw [upd_ne (fun z => n i _ q rfl (by rw [h1, z]))]
      exact h2
  apart := r.apart
/-- a name's own object is shared -/
theorem Rel.shareAt {i : Nat} {d : D} (r : Rel K fg la W H σ e) (h : e[i]? = some (.ow d)) : ∃ p o, σ[i]? = some (some (V.ref p)) ∧ H p = some o ∧ W p = none ∧ Rep K (upd W p o) (.ref p) d ∧ Rel K fg la (upd W p o) H σ (e.set i (.sh d)) := by
  obtain ⟨p, h1, h2, h3, h4⟩ := r.cell i _ h
  obtain ⟨o, ho⟩ := h4.some
  have hi : i < e.length := (List.getElem?_eq_some_iff.mp h).1
  have sw : Sub W (upd W p o) := .new h2
  have rp : Rep K (upd W p o) (.ref p) d := h4.rep sw fun u hu => by rw [ho] at hu; cases hu; exact upd_same
  have get : ∀ (j : Nat) c, (e.set i (.sh d))[j]? = some c → (j = i ∧ c = .sh d) ∨ (j ≠ i ∧ e[j]? = some c) := fun j c q => by
    by_cases z : i = j
    · subst z; rw [List.getElem?_set_self hi] at q; cases q; exact .inl ⟨rfl, rfl⟩
    · rw [List.getElem?_set_ne z] at q; exact .inr ⟨Ne.symm z, q⟩
  refine ⟨p, o, h1, ho, h2, rp, ⟨upd_sub r.sub ho, fun a u q => ?_, by rw [List.length_set]; exact r.len, fun j c q => ?_, fun j k c c' b ne q1 q2 o1 o2 s1 s2 => ?_⟩⟩
  · obtain ⟨k1, k2⟩ := r.frn a u q
    refine ⟨k1, fun nt => ?_⟩
    rw [upd_ne (fun z => by rw [z, h3] at q; cases q)]
    exact k2 nt
  · rcases get j c q with ⟨rfl, rfl⟩ | ⟨ne, q'⟩
    · exact ⟨_, h1, rp⟩
    · have k := r.cell j c q'
      cases c with
      | un => trivial
      | sh d' => obtain ⟨v, k1, k2⟩ := k; exact ⟨v, k1, k2.mono sw⟩
      | ow d' =>
        obtain ⟨b, k1, k2, k3, k4⟩ := k
        refine ⟨b, k1, ?_, k3, k4.mono sw fun _ z => z⟩
        rw [upd_ne (fun z => r.apart j i _ _ b ne q' h rfl rfl k1 (by rw [h1, z]))]
        exact k2
      | ln d' =>
        obtain ⟨k1, k2, k3, k4⟩ := k
        refine ⟨k1, ?_, k3, k4.mono sw fun _ z => z⟩
        rw [upd_ne (fun z => r.apart j i _ _ _ ne q' h rfl rfl k1 (by rw [h1, z]))]
        exact k2
  · rcases get j c q1 with ⟨rfl, rfl⟩ | ⟨_, q1'⟩
    · cases o1
    · rcases get k c' q2 with ⟨rfl, rfl⟩ | ⟨_, q2'⟩
      · cases o2
      · exact r.apart j k c c' b ne q1' q2' o1 o2 s1 s2
theorem esc_ok {v : V} {a : Val} {d : D} {e' : Env} (r : Rel K fg la W H σ e) (h : ValOk K fg W H σ e v a) (l : esc e a = some (d, e')) : ∃ W', Sub W W' ∧ Rel K fg la W' H σ e' ∧ Rep K W' v d := by
  cases a with
  | sh d' => cases l; exact ⟨W, .refl _, r, h⟩
  | ow d' =>
    cases l
    obtain ⟨p, rfl, h2, h3, h4, h5⟩ := h
    obtain ⟨o, ho⟩ := h4.some
    have sw : Sub W (upd W p o) := .new h2
    exact ⟨_, sw, r.share ho h2 h3 h5, h4.rep sw fun u hu => by rw [ho] at hu; cases hu; exact upd_same⟩
  | bw i =>
    have hv : σ[i]? = some (some v) := h
    unfold esc at l
    simp only at l
    split at l
    · rename_i d' q
      cases l
      obtain ⟨u, h1, h2⟩ := r.cell i _ q
      rw [hv] at h1; cases h1
      exact ⟨W, .refl _, r, h2⟩
    · rename_i d' q
      cases l
      obtain ⟨p, o, s1, ho, w, rp, r'⟩ := r.shareAt q
      rw [hv] at s1; cases s1
      exact ⟨_, .new w, r', rp⟩
    · cases l
theorem hold_ok {v : V} {a : Val} (r : Rel K fg la W H σ e) (h : ValOk K fg W H σ e v a) : ∃ W', Sub W W' ∧ Rel K fg la W' H σ e ∧ ValOk K fg W' H σ e v (hold a) := by
  cases a with
  | sh d' => exact ⟨W, .refl _, r, h⟩
  | bw i => exact ⟨W, .refl _, r, h⟩
  | ow d' =>
    obtain ⟨p, rfl, h2, h3, h4, h5⟩ := h
    obtain ⟨o, ho⟩ := h4.some
    have sw : Sub W (upd W p o) := .new h2
    exact ⟨_, sw, r.share ho h2 h3 h5, h4.rep sw fun u hu => by rw [ho] at hu; cases hu; exact upd_same⟩
/-- what is held stays so -/
theorem held_mono {v : V} {a : Val} {e' : Env} (h : ValOk K fg W H σ e v (hold a)) (s : Sub W W') : ValOk K fg W' H' σ e' v (hold a) := by
  cases a with
  | sh d' => exact Rep.mono s h
  | ow d' => exact Rep.mono s h
  | bw i => exact h
end
end VS

/-! VB: what code does to the cells (M), the judgements DE, DT, DA, DS, DI over the layer's. -/
namespace VS
open PySem PySem.Spec PyProof.Rows L2

/-- an exception: its class's name, its own fields -/
structure Exn where
  nm : Str
  fs : List (Str × D) := []
  deriving Inhabited
inductive R (α : Type) where
  | ok (a : α) (e : Env) | ex (x : Exn) (e : Env) | no
  deriving Inhabited
abbrev M (α : Type) := Env → R α
def M.bind {α β : Type} (m : M α) (f : α → M β) : M β := fun e => match m e with
  | .ok a e' => f a e'
  | .ex x e' => .ex x e'
  | .no => .no
def M.ret {α : Type} (a : α) : M α := fun e => .ok a e
def M.lift {α : Type} (o : Option α) : M α := fun e => match o with
  | some a => .ok a e
  | none => .no

/-- an exception's own fields -/
def XdOk (K : PySem.W.Frag) (W H : Hp) (d : Option Addr) : List (Str × D) → Prop
  | [] => True
  | f :: fs => ∃ dd vs, d = some dd ∧ H dd = some (.xd (((f :: fs).map (·.1)).zip vs)) ∧ Reps K W vs ((f :: fs).map (·.2))
def ExOk (mg : Str → Option Value) (K : PySem.W.Frag) (W H : Hp) (cls : Value) (d : Option Addr) (x : Exn) : Prop := mg x.nm = some cls ∧ XdOk K W H d x.fs

/-- what is to hold behind: by what the cells' code gives -/
def Post {α : Type} (X : Cx) (Wx : WX) (fg : Hp) (la : Nat → Addr) (W : Hp) (σ : L2.St) (ok : Hp → Hp → Env → α → Prop) : R α → Prop
  | .ok a e' => ∀ W' H', Sub W W' → Rel X.K fg la W' H' σ e' → ok W' H' e' a
  | .ex x e' => ∀ W' H' cls d, Sub W W' → Rel X.K fg la W' H' σ e' → ExOk X.mg X.K W' H' cls d x → Wx cls d σ H'
  | .no => False

section
variable {X : Cx} {Wx : WX} {fg : Hp} {la : Nat → Addr} {W W' H : Hp} {σ : L2.St} {α β : Type} {ok ok' : Hp → Hp → Env → α → Prop} {e : Env}
theorem Post.mono {r : R α} (h : Post X Wx fg la W σ ok r) (k : ∀ W' H' e' a, Sub W W' → Rel X.K fg la W' H' σ e' → ok W' H' e' a → ok' W' H' e' a) : Post X Wx fg la W σ ok' r := by
  cases r with
  | ok a e' => exact fun W' H' s r => k W' H' e' a s r (h W' H' s r)
  | ex x e' => exact h
  | no => exact h
theorem Post.wider {r : R α} (h : Post X Wx fg la W σ ok r) (s : Sub W W') : Post X Wx fg la W' σ ok r := by
  cases r with
  | ok a e' => exact fun W1 H1 s1 r1 => h W1 H1 (s.trans s1) r1
  | ex x e' => exact fun W1 H1 cls d s1 r1 z => h W1 H1 cls d (s.trans s1) r1 z
  | no => exact h
theorem Post.bind {m : M α} {f : α → M β} {okb : Hp → Hp → Env → β → Prop} (h : Post X Wx fg la W σ okb (M.bind m f e)) :
    Post X Wx fg la W σ (fun W' _ e' a => Post X Wx fg la W' σ okb (f a e')) (m e) := by
  unfold M.bind at h
  cases q : m e with
  | ok a e' => rw [q] at h; exact fun W' H' s r => Post.wider h s
  | ex x e' => rw [q] at h; exact h
  | no => rw [q] at h; exact h
/-- the state as it stands -/
theorem Post.here {a : α} (h : Post X Wx fg la W σ ok (.ok a e)) (r : Rel X.K fg la W H σ e) : ok W H e a := h W H (.refl _) r
theorem Post.lift {o : Option α} (h : Post X Wx fg la W σ ok (M.lift o e)) (r : Rel X.K fg la W H σ e) : ∃ a, o = some a ∧ ok W H e a := by
  cases o with
  | none => exact (show False from h).elim
  | some a => exact ⟨a, rfl, Post.here h r⟩
end

/-! ### judgements -/
section
variable (X : Cx) (Wx : WX)
def rdE (m : M Val) : TE := fun σ H Q => ∃ fg la W e, Rel X.K fg la W H σ e ∧ Post X Wx fg la W σ (fun W' H' e' a => ∀ v, ValOk X.K fg W' H' σ e' v a → Q v H') (m e)
def rdT (m : M Bool) : TT := fun σ H Q => ∃ fg la W e, Rel X.K fg la W H σ e ∧ Post X Wx fg la W σ (fun _ H' _ a => Q a H') (m e)
def Val.isOw : Val → Bool
  | .ow _ => true
  | _ => false
/-- several values, from the left; the owned ones are apart -/
def ValsOk (K : PySem.W.Frag) (fg : Hp) (W H : Hp) (σ : L2.St) (e : Env) : List V → List Val → Prop
  | [], [] => True
  | v :: vs, a :: as => ValOk K fg W H σ e v a ∧ ValsOk K fg W H σ e vs as ∧ (a.isOw = true → ∀ (j : Nat) b, as[j]? = some b → b.isOw = true → vs[j]? ≠ some v)
  | _, _ => False
def rdA (m : M (List Val)) : TA := fun σ H Q => ∃ fg la W e, Rel X.K fg la W H σ e ∧ Post X Wx fg la W σ (fun W' H' e' a => ∀ vs, ValsOk X.K fg W' H' σ e' vs a → Q vs H') (m e)
def DE (e : Expr) (m : M Val) : Prop := PE X e (rdE X Wx m)
def DT (e : Expr) (m : M Bool) : Prop := PT X e (rdT X Wx m)
def DA (es : List Expr) (m : M (List Val)) : Prop := PA X es (rdA X Wx m)
end

theorem PE.wk {X : Cx} {e : Expr} {t t' : TE} (h : PE X e t) (k : ∀ σ H Q, t' σ H Q → t σ H Q) : PE X e t' := ⟨fun pins s σ H Q I q => h.run pins s σ H Q I (k σ H Q q)⟩
theorem PT.wk {X : Cx} {e : Expr} {t t' : TT} (h : PT X e t) (k : ∀ σ H Q, t' σ H Q → t σ H Q) : PT X e t' := ⟨fun pins s σ H Q I q => h.run pins s σ H Q I (k σ H Q q)⟩
theorem PW.wk {X : Cx} {e : Expr} {t t' : TT} (h : PW X e t) (k : ∀ σ H Q, t' σ H Q → t σ H Q) : PW X e t' := ⟨fun w pins s σ H Q I q => h.run w pins s σ H Q I (k σ H Q q)⟩
theorem PA.wk {X : Cx} {es : List Expr} {t t' : TA} (h : PA X es t) (k : ∀ σ H Q, t' σ H Q → t σ H Q) : PA X es t' := ⟨fun p pins s σ H Q I q => h.run p pins s σ H Q I (k σ H Q q)⟩
theorem PS.wk {X : Cx} {e : Stmt} {t t' : TS} (h : PS X e t) (k : ∀ D σ H, t' D σ H → t D σ H) : PS X e t' := ⟨fun pins s σ H D I q => h.run pins s σ H D I (k D σ H q)⟩
theorem PSs.wk {X : Cx} {e : List Stmt} {t t' : TS} (h : PSs X e t) (k : ∀ D σ H, t' D σ H → t D σ H) : PSs X e t' := ⟨fun pins s σ H D I q => h.run pins s σ H D I (k D σ H q)⟩
theorem PI.wk {X : Cx} {tg e : Expr} {t t' : TI} (h : PI X tg e t) (k : ∀ σ H R, t' σ H R → t σ H R) : PI X tg e t' := ⟨fun pins s σ H R I q => h.run pins s σ H R I (k σ H R q)⟩

section
variable {X : Cx} {Wx : WX}
/-! ### names and constants -/
def mVar (i : Nat) : M Val := fun e => match e[i]? with
  | some (.sh d) => .ok (.sh d) e
  | some (.ow _) => .ok (.bw i) e
  | some (.ln _) => .ok (.bw i) e
  | _ => .no
def mC (d : D) : M Val := fun e => .ok (.sh d) e
theorem d_var (i : Nat) {x : Str} {pos : Pos} (hN : X.N[i]? = some x := by rfl) (hv : Vis X.env.scope x := by first | exact Or.inl rfl | exact Or.inr (Or.inl rfl) | exact Or.inr (Or.inr rfl)) (hd : (x == ("__debug__" : Str)) = false := by decide)
    (hcd : (x == ("__classdict__" : Str)) = false := by decide) : DE X Wx (.Name x pos) (mVar i) := PE.wk (pe_var hN hv hd hcd) (by
  rintro σ H Q ⟨fg, la, W, e, r, h⟩
  unfold mVar at h
  cases q : e[i]? with
  | none => rw [q] at h; exact h.elim
  | some c =>
    rw [q] at h
    have k := r.cell i c q
    cases c with
    | un => exact h.elim
    | sh d =>
      obtain ⟨v, h1, h2⟩ := k
      exact ⟨v, h1, Post.here h r v h2⟩
    | ow d =>
      obtain ⟨p, h1, h2, h3, h4⟩ := k
      exact ⟨_, h1, Post.here h r _ h1⟩
    | ln d =>
      obtain ⟨h1, h2, h3, h4⟩ := k
      exact ⟨_, h1, Post.here h r _ h1⟩)
theorem d_c {e : Expr} {v : V} {d : D} (h : PE X e (tC v)) (hr : ∀ W, Rep X.K W v d) : DE X Wx e (mC d) := PE.wk h (by
  rintro σ H Q ⟨fg, la, W, e, r, h⟩
  exact Post.here h r v (hr W))
theorem d_int {i j pos} : DE X Wx (.Constant (.int i) j pos) (mC (.int i)) := d_c pe_int fun _ => .int i
theorem d_bl {b j pos} : DE X Wx (.Constant (.bool b) j pos) (mC (.bl b)) := d_c pe_bl fun _ => .bl b
theorem d_non {j pos} : DE X Wx (.Constant .none j pos) (mC .non) := d_c pe_non fun _ => .non
theorem d_str {x j pos} : DE X Wx (.Constant (.str x) j pos) (mC (.str x)) := d_c pe_str fun _ => .str x
theorem d_gint {x : Str} {i : Int} {pos : Pos} (hg : Gl X x) (hm : ∃ t, X.mg x = some (.int i t)) (hd : (x == ("__debug__" : Str)) = false := by decide) : DE X Wx (.Name x pos) (mC (.int i)) := by
  obtain ⟨t, hm⟩ := hm
  exact d_c (pe_glob (v := .int i) hg hm ⟨t, rfl⟩ hd) fun _ => .int i
theorem d_gstr {x z : Str} {pos : Pos} (hg : Gl X x) (hm : ∃ t, X.mg x = some (.str z t)) (hd : (x == ("__debug__" : Str)) = false := by decide) : DE X Wx (.Name x pos) (mC (.str z)) := by
  obtain ⟨t, hm⟩ := hm
  exact d_c (pe_glob (v := .str z) hg hm ⟨t, rfl⟩ hd) fun _ => .str z
theorem d_gop {x : Str} {v : V} {u : Value} {pos : Pos} (hg : Gl X x) (hm : X.mg x = some u) (rv : RelV v u) (hd : (x == ("__debug__" : Str)) = false := by decide) : DE X Wx (.Name x pos) (mC (.op v)) :=
  d_c (pe_glob hg hm rv hd) fun _ => .op v
theorem d_bltn {x : Str} {v : V} {u : Value} {pos : Pos} (hg : Gl X x) (hm : X.mg x = none) (hv : bootBuiltins x = some u) (rv : RelV v u) (hn : x ≠ "__name__" := by decide) (hd : (x == ("__debug__" : Str)) = false := by decide) :
    DE X Wx (.Name x pos) (mC (.op v)) := d_c (pe_bltn hg hm hv rv hn hd) fun _ => .op v

/-! ### operators by values -/
/-- what an operation gives: shared data over a grown world, or a new owned object -/
def NewV (K : PySem.W.Frag) (W' H H' : Hp) (v : V) : Val → Prop
  | .sh d => Rep K W' v d
  | .ow d => ∃ p, v = .ref p ∧ H p = none ∧ W' p = none ∧ Own K W' H' p d
  | .bw _ => False
theorem NewV.ok {K : PySem.W.Frag} {fg : Hp} {la : Nat → Addr} {W H W' H' : Hp} {σ : L2.St} {e : Env} {v : V} {a : Val} (r : Rel K fg la W H σ e) (t : Step W H W' H') (h : NewV K W' H H' v a) : ValOk K fg W' H' σ e v a := by
  cases a with
  | sh d => exact h
  | ow d =>
    obtain ⟨p, h1, h2, h3, h4⟩ := h
    refine ⟨p, h1, h3, ?_, h4, fun i c q o s => ?_⟩
    · cases z : fg p with
      | none => rfl
      | some u => have := (r.frn p u z).1; rw [h2] at this; cases this
    · obtain ⟨b, d', s1, w, f, ow, _⟩ := (r.cell i c q).at_ o
      rw [s] at s1; cases s1
      obtain ⟨u, hu⟩ := ow.some
      rw [h2] at hu; cases hu
  | bw i => exact h.elim
def OpD (K : PySem.W.Frag) (r : R2) (f : D → D → Option Val) : Prop := ∀ W H x y d1 d2 a (Q : VK), Sub W H → RepO K W H x d1 → RepO K W H y d2 → f d1 d2 = some a →
  (∀ W' H' v, Step W H W' H' → NewV K W' H H' v a → Q v H') → r x y H Q
def m2 (f : D → D → Option Val) (ma mb : M Val) : M Val := M.bind ma fun a => M.bind mb fun b => fun e => M.lift (match look e (hold a), look e b with
  | some d1, some d2 => f d1 d2
  | _, _ => none) e
theorem two_ok {f : D → D → Option Val} {K : PySem.W.Frag} {r : R2} (ho : OpD K r f) {fg : Hp} {la : Nat → Addr} {W H : Hp} {σ : L2.St} {e : Env} {x y : V} {a b : Val} {Q : VK} {ok : Hp → Hp → Env → Val → Prop}
    (rl : Rel K fg la W H σ e) (ha : ValOk K fg W H σ e x (hold a)) (hb : ValOk K fg W H σ e y b) {c : Val} (hc : (match look e (hold a), look e b with
  | some d1, some d2 => f d1 d2
  | _, _ => none) = some c) (k : ∀ W' H' v, Sub W W' → Rel K fg la W' H' σ e → ValOk K fg W' H' σ e v c → Q v H') : r x y H Q := by
  cases q1 : look e (hold a) with
  | none => rw [q1] at hc; cases hc
  | some d1 =>
    cases q2 : look e b with
    | none => rw [q1, q2] at hc; cases hc
    | some d2 =>
      rw [q1, q2] at hc
      exact ho W H x y d1 d2 c Q rl.sub (look_ok rl ha q1) (look_ok rl hb q2) hc fun W' H' v t nv => k W' H' v t.w (rl.step t) (nv.ok rl t)
/-- the two operands, then the operation: the reading -/
theorem rd2 {f : D → D → Option Val} {r : R2} (ho : OpD X.K r f) {ma mb : M Val} {σ : L2.St} {H : Hp} {Q : VK} (h : rdE X Wx (m2 f ma mb) σ H Q) : tOp r (rdE X Wx ma) (rdE X Wx mb) σ H Q := by
  obtain ⟨fg, la, W, e, rl, h⟩ := h
  refine ⟨fg, la, W, e, rl, (Post.bind h).mono fun W1 H1 e1 a s1 r1 h1 x hx => ?_⟩
  obtain ⟨W2, s2, r2, hx2⟩ := hold_ok r1 hx
  refine ⟨fg, la, W2, e1, r2, ((Post.bind h1).wider s2).mono fun W3 H3 e3 b s3 r3 h3 y hy => ?_⟩
  obtain ⟨c, hc, k⟩ := Post.lift (ok := fun W' H' e' a => ∀ v, ValOk X.K fg W' H' σ e' v a → Q v H') h3 r3
  have h3' := h3
  have e3' : ∀ W' H', Sub W3 W' → Rel X.K fg la W' H' σ e3 → ∀ v, ValOk X.K fg W' H' σ e3 v c → Q v H' := fun W' H' s r => by
    have z := h3
    unfold M.lift at z
    rw [hc] at z
    exact z W' H' s r
  exact two_ok (ok := fun _ _ _ _ => True) ho r3 (held_mono hx2 s3) hy hc fun W' H' v s r hv => e3' W' H' s r v hv
theorem d_bin {op : Operator} {r : R2} {f : D → D → Option Val} {a b : Expr} {ma mb : M Val} {pos : Pos} (ho : OpR X (binaryOp op) r) (hd : OpD X.K r f) (ha : DE X Wx a ma) (hb : DE X Wx b mb) : DE X Wx (.BinOp a op b pos) (m2 f ma mb) :=
  PE.wk (pe_op ho ha hb) fun _ _ _ h => rd2 hd h
theorem d_cmp {op : CmpOp} {r : R2} {f : D → D → Option Val} {a b : Expr} {ma mb : M Val} {pos : Pos} (ho : OpR X (compareOp op) r) (hd : OpD X.K r f) (ha : DE X Wx a ma) (hb : DE X Wx b mb) (hm : behindInMarks op b = false) : DE X Wx (.Compare a [op] [b] pos) (m2 f ma mb) :=
  PE.wk (pe_cmpR ho ha hb hm) fun _ _ _ h => rd2 hd h
def UnD (K : PySem.W.Frag) (r : V → Hp → VK → Prop) (f : D → Option Val) : Prop := ∀ W H x d a (Q : VK), Sub W H → RepO K W H x d → f d = some a → (∀ W' H' v, Step W H W' H' → NewV K W' H H' v a → Q v H') → r x H Q
def m1 (f : D → Option Val) (ma : M Val) : M Val := M.bind ma fun a e => M.lift ((look e a).bind f) e
theorem rd1 {f : D → Option Val} {r : V → Hp → VK → Prop} (ho : UnD X.K r f) {ma : M Val} {σ : L2.St} {H : Hp} {Q : VK} (h : rdE X Wx (m1 f ma) σ H Q) : tUn r (rdE X Wx ma) σ H Q := by
  obtain ⟨fg, la, W, e, rl, h⟩ := h
  refine ⟨fg, la, W, e, rl, (Post.bind h).mono fun W1 H1 e1 a s1 r1 h1 x hx => ?_⟩
  cases q : look e1 a with
  | none => rw [q] at h1; exact (show False from h1).elim
  | some d =>
    rw [q] at h1
    cases q2 : f d with
    | none => rw [Option.bind_some, q2] at h1; exact (show False from h1).elim
    | some c =>
      rw [Option.bind_some, q2] at h1
      exact ho W1 H1 x d c Q r1.sub (look_ok r1 hx q) q2 fun W' H' v t nv => h1 W' H' t.w (r1.step t) v (nv.ok r1 t)
theorem d_un {op : UnaryOp} {r : V → Hp → VK → Prop} {f : D → Option Val} {a : Expr} {ma : M Val} {pos : Pos} (ho : UnR X (unaryOp op) r) (hd : UnD X.K r f) (ha : DE X Wx a ma) : DE X Wx (.UnaryOp op a pos) (m1 f ma) :=
  PE.wk (pe_un ho ha) fun _ _ _ h => rd1 hd h
end
end VS

/-! VC: tests, and, or, not, if-expressions, arguments, displays, subscripts, slices, calls of built-ins. -/
namespace VS
open PySem PySem.Spec PyProof.Rows L2
section
variable {X : Cx} {Wx : WX}

/-! ### tests -/
def dTru : D → Option Bool
  | .non => some false
  | .bl b => some b
  | .int i => some (i != 0)
  | .str x => if x.length ≤ sizeLine then some ((x.length : Int) != 0) else none
  | .lst xs => some !xs.isEmpty
  | .tup xs => some !xs.isEmpty
  | .fl xs => some !xs.isEmpty
  | _ => none
theorem Reps.isEmpty {K : PySem.W.Frag} {H : Hp} {vs : List V} {ds : List D} (h : Reps K H vs ds) : (!vs.isEmpty) = !ds.isEmpty := by cases h <;> rfl
theorem truV_of {K : PySem.W.Frag} {H : Hp} {v : V} {d : D} {k : Bool} (h : Rep K H v d) (e : dTru d = some k) : TruV K v H k := by
  cases h with
  | non => cases e; rfl
  | bl b => cases e; rfl
  | int i => cases e; rfl
  | str x =>
    unfold dTru at e
    simp only at e
    split at e
    · cases e; exact ⟨by assumption, rfl⟩
    · cases e
  | lst h r => cases e; exact .inl ⟨_, SqL.of h, r.isEmpty.symm⟩
  | tup h r => cases e; exact .inr (.inl ⟨_, SqT.of h, r.isEmpty.symm⟩)
  | fl h r => cases e; exact .inl ⟨_, h, r.isEmpty.symm⟩
  | dK h r => cases e
  | dT h r => cases e
  | op v => cases e
def mTru (m : M Val) : M Bool := M.bind m fun a e => M.lift ((look e a).bind dTru) e
theorem dt_truth {e : Expr} {m : M Val} (ha : DE X Wx e m) (he : ∀ whole, isTrue e X.env whole = (do let v ← whole; standAt e.pos; holding [v] (truthy v)) := by intro _; rfl) : DT X Wx e (mTru m) :=
  PT.wk (pt_truth ha he) (by
    rintro σ H Q ⟨fg, la, W, e, rl, h⟩
    refine ⟨fg, la, W, e, rl, (Post.bind h).mono fun W1 H1 e1 a s1 r1 h1 x hx => ?_⟩
    obtain ⟨k, hk, q⟩ := Post.lift h1 r1
    cases z : look e1 a with
    | none => rw [z] at hk; cases hk
    | some d =>
      rw [z] at hk
      exact ⟨k, truV_of ((look_ok r1 hx z).rep r1.sub) hk, q⟩)
/-- a value that is a truth value -/
def mB (m : M Val) : M Bool := M.bind m fun a e => match a with
  | .sh (.bl b) => .ok b e
  | _ => .no
theorem rd_mB {m : M Val} {σ : L2.St} {H : Hp} {Q : Bool → Hp → Prop} (h : rdT X Wx (mB m) σ H Q) : rdE X Wx m σ H (fun x H' => ∃ k, x = .bl k ∧ Q k H') := by
  obtain ⟨fg, la, W, e, rl, h⟩ := h
  refine ⟨fg, la, W, e, rl, (Post.bind h).mono fun W1 H1 e1 a s1 r1 h1 x hx => ?_⟩
  cases a with
  | sh d =>
    cases d with
    | bl b =>
      cases (show Rep X.K W1 x (.bl b) from hx)
      exact ⟨b, rfl, Post.here h1 r1⟩
    | _ => exact (show False from h1).elim
  | _ => exact (show False from h1).elim
theorem dt_cmp {op : CmpOp} {r : R2} {f : D → D → Option Val} {a b : Expr} {ma mb : M Val} {pos : Pos} (ho : OpR X (compareOp op) r) (hd : OpD X.K r f) (ha : DE X Wx a ma) (hb : DE X Wx b mb) (hm : behindInMarks op b = false) : DT X Wx (.Compare a [op] [b] pos) (mB (m2 f ma mb)) :=
  PT.wk (pt_cmpR ho ha hb hm) fun _ _ _ h => rd2 hd (rd_mB h)
def mNot (m : M Bool) : M Bool := M.bind m fun b => M.ret !b
theorem dt_not {a : Expr} {m : M Bool} {pos : Pos} (ha : DT X Wx a m) : DT X Wx (.UnaryOp .Not a pos) (mNot m) := PT.wk (pt_not ha) (by
  rintro σ H Q ⟨fg, la, W, e, rl, h⟩
  exact ⟨fg, la, W, e, rl, (Post.bind h).mono fun W1 H1 e1 a s1 r1 h1 => Post.here h1 r1⟩)
def mAnd (m n : M Bool) : M Bool := M.bind m fun b => if b then n else M.ret false
def mOr (m n : M Bool) : M Bool := M.bind m fun b => if b then M.ret true else n
def DW (X : Cx) (Wx : WX) (e : Expr) (m : M Bool) : Prop := PW X e (rdT X Wx m)
theorem dw_and1 {a : Expr} {m : M Bool} {pos : Pos} (ha : DT X Wx a m) : DW X Wx (.BoolOp .And [a] pos) m := pw_and1 ha
theorem dw_or1 {a : Expr} {m : M Bool} {pos : Pos} (ha : DT X Wx a m) : DW X Wx (.BoolOp .Or [a] pos) m := pw_or1 ha
theorem dw_and {a b : Expr} {rest : List Expr} {m n : M Bool} {pos : Pos} (ha : DT X Wx a m) (hb : DW X Wx (.BoolOp .And (b :: rest) pos) n) : DW X Wx (.BoolOp .And (a :: b :: rest) pos) (mAnd m n) := PW.wk (pw_and ha hb) (by
  rintro σ H Q ⟨fg, la, W, e, rl, h⟩
  refine ⟨fg, la, W, e, rl, (Post.bind h).mono fun W1 H1 e1 a s1 r1 h1 => ?_⟩
  cases a with
  | true => exact ⟨fg, la, W1, e1, r1, h1⟩
  | false => exact Post.here h1 r1)
theorem dw_or {a b : Expr} {rest : List Expr} {m n : M Bool} {pos : Pos} (ha : DT X Wx a m) (hb : DW X Wx (.BoolOp .Or (b :: rest) pos) n) : DW X Wx (.BoolOp .Or (a :: b :: rest) pos) (mOr m n) := PW.wk (pw_or ha hb) (by
  rintro σ H Q ⟨fg, la, W, e, rl, h⟩
  refine ⟨fg, la, W, e, rl, (Post.bind h).mono fun W1 H1 e1 a s1 r1 h1 => ?_⟩
  cases a with
  | true => exact Post.here h1 r1
  | false => exact ⟨fg, la, W1, e1, r1, h1⟩)
theorem dt_w {e : Expr} {m : M Bool} (h : DW X Wx e m) : DT X Wx e m := PW.pt h

/-! ### the same as values -/
def mBv (m : M Bool) : M Val := M.bind m fun b => M.ret (.sh (.bl b))
theorem de_one {op} {a : Expr} {m : M Val} {pos : Pos} (h : DE X Wx a m) : DE X Wx (.BoolOp op [a] pos) m := pe_one h
def mAndV (m n : M Val) : M Val := M.bind (mB m) fun b => if b then n else mC (.bl false)
def mOrV (m n : M Val) : M Val := M.bind (mB m) fun b => if b then mC (.bl true) else n
theorem rd_bindB {m : M Val} {f : Bool → M Val} {σ : L2.St} {H : Hp} {Q : VK} (h : rdE X Wx (M.bind (mB m) f) σ H Q) : rdE X Wx m σ H (fun x H' => ∃ k, x = .bl k ∧ rdE X Wx (f k) σ H' Q) := by
  obtain ⟨fg, la, W, e, rl, h⟩ := h
  exact rd_mB ⟨fg, la, W, e, rl, (Post.bind h).mono fun W1 H1 e1 b s1 r1 h1 => ⟨fg, la, W1, e1, r1, h1⟩⟩
theorem de_and {a b : Expr} {rest : List Expr} {m n : M Val} {pos : Pos} (ha : DE X Wx a m) (hb : DE X Wx (.BoolOp .And (b :: rest) pos) n) : DE X Wx (.BoolOp .And (a :: b :: rest) pos) (mAndV m n) := PE.wk (pe_and ha hb) (by
  intro σ H Q h
  obtain ⟨fg, la, W, e, rl, z⟩ := rd_bindB h
  refine ⟨fg, la, W, e, rl, z.mono fun W1 H1 e1 a s1 r1 h1 x hx => ?_⟩
  obtain ⟨k, rfl, q⟩ := h1 x hx
  refine ⟨k, rfl, ?_⟩
  cases k with
  | true => exact q
  | false =>
    obtain ⟨fg', la', W', e', rl', q⟩ := q
    exact Post.here q rl' _ (.bl false))
theorem de_or {a b : Expr} {rest : List Expr} {m n : M Val} {pos : Pos} (ha : DE X Wx a m) (hb : DE X Wx (.BoolOp .Or (b :: rest) pos) n) : DE X Wx (.BoolOp .Or (a :: b :: rest) pos) (mOrV m n) := PE.wk (pe_or ha hb) (by
  intro σ H Q h
  obtain ⟨fg, la, W, e, rl, z⟩ := rd_bindB h
  refine ⟨fg, la, W, e, rl, z.mono fun W1 H1 e1 a s1 r1 h1 x hx => ?_⟩
  obtain ⟨k, rfl, q⟩ := h1 x hx
  refine ⟨k, rfl, ?_⟩
  cases k with
  | false => exact q
  | true =>
    obtain ⟨fg', la', W', e', rl', q⟩ := q
    exact Post.here q rl' _ (.bl true))
theorem de_not {a : Expr} {m : M Val} {pos : Pos} (ha : DE X Wx a m) : DE X Wx (.UnaryOp .Not a pos) (mBv (mNot (mB m))) := PE.wk (pe_not ha) (by
  rintro σ H Q ⟨fg, la, W, e, rl, h⟩
  refine rd_mB ⟨fg, la, W, e, rl, (Post.bind (Post.bind h)).mono fun W1 H1 e1 b s1 r1 h1 => ?_⟩
  exact Post.here (Post.here h1 r1) r1 _ (.bl _))
def mIf (c : M Bool) (m n : M Val) : M Val := M.bind c fun b => if b then m else n
theorem de_if {c a b : Expr} {mc : M Bool} {m n : M Val} {pos : Pos} (hc : DT X Wx c mc) (ha : DE X Wx a m) (hb : DE X Wx b n) : DE X Wx (.IfExp c a b pos) (mIf mc m n) := PE.wk (pe_ifExp hc ha hb) (by
  rintro σ H Q ⟨fg, la, W, e, rl, h⟩
  refine ⟨fg, la, W, e, rl, (Post.bind h).mono fun W1 H1 e1 b s1 r1 h1 => ?_⟩
  cases b with
  | true => exact ⟨fg, la, W1, e1, r1, h1⟩
  | false => exact ⟨fg, la, W1, e1, r1, h1⟩)
def mChain (f g : D → D → Option Val) (ma mb mc : M Val) : M Val := M.bind ma fun a => M.bind mb fun b => M.bind (mB fun e => M.lift (match look e (hold a), look e (hold b) with
  | some d1, some d2 => f d1 d2
  | _, _ => none) e) fun k => if k then M.bind mc (fun c e => M.lift (match look e (hold b), look e c with
  | some d1, some d2 => g d1 d2
  | _, _ => none) e) else mC (.bl false)
theorem rd_chain {r r' : R2} {f g : D → D → Option Val} (hf : OpD X.K r f) (hg : OpD X.K r' g) {ma mb mc : M Val} {σ : L2.St} {H : Hp} {Q : VK} (h : rdE X Wx (mChain f g ma mb mc) σ H Q) : tChain r r' (rdE X Wx ma) (rdE X Wx mb) (rdE X Wx mc) σ H Q := by
  obtain ⟨fg, la, W, e, rl, h⟩ := h
  refine ⟨fg, la, W, e, rl, (Post.bind h).mono fun W1 H1 e1 a s1 r1 h1 x hx => ?_⟩
  obtain ⟨W2, s2, r2, hx2⟩ := hold_ok r1 hx
  refine ⟨fg, la, W2, e1, r2, ((Post.bind h1).wider s2).mono fun W3 H3 e3 b s3 r3 h3 y hy => ?_⟩
  obtain ⟨W4, s4, r4, hy4⟩ := hold_ok r3 hy
  have h4 := (Post.bind h3).wider s4
  have hx4 := held_mono (H' := H3) (e' := e3) hx2 (s3.trans s4)
  cases q1 : look e3 (hold a) with
  | none => simp only [mB, M.bind, M.lift, q1] at h4; exact (show False from h4).elim
  | some d1 =>
    cases q2 : look e3 (hold b) with
    | none => simp only [mB, M.bind, M.lift, q1, q2] at h4; exact (show False from h4).elim
    | some d2 =>
      simp only [mB, M.bind, M.lift, q1, q2] at h4
      cases q3 : f d1 d2 with
      | none => rw [q3] at h4; exact (show False from h4).elim
      | some c =>
        rw [q3] at h4
        cases c with
        | sh d =>
          cases d with
          | bl k =>
            refine hf W4 H3 x y d1 d2 _ _ r4.sub (look_ok r4 hx4 q1) (look_ok r4 hy4 q2) q3 fun W5 H5 v t nv => ?_
            cases (show Rep X.K W5 v (.bl k) from nv)
            refine ⟨k, rfl, ?_⟩
            have h5 := h4 W5 H5 t.w (r4.step t)
            cases k with
            | false => exact Post.here h5 (r4.step t) _ (.bl false)
            | true =>
              refine ⟨fg, la, W5, e3, r4.step t, (Post.bind h5).mono fun W6 H6 e6 c s6 r6 h6 z hz => ?_⟩
              have hy6 := held_mono (H' := H6) (e' := e6) hy4 (t.w.trans s6)
              cases p1 : look e6 (hold b) with
              | none => simp only [M.lift, p1] at h6; exact (show False from h6).elim
              | some g1 =>
                cases p2 : look e6 c with
                | none => simp only [M.lift, p1, p2] at h6; exact (show False from h6).elim
                | some g2 =>
                  simp only [M.lift, p1, p2] at h6
                  cases p3 : g g1 g2 with
                  | none => rw [p3] at h6; exact (show False from h6).elim
                  | some w =>
                    rw [p3] at h6
                    exact hg W6 H6 y z g1 g2 w _ r6.sub (look_ok r6 hy6 p1) (look_ok r6 hz p2) p3 fun W7 H7 v t nv => h6 W7 H7 t.w (r6.step t) v (nv.ok r6 t)
          | _ => exact (show False from h4).elim
        | _ => exact (show False from h4).elim
theorem de_chain {op op' : CmpOp} {r r' : R2} {f g : D → D → Option Val} {a b c : Expr} {ma mb mc : M Val} {pos : Pos} (ho : OpR X (compareOp op) r) (ho' : OpR X (compareOp op') r') (hf : OpD X.K r f) (hg : OpD X.K r' g) (ha : DE X Wx a ma) (hb : DE X Wx b mb) (hc : DE X Wx c mc)
    (hm : lastMarks [op, op'] [b, c] = false := by with_unfolding_all rfl) : DE X Wx (.Compare a [op, op'] [b, c] pos) (mChain f g ma mb mc) :=
  PE.wk (pe_chain ho ho' ha hb hc hm) fun _ _ _ h => rd_chain hf hg h
theorem dt_chain {op op' : CmpOp} {r r' : R2} {f g : D → D → Option Val} {a b c : Expr} {ma mb mc : M Val} {pos : Pos} (ho : OpR X (compareOp op) r) (ho' : OpR X (compareOp op') r') (hf : OpD X.K r f) (hg : OpD X.K r' g) (ha : DE X Wx a ma) (hb : DE X Wx b mb) (hc : DE X Wx c mc)
    (hm : lastMarks [op, op'] [b, c] = false := by with_unfolding_all rfl) : DT X Wx (.Compare a [op, op'] [b, c] pos) (mB (mChain f g ma mb mc)) :=
  PT.wk (pt_chain ho ho' ha hb hc hm) fun _ _ _ h => rd_chain hf hg (rd_mB h)
end
end VS

/-! VD: arguments, displays, calls of built-ins, subscripts, slices. -/
namespace VS
open PySem PySem.Spec PyProof.Rows L2

section
variable {K : PySem.W.Frag} {fg fg' : Hp} {la : Nat → Addr} {W W' H H' : Hp} {σ : L2.St} {e e' : Env}
/-- an owned object that no cell owns is foreign for a while -/
theorem Rel.keep {p : Addr} {o : HO} (r : Rel K fg la W H σ e) (h : H p = some o) (w : W p = none) (n : ∀ (i : Nat) c, e[i]? = some c → c.own = true → σ[i]? ≠ some (some (V.ref p))) : Rel K (upd fg p o) la W H σ e where
  sub := r.sub
  frn := fun a u q => by
    by_cases z : a = p
    · subst z; rw [upd_same] at q; cases q; exact ⟨h, fun _ => w⟩
    · rw [upd_ne z] at q; exact r.frn a u q
  len := r.len
  cell := fun i c q => by
    have k := r.cell i c q
    cases c with
    | un => trivial
    | sh d => exact k
    | ow d =>
      obtain ⟨b, h1, h2, h3, h4⟩ := k
      refine ⟨b, h1, h2, ?_, h4⟩
      rw [upd_ne (fun z => n i _ q rfl (by rw [h1, z]))]
      exact h3
    | ln d =>
      obtain ⟨h1, h2, h3, h4⟩ := k
      refine ⟨h1, h2, ?_, h4⟩
      rw [upd_ne (fun z => n i _ q rfl (by rw [h1, z]))]
      exact h3
  apart := r.apart
theorem Rel.less (r : Rel K fg' la W H σ e) (s : Sub fg fg') : Rel K fg la W H σ e where
  sub := r.sub
  frn := fun a u q => r.frn a u (s a u q)
  len := r.len
  cell := fun i c q => by
    have k := r.cell i c q
    cases c with
    | un => trivial
    | sh d => exact k
    | ow d => obtain ⟨b, h1, h2, h3, h4⟩ := k; exact ⟨b, h1, h2, s.none h3, h4⟩
    | ln d => obtain ⟨h1, h2, h3, h4⟩ := k; exact ⟨h1, h2, s.none h3, h4⟩
  apart := r.apart
theorem ValOk.less {v : V} {a : Val} (h : ValOk K fg' W H σ e v a) (s : Sub fg fg') : ValOk K fg W H σ e v a := by
  cases a with
  | sh d => exact h
  | bw i => exact h
  | ow d => obtain ⟨p, h1, h2, h3, h4⟩ := h; exact ⟨p, h1, h2, s.none h3, h4⟩
theorem ValsOk.less (s : Sub fg fg') : ∀ {vs : List V} {as : List Val}, ValsOk K fg' W H σ e vs as → ValsOk K fg W H σ e vs as
  | [], [], h => h
  | _ :: _, _ :: _, h => ⟨h.1.less s, ValsOk.less s h.2.1, h.2.2⟩
  | [], _ :: _, h => h.elim
  | _ :: _, [], h => h.elim
theorem ValsOk.at_ : ∀ {vs : List V} {as : List Val} (j : Nat) {a : Val}, ValsOk K fg W H σ e vs as → as[j]? = some a → ∃ v, vs[j]? = some v ∧ ValOk K fg W H σ e v a
  | [], [], _, _, _, q => by simp at q
  | v :: _, b :: _, 0, a, h, q => by simp at q; subst q; exact ⟨v, rfl, h.1⟩
  | _ :: vs, _ :: as, j + 1, a, h, q => by
    obtain ⟨v, h1, h2⟩ := ValsOk.at_ (vs := vs) (as := as) j (a := a) h.2.1 (by simpa using q)
    exact ⟨v, by simpa using h1, h2⟩
  | [], _ :: _, _, _, h, _ => h.elim
  | _ :: _, [], _, _, h, _ => h.elim
theorem ValsOk.length : ∀ {vs : List V} {as : List Val}, ValsOk K fg W H σ e vs as → vs.length = as.length
  | [], [], _ => rfl
  | _ :: vs, _ :: as, h => by rw [List.length_cons, List.length_cons, ValsOk.length (vs := vs) (as := as) h.2.1]
  | [], _ :: _, h => h.elim
  | _ :: _, [], h => h.elim

/-- esc_ok, with what is shared anew -/
theorem esc_ok' {v : V} {a : Val} {d : D} (r : Rel K fg la W H σ e) (h : ValOk K fg W H σ e v a) (l : esc e a = some (d, e')) :
    ∃ W', Sub W W' ∧ Rel K fg la W' H σ e' ∧ Rep K W' v d ∧ (∀ q, W q = none → W' q = none ∨ (v = .ref q ∧ (a.isOw = true ∨ ∃ (i : Nat) (c : Cell), e[i]? = some c ∧ c.own = true ∧ σ[i]? = some (some v)))) ∧
      (∀ (i : Nat) c, e'[i]? = some c → c.own = true → e[i]? = some c) := by
  cases a with
  | sh d' => cases l; exact ⟨W, .refl _, r, h, fun _ z => .inl z, fun _ _ z _ => z⟩
  | ow d' =>
    cases l
    obtain ⟨p, rfl, h2, h3, h4, h5⟩ := h
    obtain ⟨o, ho⟩ := h4.some
    have sw : Sub W (upd W p o) := .new h2
    refine ⟨_, sw, r.share ho h2 h3 h5, h4.rep sw fun u hu => by rw [ho] at hu; cases hu; exact upd_same, fun q z => ?_, fun _ _ z _ => z⟩
    by_cases w : q = p
    · exact .inr ⟨by rw [w], .inl rfl⟩
    · exact .inl (by rw [upd_ne w]; exact z)
  | bw i =>
    have hv : σ[i]? = some (some v) := h
    unfold esc at l
    simp only at l
    split at l
    · rename_i d' q
      cases l
      obtain ⟨u, h1, h2⟩ := r.cell i _ q
      rw [hv] at h1; cases h1
      exact ⟨W, .refl _, r, h2, fun _ z => .inl z, fun _ _ z _ => z⟩
    · rename_i d' q
      cases l
      obtain ⟨p, o, s1, ho, w, rp, r'⟩ := r.shareAt q
      rw [hv] at s1; cases s1
      refine ⟨_, .new w, r', rp, fun x z => ?_, fun j c z o => ?_⟩
      · by_cases w : x = p
        · exact .inr ⟨by rw [w], .inr ⟨i, _, q, rfl, hv⟩⟩
        · exact .inl (by rw [upd_ne w]; exact z)
      · by_cases y : i = j
        · subst y
          rw [List.getElem?_set_self (List.getElem?_eq_some_iff.mp q).1] at z
          cases z
          cases o
        · rw [List.getElem?_set_ne y] at z; exact z
    · cases l
/-- the values that come later stay so -/
theorem ValsOk.after_esc {v : V} {a : Val} {W1 : Hp} {e1 : Env} (sw : Sub W W1) (n : ∀ q, W q = none → W1 q = none ∨ (v = .ref q ∧ (a.isOw = true ∨ ∃ (i : Nat) (c : Cell), e[i]? = some c ∧ c.own = true ∧ σ[i]? = some (some v))))
    (oc : ∀ (i : Nat) c, e1[i]? = some c → c.own = true → e[i]? = some c) :
    ∀ {vs : List V} {as : List Val}, ValsOk K fg W H σ e vs as → (a.isOw = true → ∀ (j : Nat) b, as[j]? = some b → b.isOw = true → vs[j]? ≠ some v) → ValsOk K fg W1 H σ e1 vs as
  | [], [], h, _ => h
  | u :: vs, b :: as, h, k => by
    refine ⟨?_, ValsOk.after_esc sw n oc h.2.1 fun oa j c q o => by simpa using k oa (j + 1) c (by simpa using q) o, h.2.2⟩
    cases b with
    | sh d => exact Rep.mono sw h.1
    | bw i => exact h.1
    | ow d =>
      obtain ⟨p, rfl, h2, h3, h4, h5⟩ := h.1
      refine ⟨p, rfl, ?_, h3, h4.mono sw fun _ z => z, fun i c q o => h5 i c (oc i c q o) o⟩
      rcases n p h2 with z | ⟨z, oa | ⟨i, c, q, o, s⟩⟩
      · exact z
      · exact absurd (by rw [z]; rfl) (k oa 0 (.ow d) rfl rfl)
      · rw [z] at s
        exact absurd s (h5 i c q o)
  | [], _ :: _, h, _ => h.elim
  | _ :: _, [], h, _ => h.elim
end
def escs : Env → List Val → Option (List D × Env)
  | e, [] => some ([], e)
  | e, a :: as => match esc e a with
    | none => none
    | some (d, e1) => match escs e1 as with
      | none => none
      | some (ds, e2) => some (d :: ds, e2)
section
variable {K : PySem.W.Frag} {fg fg' : Hp} {la : Nat → Addr} {H H' : Hp} {σ : L2.St}
theorem escs_ok : ∀ {as : List Val} {vs : List V} {W : Hp} {e e' : Env} {ds : List D}, Rel K fg la W H σ e → ValsOk K fg W H σ e vs as → escs e as = some (ds, e') → ∃ W', Sub W W' ∧ Rel K fg la W' H σ e' ∧ Reps K W' vs ds
  | [], [], W, e, e', ds, r, _, l => by cases l; exact ⟨W, .refl _, r, .nil⟩
  | a :: as, v :: vs, W, e, e', ds, r, h, l => by
    unfold escs at l
    cases q : esc e a with
    | none => rw [q] at l; cases l
    | some p =>
      obtain ⟨d, e1⟩ := p
      rw [q] at l
      simp only at l
      cases q2 : escs e1 as with
      | none => rw [q2] at l; cases l
      | some p2 =>
        obtain ⟨ds2, e2⟩ := p2
        rw [q2] at l
        cases l
        obtain ⟨W1, s1, r1, rp, n, oc⟩ := esc_ok' r h.1 q
        obtain ⟨W2, s2, r2, rps⟩ := escs_ok r1 (h.2.1.after_esc s1 n oc h.2.2) q2
        exact ⟨W2, s1.trans s2, r2, .cons (rp.mono s2) rps⟩
  | [], _ :: _, _, _, _, _, _, h, _ => h.elim
  | _ :: _, [], _, _, _, _, _, h, _ => h.elim
end
def looks (e : Env) : List Val → Option (List D)
  | [] => some []
  | a :: as => match look e a, looks e as with
    | some d, some ds => some (d :: ds)
    | _, _ => none
inductive RepOs (K : PySem.W.Frag) (W H : Hp) : List V → List D → Prop
  | nil : RepOs K W H [] []
  | cons {v : V} {vs : List V} {d : D} {ds : List D} : RepO K W H v d → RepOs K W H vs ds → RepOs K W H (v :: vs) (d :: ds)
section
variable {K : PySem.W.Frag} {fg : Hp} {la : Nat → Addr} {W H : Hp} {σ : L2.St} {e : Env}
theorem looks_ok (r : Rel K fg la W H σ e) : ∀ {as : List Val} {vs : List V} {ds : List D}, ValsOk K fg W H σ e vs as → looks e as = some ds → RepOs K W H vs ds
  | [], [], ds, _, l => by cases l; exact .nil
  | a :: as, v :: vs, ds, h, l => by
    unfold looks at l
    cases q : look e a with
    | none => rw [q] at l; cases l
    | some d =>
      cases q2 : looks e as with
      | none => rw [q, q2] at l; cases l
      | some ds2 =>
        rw [q, q2] at l
        cases l
        exact .cons (look_ok r h.1 q) (looks_ok r h.2.1 q2)
  | [], _ :: _, _, h, _ => h.elim
  | _ :: _, [], _, h, _ => h.elim
end

section
variable {X : Cx} {Wx : WX}
theorem Post.fg {α : Type} {fg fg' : Hp} {la : Nat → Addr} {W : Hp} {σ : L2.St} {ok : Hp → Hp → Env → α → Prop} {r : R α} (h : Post X Wx fg la W σ ok r) (s : Sub fg fg') : Post X Wx fg' la W σ ok r := by
  cases r with
  | ok a e' => exact fun W1 H1 s1 r1 => h W1 H1 s1 (r1.less s)
  | ex x e' => exact fun W1 H1 cls d s1 r1 z => h W1 H1 cls d s1 (r1.less s) z
  | no => exact h
/-! ### arguments -/
def mNil : M (List Val) := M.ret []
def mCons (m : M Val) (n : M (List Val)) : M (List Val) := M.bind m fun a => M.bind n fun as => M.ret (a :: as)
theorem da_nil : DA X Wx [] mNil := PA.wk pa_nil (by
  rintro σ H Q ⟨fg, la, W, e, rl, h⟩
  exact Post.here h rl [] trivial)
theorem da_cons {e : Expr} {es : List Expr} {m : M Val} {n : M (List Val)} (ha : DE X Wx e m) (hr : DA X Wx es n) (hs : starEach (e :: es) X.env = (false, eval e X.env) :: starEach es X.env := by rfl) : DA X Wx (e :: es) (mCons m n) :=
  PA.wk (pa_cons ha hr hs) (by
    rintro σ H Q ⟨fg, la, W, e, rl, h⟩
    refine ⟨fg, la, W, e, rl, (Post.bind h).mono fun W1 H1 e1 a s1 r1 h1 x hx => ?_⟩
    have fin : ∀ fg2, Sub fg fg2 → Rel X.K fg2 la W1 H1 σ e1 → (∀ W2 H2 e2, Sub W1 W2 → Rel X.K fg2 la W2 H2 σ e2 → ValOk X.K fg W2 H2 σ e2 x a ∧ (a.isOw = true → ∃ p o, x = .ref p ∧ fg2 p = some o)) →
        rdA X Wx n σ H1 fun xs H2 => Q (x :: xs) H2 := fun fg2 sf r2 k => by
      refine ⟨fg2, la, W1, e1, r2, ((Post.bind h1).fg sf).mono fun W3 H3 e3 as s3 r3 h3 vs hv => ?_⟩
      obtain ⟨k1, k2⟩ := k W3 H3 e3 s3 r3
      refine Post.here h3 (r3.less sf) _ ⟨k1, hv.less sf, fun oa j b qb ob z => ?_⟩
      obtain ⟨p, o, rfl, hp⟩ := k2 oa
      obtain ⟨u, hu, vk⟩ := ValsOk.at_ j hv qb
      rw [z] at hu; cases hu
      cases b with
      | ow d =>
        obtain ⟨p', e', h2, h3, _⟩ := vk
        cases e'
        rw [hp] at h3; cases h3
      | _ => cases ob
    cases a with
    | sh d => exact fin fg (.refl _) r1 fun W2 H2 e2 s2 r2 => ⟨Rep.mono s2 hx, fun z => nomatch z⟩
    | bw i => exact fin fg (.refl _) r1 fun W2 H2 e2 s2 r2 => ⟨hx, fun z => nomatch z⟩
    | ow d =>
      obtain ⟨p, rfl, h2, h3, h4, h5⟩ := hx
      obtain ⟨o, ho⟩ := h4.some
      refine fin (upd fg p o) (.new h3) (r1.keep ho h2 h5) fun W2 H2 e2 s2 r2 => ⟨?_, fun _ => ⟨p, o, rfl, upd_same⟩⟩
      obtain ⟨k1, k2⟩ := r2.frn p o upd_same
      refine ⟨p, rfl, k2 (h4.nt ho), h3, h4.mono s2 fun u hu => by rw [ho] at hu; cases hu; exact k1, fun i c q oc z => ?_⟩
      obtain ⟨b, d', s', _, f', _⟩ := (r2.cell i c q).at_ oc
      rw [z] at s'; cases s'
      rw [upd_same] at f'; cases f')
/-! ### displays -/
def mTup (n : M (List Val)) : M Val := M.bind n fun as e => match escs e as with
  | some (ds, e') => if ds.length ≤ 1000 then .ok (.sh (.tup ds)) e' else .no
  | none => .no
def mLst (n : M (List Val)) : M Val := M.bind n fun as e => match escs e as with
  | some (ds, e') => if ds.length ≤ 1000 then .ok (.ow (.lst ds)) e' else .no
  | none => .no
theorem le1000 {n : Nat} (h : n ≤ 1000) : n ≤ sizeLine := Nat.le_of_lt (small1000 h)
theorem de_tup {es : List Expr} {n : M (List Val)} {x1} {pos : Pos} (h : DA X Wx es n) : DE X Wx (.Tuple es x1 pos) (mTup n) := PE.wk (pe_tup h) (by
  rintro σ H Q ⟨fg, la, W, e, rl, h⟩
  refine ⟨fg, la, W, e, rl, (Post.bind h).mono fun W1 H1 e1 as s1 r1 h1 vs hv => ?_⟩
  cases q : escs e1 as with
  | none => rw [q] at h1; exact (show False from h1).elim
  | some p =>
    obtain ⟨ds, e2⟩ := p
    rw [q] at h1
    simp only at h1
    obtain ⟨W2, s2, r2, rp⟩ := escs_ok r1 hv q
    by_cases hl : ds.length ≤ 1000
    · rw [if_pos hl] at h1
      refine ⟨by rw [rp.length]; exact le1000 hl, fun p hp => ?_⟩
      have t : Step W2 H1 (upd W2 p (.tup vs)) (upd H1 p (.tup vs)) := .new r2.sub hp
      exact h1 _ _ (s2.trans t.w) (r2.step t) _ (.tup upd_same (rp.mono t.w))
    · rw [if_neg hl] at h1; exact (show False from h1).elim)
theorem de_lst {es : List Expr} {n : M (List Val)} {pos : Pos} (h : DA X Wx es n) : DE X Wx (.List es pos) (mLst n) := PE.wk (pe_lst h) (by
  rintro σ H Q ⟨fg, la, W, e, rl, h⟩
  refine ⟨fg, la, W, e, rl, (Post.bind h).mono fun W1 H1 e1 as s1 r1 h1 vs hv => ?_⟩
  cases q : escs e1 as with
  | none => rw [q] at h1; exact (show False from h1).elim
  | some p =>
    obtain ⟨ds, e2⟩ := p
    rw [q] at h1
    simp only at h1
    obtain ⟨W2, s2, r2, rp⟩ := escs_ok r1 hv q
    by_cases hl : ds.length ≤ 1000
    · rw [if_pos hl] at h1
      refine ⟨by rw [rp.length]; exact le1000 hl, fun p hp => ?_⟩
      have t : Step W2 H1 W2 (upd H1 p (.lst vs)) := .newH r2.sub hp
      exact h1 _ _ s2 (r2.step t) _ (NewV.ok (H := H1) (W := W2) r2 t ⟨p, rfl, hp, r2.sub.none hp, vs, upd_same, rp⟩)
    · rw [if_neg hl] at h1; exact (show False from h1).elim)
/-! ### calls of built-ins -/
def CallD (K : PySem.W.Frag) (r : List V → Hp → VK → Prop) (f : List D → Option Val) : Prop := ∀ W H vs ds a (Q : VK), Sub W H → RepOs K W H vs ds → f ds = some a → (∀ W' H' v, Step W H W' H' → NewV K W' H H' v a → Q v H') → r vs H Q
def mCB (f : List D → Option Val) (n : M (List Val)) : M Val := M.bind n fun as e => M.lift ((looks e as).bind f) e
theorem rdCB {f : List D → Option Val} {r : List V → Hp → VK → Prop} (ho : CallD X.K r f) {n : M (List Val)} {σ : L2.St} {H : Hp} {Q : VK} (h : rdE X Wx (mCB f n) σ H Q) : tCB r (rdA X Wx n) σ H Q := by
  obtain ⟨fg, la, W, e, rl, h⟩ := h
  refine ⟨fg, la, W, e, rl, (Post.bind h).mono fun W1 H1 e1 as s1 r1 h1 vs hv => ?_⟩
  cases q : looks e1 as with
  | none => rw [q] at h1; exact (show False from h1).elim
  | some ds =>
    rw [q, Option.bind_some] at h1
    cases q2 : f ds with
    | none => rw [q2] at h1; exact (show False from h1).elim
    | some a =>
      rw [q2] at h1
      exact ho W1 H1 vs ds a Q r1.sub (looks_ok r1 hv q) q2 fun W' H' v t nv => h1 W' H' t.w (r1.step t) v (nv.ok r1 t)
theorem de_callB {f : List D → Option Val} {r : List V → Hp → VK → Prop} {id : String} {x : Str} {p pos : Pos} {e : Expr} {es : List Expr} {n : M (List Val)} (hc : CallR X (.builtin id) r) (hd : CallD X.K r f) (hg : Gl X x) (hm : X.mg x = none) (hv : bootBuiltins x = some (.builtin id)) (ha : DA X Wx (e :: es) n)
    (hn : x ≠ "__name__" := by decide) (hdb : (x == ("__debug__" : Str)) = false := by decide)
    (he : starEach (e :: es) X.env = (false, eval e X.env) :: starEach es X.env := by rfl) (hpl : (backTo pos (starEach es X.env)).any (·.1) = false := by rfl) : DE X Wx (.Call (.Name x p) (e :: es) [] pos) (mCB f n) :=
  PE.wk (pe_callB hc hg hm hv ha hn hdb he hpl) fun _ _ _ h => rdCB hd h
theorem de_callTy {f : List D → Option Val} {r : List V → Hp → VK → Prop} {T : String} {x : Str} {p pos : Pos} {e : Expr} {es : List Expr} {n : M (List Val)} (hc : CallR X (.type T) r) (hd : CallD X.K r f) (hg : Gl X x) (hm : X.mg x = none) (hv : bootBuiltins x = some (.type T)) (ha : DA X Wx (e :: es) n)
    (hn : x ≠ "__name__" := by decide) (hdb : (x == ("__debug__" : Str)) = false := by decide)
    (he : starEach (e :: es) X.env = (false, eval e X.env) :: starEach es X.env := by rfl) (hpl : (backTo pos (starEach es X.env)).any (·.1) = false := by rfl) : DE X Wx (.Call (.Name x p) (e :: es) [] pos) (mCB f n) :=
  PE.wk (pe_callTy hc hg hm hv ha hn hdb he hpl) fun _ _ _ h => rdCB hd h
theorem CallR.or {f : Value} {r r' : List V → Hp → VK → Prop} (h : CallR X f r) (h' : CallR X f r') : CallR X f (fun xs H Q => r xs H Q ∨ r' xs H Q) := by
  intro pins s σ H xs us Q I rx q
  rcases q with q | q
  · exact h pins s σ H xs us Q I rx q
  · exact h' pins s σ H xs us Q I rx q
/-! ### subscripts, slices -/
theorem de_ix {r : R2} {f : D → D → Option Val} {a b : Expr} {ma mb : M Val} {pos : Pos} (hr : IxR X r) (hd : OpD X.K r f) (ha : DE X Wx a ma) (hb : DE X Wx b mb) (hs : PlainIx b) : DE X Wx (.Subscript a b pos) (m2 f ma mb) :=
  PE.wk (pe_ix hr ha hb hs) fun _ _ _ h => rd2 hd h
/-- the ends of a slice: ints, or left out -/
def DO (X : Cx) (Wx : WX) (e : Option Expr) (m : Option (M Val)) : Prop := match e, m with
  | none, none => True
  | some e, some m => DE X Wx e m
  | _, _ => False
def mPart (m : Option (M Val)) : M (Option Int) := match m with
  | none => M.ret none
  | some m => M.bind m fun a e => match a with
    | .sh (.int i) => .ok (some i) e
    | _ => .no
def SlD (K : PySem.W.Frag) (r : V → Option Int → Option Int → Hp → VK → Prop) (f : D → Option Int → Option Int → Option Val) : Prop :=
  ∀ W H x d lo hi a (Q : VK), Sub W H → RepO K W H x d → f d lo hi = some a → (∀ W' H' v, Step W H W' H' → NewV K W' H H' v a → Q v H') → r x lo hi H Q
def mSl (f : D → Option Int → Option Int → Option Val) (m : M Val) (lo hi : Option (M Val)) : M Val := M.bind m fun a => M.bind (mPart lo) fun l => M.bind (mPart hi) fun h => fun e => M.lift ((look e (hold a)).bind fun d => f d l h) e
def rdO (X : Cx) (Wx : WX) (m : Option (M Val)) : TO := fun σ H Q => ∃ fg la W e, Rel X.K fg la W H σ e ∧ Post X Wx fg la W σ (fun _ H' _ a => Q a H') (mPart m e)
theorem po_of {e : Option Expr} {m : Option (M Val)} (h : DO X Wx e m) : PO X e (rdO X Wx m) := by
  have wk : ∀ {e : Option Expr} {t t' : TO}, PO X e t → (∀ σ H Q, t' σ H Q → t σ H Q) → PO X e t' := fun {e t t'} h k => ⟨fun pins s σ H Q I q => h.run pins s σ H Q I (k σ H Q q)⟩
  cases e with
  | none =>
    cases m with
    | none =>
      refine wk po_none ?_
      rintro σ H Q ⟨fg, la, W, e, rl, h⟩
      exact Post.here h rl
    | some m => exact h.elim
  | some e =>
    cases m with
    | none => exact h.elim
    | some m =>
      refine wk (po_some (show PE X e (rdE X Wx m) from h)) ?_
      rintro σ H Q ⟨fg, la, W, e, rl, h⟩
      refine ⟨fg, la, W, e, rl, (Post.bind h).mono fun W1 H1 e1 a s1 r1 h1 x hx => ?_⟩
      cases a with
      | sh d =>
        cases d with
        | int i => cases (show Rep X.K W1 x (.int i) from hx); exact ⟨i, rfl, Post.here h1 r1⟩
        | _ => exact (show False from h1).elim
      | _ => exact (show False from h1).elim
theorem de_slice {r : V → Option Int → Option Int → Hp → VK → Prop} {f : D → Option Int → Option Int → Option Val} {e : Expr} {lo hi : Option Expr} {m : M Val} {ml mh : Option (M Val)} {p2 pos : Pos} (hr : SlR X r) (hd : SlD X.K r f) (he : DE X Wx e m) (hl : DO X Wx lo ml) (hh : DO X Wx hi mh) :
    DE X Wx (.Subscript e (.Slice lo hi none p2) pos) (mSl f m ml mh) := PE.wk (pe_slice hr he (po_of hl) (po_of hh)) (by
  rintro σ H Q ⟨fg, la, W, e, rl, h⟩
  refine ⟨fg, la, W, e, rl, (Post.bind h).mono fun W1 H1 e1 a s1 r1 h1 x hx => ?_⟩
  obtain ⟨W2, s2, r2, hx2⟩ := hold_ok r1 hx
  refine ⟨fg, la, W2, e1, r2, ((Post.bind h1).wider s2).mono fun W3 H3 e3 l s3 r3 h3 => ?_⟩
  refine ⟨fg, la, W3, e3, r3, (Post.bind h3).mono fun W4 H4 e4 u s4 r4 h4 => ?_⟩
  have hx4 := held_mono (H' := H4) (e' := e4) hx2 (s3.trans s4)
  cases q : look e4 (hold a) with
  | none => rw [q] at h4; exact (show False from h4).elim
  | some d =>
    rw [q, Option.bind_some] at h4
    cases q2 : f d l u with
    | none => rw [q2] at h4; exact (show False from h4).elim
    | some c =>
      rw [q2] at h4
      exact hd W4 H4 x d l u c Q r4.sub (look_ok r4 hx4 q) q2 fun W' H' v t nv => h4 W' H' t.w (r4.step t) v (nv.ok r4 t))
end
end VS

/-! VE: statements: names set, several at once, if, return, blocks, expressions dropped. -/
namespace VS
open PySem PySem.Spec PyProof.Rows L2

inductive Flw where
  | nx | bk | ct | rt (a : Val)
  deriving Inhabited
def PostS (X : Cx) (Wx : WX) (fg : Hp) (la : Nat → Addr) (W : Hp) (D : Ends) : R Flw → Prop
  | .ok .nx e' => ∀ W' H' σ', Sub W W' → Rel X.K fg la W' H' σ' e' → D.nx σ' H'
  | .ok .bk e' => ∀ W' H' σ', Sub W W' → Rel X.K fg la W' H' σ' e' → D.bk σ' H'
  | .ok .ct e' => ∀ W' H' σ', Sub W W' → Rel X.K fg la W' H' σ' e' → D.ct σ' H'
  | .ok (.rt a) e' => ∀ W' H' σ' v, Sub W W' → Rel X.K fg la W' H' σ' e' → ValOk X.K fg W' H' σ' e' v a → D.rt v H'
  | .ex x e' => ∀ W' H' σ' cls d, Sub W W' → Rel X.K fg la W' H' σ' e' → ExOk X.mg X.K W' H' cls d x → Wx cls d σ' H'
  | .no => False
section
variable {X : Cx} {Wx : WX} {fg fg' : Hp} {la : Nat → Addr} {W W' H : Hp} {σ : L2.St} {e : Env} {D : Ends}
theorem PostS.wider {r : R Flw} (h : PostS X Wx fg la W D r) (s : Sub W W') : PostS X Wx fg la W' D r := by
  cases r with
  | ok a e' =>
    cases a with
    | nx => exact fun W1 H1 σ1 s1 r1 => h W1 H1 σ1 (s.trans s1) r1
    | bk => exact fun W1 H1 σ1 s1 r1 => h W1 H1 σ1 (s.trans s1) r1
    | ct => exact fun W1 H1 σ1 s1 r1 => h W1 H1 σ1 (s.trans s1) r1
    | rt a => exact fun W1 H1 σ1 v s1 r1 z => h W1 H1 σ1 v (s.trans s1) r1 z
  | ex x e' => exact fun W1 H1 σ1 cls d s1 r1 z => h W1 H1 σ1 cls d (s.trans s1) r1 z
  | no => exact h
theorem PostS.fgw {r : R Flw} (h : PostS X Wx fg la W D r) (s : Sub fg fg') : PostS X Wx fg' la W D r := by
  cases r with
  | ok a e' =>
    cases a with
    | nx => exact fun W1 H1 σ1 s1 r1 => h W1 H1 σ1 s1 (r1.less s)
    | bk => exact fun W1 H1 σ1 s1 r1 => h W1 H1 σ1 s1 (r1.less s)
    | ct => exact fun W1 H1 σ1 s1 r1 => h W1 H1 σ1 s1 (r1.less s)
    | rt a => exact fun W1 H1 σ1 v s1 r1 z => h W1 H1 σ1 v s1 (r1.less s) (z.less s)
  | ex x e' => exact fun W1 H1 σ1 cls d s1 r1 z => h W1 H1 σ1 cls d s1 (r1.less s) z
  | no => exact h
theorem PostS.nx (h : PostS X Wx fg la W D (.ok .nx e)) (r : Rel X.K fg la W H σ e) : D.nx σ H := h W H σ (.refl _) r
/-- behind an expression -/
theorem PostS.bind {α : Type} {m : M α} {f : α → M Flw} (h : PostS X Wx fg la W D (M.bind m f e)) : Post X Wx fg la W σ (fun W' _ e' a => PostS X Wx fg la W' D (f a e')) (m e) := by
  unfold M.bind at h
  cases q : m e with
  | ok a e' => rw [q] at h; exact fun W' H' s r => PostS.wider h s
  | ex x e' => rw [q] at h; exact fun W' H' cls d s r z => h W' H' σ cls d s r z
  | no => rw [q] at h; exact h
end
def rdS (X : Cx) (Wx : WX) (m : M Flw) : TS := fun D σ H => ∃ fg la W e, Rel X.K fg la W H σ e ∧ PostS X Wx fg la W D (m e)
def DS (X : Cx) (Wx : WX) (st : Stmt) (m : M Flw) : Prop := PS X st (rdS X Wx m)
def DSs (X : Cx) (Wx : WX) (st : List Stmt) (m : M Flw) : Prop := PSs X st (rdS X Wx m)

/-! ### blocks -/
def sNx : M Flw := M.ret .nx
def sSeq (m n : M Flw) : M Flw := M.bind m fun f => match f with
  | .nx => n
  | f => M.ret f
section
variable {X : Cx} {Wx : WX}
theorem rd_seq {m n : M Flw} {D : Ends} {σ : L2.St} {H : Hp} (h : rdS X Wx (sSeq m n) D σ H) : rdS X Wx m { D with nx := rdS X Wx n D } σ H := by
  obtain ⟨fg, la, W, e, rl, h⟩ := h
  refine ⟨fg, la, W, e, rl, ?_⟩
  unfold sSeq M.bind at h
  cases q : m e with
  | ok f e' =>
    rw [q] at h
    cases f with
    | nx => exact fun W1 H1 σ1 s1 r1 => ⟨fg, la, W1, e', r1, h.wider s1⟩
    | bk => exact h
    | ct => exact h
    | rt a => exact h
  | ex x e' => rw [q] at h; exact h
  | no => rw [q] at h; exact h
theorem dss_nil : DSs X Wx [] sNx := PSs.wk pss_nil (by
  rintro D σ H ⟨fg, la, W, e, rl, h⟩
  exact PostS.nx h rl)
theorem dss_cons {st : Stmt} {rest : List Stmt} {m n : M Flw} (h1 : DS X Wx st m) (h2 : DSs X Wx rest n) : DSs X Wx (st :: rest) (sSeq m n) := PSs.wk (pss_cons h1 h2) fun _ _ _ h => rd_seq h
theorem dss_one {st : Stmt} {m : M Flw} (h1 : DS X Wx st m) : DSs X Wx [st] m := pss_one h1
theorem ds_pass {pos : Pos} : DS X Wx (.Pass pos) sNx := PS.wk ps_pass (by
  rintro D σ H ⟨fg, la, W, e, rl, h⟩
  exact PostS.nx h rl)
def sBk : M Flw := M.ret .bk
def sCt : M Flw := M.ret .ct
theorem ds_break {pos : Pos} : DS X Wx (.Break pos) sBk := PS.wk ps_break (by
  rintro D σ H ⟨fg, la, W, e, rl, h⟩
  exact (show ∀ W' H' σ', Sub W W' → Rel X.K fg la W' H' σ' e → D.bk σ' H' from h) W H σ (.refl _) rl)
theorem ds_continue {pos : Pos} : DS X Wx (.Continue pos) sCt := PS.wk ps_continue (by
  rintro D σ H ⟨fg, la, W, e, rl, h⟩
  exact (show ∀ W' H' σ', Sub W W' → Rel X.K fg la W' H' σ' e → D.ct σ' H' from h) W H σ (.refl _) rl)
/-- an expression whose value is dropped -/
def sEx (m : M Val) : M Flw := M.bind m fun _ => sNx
theorem ds_expr {e : Expr} {m : M Val} {pos : Pos} (h : DE X Wx e m) (hs : swapsWith e none pos.line X.env = pure false := by rfl) : DS X Wx (.Expr e pos) (sEx m) := PS.wk (ps_expr h hs) (by
  rintro D σ H ⟨fg, la, W, e, rl, h⟩
  exact ⟨fg, la, W, e, rl, (PostS.bind h).mono fun W1 H1 e1 a s1 r1 h1 v hv => PostS.nx h1 r1⟩)
def sRet (m : M Val) : M Flw := M.bind m fun a => M.ret (.rt a)
theorem ds_ret {e : Expr} {m : M Val} {pos : Pos} (h : DE X Wx e m) : DS X Wx (.Return (some e) pos) (sRet m) := PS.wk (ps_ret h) (by
  rintro D σ H ⟨fg, la, W, e, rl, h⟩
  exact ⟨fg, la, W, e, rl, (PostS.bind h).mono fun W1 H1 e1 a s1 r1 h1 v hv => (show ∀ W' H' σ' v, Sub W1 W' → Rel X.K fg la W' H' σ' e1 → ValOk X.K fg W' H' σ' e1 v a → D.rt v H' from h1) W1 H1 σ v (.refl _) r1 hv⟩)
def sRetN : M Flw := M.ret (.rt (.sh .non))
theorem ds_retN {pos : Pos} : DS X Wx (.Return none pos) sRetN := PS.wk ps_retN (by
  rintro D σ H ⟨fg, la, W, e, rl, h⟩
  exact (show ∀ W' H' σ' v, Sub W W' → Rel X.K fg la W' H' σ' e → ValOk X.K fg W' H' σ' e v (.sh .non) → D.rt v H' from h) W H σ _ (.refl _) rl .non)
def sIf (c : M Bool) (m n : M Flw) : M Flw := M.bind c fun b => if b then m else n
theorem ds_if {c : Expr} {a b : List Stmt} {mc : M Bool} {m n : M Flw} {pos : Pos} (hc : DT X Wx c mc) (ha : DSs X Wx a m) (hb : DSs X Wx b n) : DS X Wx (.If c a b pos) (sIf mc m n) := PS.wk (ps_if hc ha hb) (by
  rintro D σ H ⟨fg, la, W, e, rl, h⟩
  refine ⟨fg, la, W, e, rl, (PostS.bind h).mono fun W1 H1 e1 b s1 r1 h1 => ?_⟩
  cases b with
  | true => exact ⟨fg, la, W1, e1, r1, h1⟩
  | false => exact ⟨fg, la, W1, e1, r1, h1⟩)
end

/-! ### names set -/
def Val.cell : Val → Cell
  | .sh d => .sh d
  | .ow d => .ow d
  | .bw _ => .un
/-- a borrowed value is shared, the others stay -/
def unbw (e : Env) : Val → Option (Val × Env)
  | .bw i => (esc e (.bw i)).map fun p => (.sh p.1, p.2)
  | a => some (a, e)
def Cell.lent : Cell → Bool
  | .ln _ => true
  | _ => false
/-- the cell of a name that is not lent -/
def putC (e : Env) (i : Nat) (c : Cell) : Option Env := match e[i]? with
  | some (.ln _) => none
  | none => none
  | some _ => some (e.set i c)
def setC (e : Env) (i : Nat) (a : Val) : Option Env := match unbw e a with
  | some (b, e1) => putC e1 i b.cell
  | none => none
section
variable {K : PySem.W.Frag} {fg : Hp} {la : Nat → Addr} {W W' H H' : Hp} {σ : L2.St} {e e' : Env}
def Val.fix : Val → Bool
  | .bw _ => false
  | _ => true
theorem Rel.put {i : Nat} {v : V} {a : Val} (r : Rel K fg la W H σ e) (h : ValOk K fg W H σ e v a) (f : a.fix = true) (l : putC e i a.cell = some e') : Rel K fg la W H (σ.set i (some v)) e' := by
  unfold putC at l
  split at l
  · cases l
  · cases l
  · rename_i c0 nl q
    cases l
    have hi : i < e.length := (List.getElem?_eq_some_iff.mp q).1
    have hσ : i < σ.length := by rw [← r.len]; exact hi
    have get : ∀ (j : Nat) c, (e.set i a.cell)[j]? = some c → (j = i ∧ c = a.cell) ∨ (j ≠ i ∧ e[j]? = some c) := fun j c q => by
      by_cases z : i = j
      · subst z; rw [List.getElem?_set_self hi] at q; cases q; exact .inl ⟨rfl, rfl⟩
      · rw [List.getElem?_set_ne z] at q; exact .inr ⟨Ne.symm z, q⟩
    have ownv : ∀ p, (Val.cell a).own = true → (σ.set i (some v))[i]? = some (some (V.ref p)) → ∀ (j : Nat) c, j ≠ i → e[j]? = some c → c.own = true → σ[j]? = some (some (V.ref p)) → False := fun p o s j c ne q oc s2 => by
      cases a with
      | sh d => cases o
      | bw k => cases f
      | ow d =>
        obtain ⟨p', rfl, _, _, _, h5⟩ := h
        rw [List.getElem?_set_self hσ] at s
        cases s
        exact h5 j c q oc s2
    refine ⟨r.sub, r.frn, by rw [List.length_set, List.length_set]; exact r.len, fun j c qj => ?_, fun j k c c' p ne q1 q2 o1 o2 s1 s2 => ?_⟩
    · rcases get j c qj with ⟨rfl, rfl⟩ | ⟨ne, q'⟩
      · cases a with
        | sh d => exact ⟨v, by rw [List.getElem?_set_self hσ], h⟩
        | bw k => cases f
        | ow d =>
          obtain ⟨p, rfl, h2, h3, h4, h5⟩ := h
          exact ⟨p, by rw [List.getElem?_set_self hσ], h2, h3, h4⟩
      · rw [List.getElem?_set_ne (Ne.symm ne)]
        exact r.cell j c q'
    · rcases get j c q1 with ⟨rfl, rfl⟩ | ⟨n1, q1'⟩
      · rcases get k c' q2 with ⟨rfl, rfl⟩ | ⟨n2, q2'⟩
        · exact ne rfl
        · rw [List.getElem?_set_ne (Ne.symm n2)] at s2
          exact ownv p o1 s1 k c' n2 q2' o2 s2
      · rw [List.getElem?_set_ne (Ne.symm n1)] at s1
        rcases get k c' q2 with ⟨rfl, rfl⟩ | ⟨n2, q2'⟩
        · exact ownv p o2 s2 j c n1 q1' o1 s1
        · rw [List.getElem?_set_ne (Ne.symm n2)] at s2
          exact r.apart j k c c' p ne q1' q2' o1 o2 s1 s2
theorem unbw_ok {v : V} {a b : Val} {e1 : Env} (r : Rel K fg la W H σ e) (h : ValOk K fg W H σ e v a) (l : unbw e a = some (b, e1)) : ∃ W', Sub W W' ∧ Rel K fg la W' H σ e1 ∧ ValOk K fg W' H σ e1 v b ∧ b.fix = true := by
  cases a with
  | sh d => cases l; exact ⟨W, .refl _, r, h, rfl⟩
  | ow d => cases l; exact ⟨W, .refl _, r, h, rfl⟩
  | bw i =>
    unfold unbw at l
    simp only at l
    cases q : esc e (.bw i) with
    | none => rw [q] at l; cases l
    | some p =>
      obtain ⟨d, e2⟩ := p
      rw [q] at l
      cases l
      obtain ⟨W', s, r', rp⟩ := esc_ok r h q
      exact ⟨W', s, r', rp, rfl⟩
theorem Rel.setC {i : Nat} {v : V} {a : Val} (r : Rel K fg la W H σ e) (h : ValOk K fg W H σ e v a) (l : setC e i a = some e') : ∃ W', Sub W W' ∧ Rel K fg la W' H (σ.set i (some v)) e' := by
  unfold VS.setC at l
  cases q : unbw e a with
  | none => rw [q] at l; cases l
  | some p =>
    obtain ⟨b, e1⟩ := p
    rw [q] at l
    obtain ⟨W', s, r1, h1, f⟩ := unbw_ok r h q
    exact ⟨W', s, r1.put h1 f l⟩
end
section
variable {X : Cx} {Wx : WX}
def sSet (i : Nat) (m : M Val) : M Flw := M.bind m fun a e => match setC e i a with
  | some e' => .ok .nx e'
  | none => .no
theorem rd_set {i : Nat} {m : M Val} {D : Ends} {σ : L2.St} {H : Hp} (h : rdS X Wx (sSet i m) D σ H) : tAsg (rdE X Wx m) (gName i) D σ H := by
  obtain ⟨fg, la, W, e, rl, h⟩ := h
  refine ⟨fg, la, W, e, rl, (PostS.bind h).mono fun W1 H1 e1 a s1 r1 h1 v hv => ?_⟩
  cases q : setC e1 i a with
  | none => rw [q] at h1; exact (show False from h1).elim
  | some e2 =>
    rw [q] at h1
    obtain ⟨W2, s2, r2⟩ := r1.setC hv q
    exact (show ∀ W' H' σ', Sub W1 W' → Rel X.K fg la W' H' σ' e2 → D.nx σ' H' from h1) W2 H1 _ s2 r2
theorem ds_set {i : Nat} {x : Str} {e : Expr} {m : M Val} {pos' pos : Pos} (hN : X.N.Nodup) (hi : X.N[i]? = some x) (hx : Loc X.env.scope x) (he : DE X Wx e m) (hs : swapsWith e (some (.Name x pos')) pos.line X.env = pure false := by rfl) (hf : X.fn x = true ∨ X.env.scope.names.lookup x = some .local := by first | exact .inl rfl | exact .inr rfl | assumption) :
    DS X Wx (.Assign [.Name x pos'] e pos) (sSet i m) := PS.wk (ps_set hN hi hx he hs hf) fun _ _ _ h => rd_set h

/-! ### several names at once -/
def unbws : Env → List Val → Option (List Val × Env)
  | e, [] => some ([], e)
  | e, a :: as => match unbw e a with
    | none => none
    | some (b, e1) => match unbws e1 as with
      | none => none
      | some (bs, e2) => some (b :: bs, e2)
def putCs : Env → List Nat → List Val → Option Env
  | e, [], [] => some e
  | e, i :: is, a :: as => match putC e i a.cell with
    | some e1 => putCs e1 is as
    | none => none
  | _, _, _ => none
def setσ : L2.St → List Nat → List V → L2.St
  | σ, i :: is, v :: vs => setσ (σ.set i (some v)) is vs
  | σ, _, _ => σ
end
section
variable {K : PySem.W.Frag} {fg : Hp} {la : Nat → Addr} {H : Hp}
/-- the rest of the values as they were, behind one that was unborrowed -/
theorem unbws_ok {σ : L2.St} : ∀ {as bs : List Val} {vs : List V} {W : Hp} {e e' : Env}, Rel K fg la W H σ e → ValsOk K fg W H σ e vs as → unbws e as = some (bs, e') → ∃ W', Sub W W' ∧ Rel K fg la W' H σ e' ∧ ValsOk K fg W' H σ e' vs bs ∧ bs.all Val.fix = true ∧
    (∀ q, W q = none → W' q = none ∨ ∃ (i : Nat) (c : Cell), e[i]? = some c ∧ c.own = true ∧ σ[i]? = some (some (V.ref q))) ∧ (∀ (i : Nat) c, e'[i]? = some c → c.own = true → e[i]? = some c)
  | [], _, [], W, e, e', r, _, l => by cases l; exact ⟨W, .refl _, r, trivial, rfl, fun _ z => .inl z, fun _ _ z _ => z⟩
  | a :: as, bs, v :: vs, W, e, e', r, h, l => by
    unfold unbws at l
    cases q : unbw e a with
    | none => rw [q] at l; cases l
    | some p =>
      obtain ⟨b, e1⟩ := p
      rw [q] at l
      simp only at l
      cases q2 : unbws e1 as with
      | none => rw [q2] at l; cases l
      | some p2 =>
        obtain ⟨bs2, e2⟩ := p2
        rw [q2] at l
        cases l
        have step : ∃ W1, Sub W W1 ∧ Rel K fg la W1 H σ e1 ∧ ValOk K fg W1 H σ e1 v b ∧ b.fix = true ∧ (∀ q, W q = none → W1 q = none ∨ ∃ (i : Nat) (c : Cell), e[i]? = some c ∧ c.own = true ∧ σ[i]? = some (some (V.ref q))) ∧
            (∀ (i : Nat) c, e1[i]? = some c → c.own = true → e[i]? = some c) ∧ (b.isOw = a.isOw) := by
          cases a with
          | sh d => cases q; exact ⟨W, .refl _, r, h.1, rfl, fun _ z => .inl z, fun _ _ z _ => z, rfl⟩
          | ow d => cases q; exact ⟨W, .refl _, r, h.1, rfl, fun _ z => .inl z, fun _ _ z _ => z, rfl⟩
          | bw k =>
            unfold unbw at q
            simp only at q
            cases q3 : esc e (.bw k) with
            | none => rw [q3] at q; cases q
            | some p3 =>
              obtain ⟨d, e3⟩ := p3
              rw [q3] at q
              cases q
              obtain ⟨W1, s1, r1, rp, n, oc⟩ := esc_ok' r h.1 q3
              refine ⟨W1, s1, r1, rp, rfl, fun y hy => ?_, oc, rfl⟩
              rcases n y hy with z | ⟨z, z2 | ⟨i, c, z3, z4, z5⟩⟩
              · exact .inl z
              · cases z2
              · exact .inr ⟨i, c, z3, z4, by rw [← z]; exact z5⟩
        obtain ⟨W1, s1, r1, hv, fx, n, oc, io⟩ := step
        have rest : ValsOk K fg W1 H σ e1 vs as := by
          clear q2
          have : ∀ {vs : List V} {as : List Val}, ValsOk K fg W H σ e vs as → ValsOk K fg W1 H σ e1 vs as := by
            intro vs
            induction vs with
            | nil => intro as h; cases as with
              | nil => trivial
              | cons _ _ => exact h.elim
            | cons u us ih =>
              intro as h
              cases as with
              | nil => exact h.elim
              | cons c cs =>
                refine ⟨?_, ih h.2.1, h.2.2⟩
                cases c with
                | sh d => exact Rep.mono s1 h.1
                | bw i => exact h.1
                | ow d =>
                  obtain ⟨p, rfl, h2, h3, h4, h5⟩ := h.1
                  refine ⟨p, rfl, ?_, h3, h4.mono s1 fun _ z => z, fun i c q o => h5 i c (oc i c q o) o⟩
                  rcases n p h2 with z | ⟨i, c, z3, z4, z5⟩
                  · exact z
                  · exact absurd z5 (h5 i c z3 z4)
          exact this h.2.1
        obtain ⟨W2, s2, r2, hvs, fxs, n2, oc2⟩ := unbws_ok r1 rest q2
        have ios : ∀ (j : Nat) b', bs2[j]? = some b' → b'.isOw = true → ∃ a', as[j]? = some a' ∧ a'.isOw = true := by
          clear rest hvs n2 oc2 r2 s2 fxs
          have : ∀ {as bs2 : List Val} {e1 e2 : Env}, unbws e1 as = some (bs2, e2) → ∀ (j : Nat) b', bs2[j]? = some b' → b'.isOw = true → ∃ a', as[j]? = some a' ∧ a'.isOw = true := by
            intro as
            induction as with
            | nil => intro bs2 e1 e2 l j b' z; cases l; simp at z
            | cons c cs ih =>
              intro bs2 e1 e2 l j b' z o
              unfold unbws at l
              cases y : unbw e1 c with
              | none => rw [y] at l; cases l
              | some p =>
                obtain ⟨b, e3⟩ := p
                rw [y] at l
                simp only at l
                cases y2 : unbws e3 cs with
                | none => rw [y2] at l; cases l
                | some p2 =>
                  obtain ⟨bs3, e4⟩ := p2
                  rw [y2] at l
                  cases l
                  cases j with
                  | zero =>
                    simp at z; subst z
                    refine ⟨c, rfl, ?_⟩
                    cases c with
                    | sh d => cases y; exact o
                    | ow d => rfl
                    | bw k =>
                      unfold unbw at y
                      simp only at y
                      cases y3 : esc e1 (.bw k) with
                      | none => rw [y3] at y; cases y
                      | some p3 => rw [y3] at y; cases y; cases o
                  | succ j => simpa using ih y2 j b' (by simpa using z) o
          exact this q2
        refine ⟨W2, s1.trans s2, r2, ⟨?_, hvs, fun ob j b' qb ob' => ?_⟩, by rw [List.all_cons, fx, fxs]; rfl, fun y hy => ?_, fun i c z o => oc i c (oc2 i c z o) o⟩
        · cases b with
          | sh d => exact Rep.mono s2 hv
          | bw k => cases fx
          | ow d =>
            obtain ⟨p, rfl, h2, h3, h4, h5⟩ := hv
            refine ⟨p, rfl, ?_, h3, h4.mono s2 fun _ z => z, fun i c q o => h5 i c (oc2 i c q o) o⟩
            rcases n2 p h2 with z | ⟨i, c, z3, z4, z5⟩
            · exact z
            · exact absurd z5 (h5 i c z3 z4)
        · obtain ⟨a', ha', oa'⟩ := ios j b' qb ob'
          exact h.2.2 (by rw [← io]; exact ob) j a' ha' oa'
        · rcases n y hy with z | z
          · rcases n2 y z with z' | ⟨i, c, z3, z4, z5⟩
            · exact .inl z'
            · exact .inr ⟨i, c, oc i c z3 z4, z4, z5⟩
          · exact .inr z
  | [], _, _ :: _, _, _, _, _, h, _ => h.elim
  | _ :: _, _, [], _, _, _, _, h, _ => h.elim
theorem ValsOk.put {W : Hp} {σ : L2.St} {e e' : Env} {i : Nat} {v : V} {a : Val} (h : ValOk K fg W H σ e v a) (f : a.fix = true) (l : putC e i a.cell = some e') (hl : e.length = σ.length) :
    ∀ {vs : List V} {as : List Val}, ValsOk K fg W H σ e vs as → as.all Val.fix = true → (a.isOw = true → ∀ (j : Nat) b, as[j]? = some b → b.isOw = true → vs[j]? ≠ some v) → ValsOk K fg W H (σ.set i (some v)) e' vs as
  | [], [], h, _, _ => h
  | u :: vs, b :: as, hh, fs, k => by
    rw [List.all_cons, Bool.and_eq_true] at fs
    refine ⟨?_, ValsOk.put h f l hl hh.2.1 fs.2 fun oa j c q o => by simpa using k oa (j + 1) c (by simpa using q) o, hh.2.2⟩
    cases b with
    | sh d => exact hh.1
    | bw i => exact absurd fs.1 (fun z => nomatch z)
    | ow d =>
      obtain ⟨p, rfl, h2, h3, h4, h5⟩ := hh.1
      refine ⟨p, rfl, h2, h3, h4, fun j c q o s => ?_⟩
      unfold putC at l
      split at l
      · cases l
      · cases l
      · rename_i c0 nl q0
        cases l
        have hi : i < e.length := (List.getElem?_eq_some_iff.mp q0).1
        by_cases z : i = j
        · subst z
          rw [List.getElem?_set_self hi] at q
          cases q
          rw [List.getElem?_set_self (by rw [← hl]; exact hi)] at s
          cases s
          cases a with
          | sh d => cases o
          | bw k => cases f
          | ow d => exact k rfl 0 (.ow _) rfl rfl rfl
        · rw [List.getElem?_set_ne z] at q s
          exact h5 j c q o s
  | [], _ :: _, h, _, _ => h.elim
  | _ :: _, [], h, _, _ => h.elim
theorem putCs_ok {W : Hp} : ∀ {is : List Nat} {as : List Val} {vs : List V} {σ : L2.St} {e e' : Env}, Rel K fg la W H σ e → ValsOk K fg W H σ e vs as → as.all Val.fix = true → putCs e is as = some e' → Rel K fg la W H (setσ σ is vs) e'
  | [], [], [], σ, e, e', r, _, _, l => by cases l; exact r
  | i :: is, a :: as, v :: vs, σ, e, e', r, h, f, l => by
    rw [List.all_cons, Bool.and_eq_true] at f
    unfold putCs at l
    cases q : putC e i a.cell with
    | none => rw [q] at l; cases l
    | some e1 =>
      rw [q] at l
      exact putCs_ok (is := is) (as := as) (vs := vs) (σ := σ.set i (some v)) (r.put h.1 f.1 q) (ValsOk.put h.1 f.1 q r.len h.2.1 f.2 h.2.2) f.2 l
  | [], [], _ :: _, _, _, _, _, h, _, _ => h.elim
  | [], _ :: _, _, _, _, _, _, _, _, l => by cases l
  | _ :: _, [], _, _, _, _, _, _, _, l => by cases l
  | _ :: _, _ :: _, [], _, _, _, _, h, _, _ => h.elim
end
section
variable {X : Cx} {Wx : WX}
def sPar (is : List Nat) (n : M (List Val)) : M Flw := M.bind n fun as e => match unbws e as with
  | some (bs, e1) => match putCs e1 is bs with
    | some e2 => .ok .nx e2
    | none => .no
  | none => .no
theorem rd_par {is : List Nat} {n : M (List Val)} {D : Ends} {σ : L2.St} {H : Hp} (h : rdS X Wx (sPar is n) D σ H) :
    rdA X Wx n σ H (fun vs H1 => vs.length = is.length ∧ D.nx (setσ σ is vs) H1 ∧ ∀ p o, H1 p = none → D.nx (setσ σ is vs) (upd H1 p o)) := by
  obtain ⟨fg, la, W, e, rl, h⟩ := h
  refine ⟨fg, la, W, e, rl, (PostS.bind h).mono fun W1 H1 e1 as s1 r1 h1 vs hv => ?_⟩
  cases q : unbws e1 as with
  | none => rw [q] at h1; exact (show False from h1).elim
  | some p =>
    obtain ⟨bs, e2⟩ := p
    rw [q] at h1
    simp only at h1
    cases q2 : putCs e2 is bs with
    | none => rw [q2] at h1; exact (show False from h1).elim
    | some e3 =>
      rw [q2] at h1
      have h1 : ∀ W' H' σ', Sub W1 W' → Rel X.K fg la W' H' σ' e3 → D.nx σ' H' := h1
      obtain ⟨W2, s2, r2, hvs, fx, _, _⟩ := unbws_ok r1 hv q
      have fin := putCs_ok r2 hvs fx q2
      refine ⟨?_, h1 W2 H1 _ s2 fin, fun p o hp => h1 W2 _ _ s2 (fin.step (.newH r2.sub hp))⟩
      have : ∀ {is : List Nat} {bs : List Val} {e e' : Env}, putCs e is bs = some e' → bs.length = is.length := by
        intro is
        induction is with
        | nil => intro bs e e' l; cases bs with
          | nil => rfl
          | cons _ _ => cases l
        | cons i is ih =>
          intro bs e e' l
          cases bs with
          | nil => cases l
          | cons b bs =>
            unfold putCs at l
            cases z : putC e i b.cell with
            | none => rw [z] at l; cases l
            | some e1 => rw [z] at l; rw [List.length_cons, List.length_cons, ih l]
      rw [hvs.length]
      exact this q2
theorem ds_par {i j : Nat} {x y : Str} {a b : Expr} {n : M (List Val)} {px py pt pos : Pos} {kt k2 pt2} (hc : X.calm = true) (hN : X.N.Nodup) (hi : X.N[i]? = some x) (hj : X.N[j]? = some y) (hij : i ≠ j)
    (hx : X.env.scope.names.lookup x = some .local) (hy : X.env.scope.names.lookup y = some .local) (ha : DA X Wx [a, b] n)
    (hw : swappedStores [.Tuple [.Name x px, .Name y py] kt pt] (.Tuple [a, b] k2 pt2) X.env = pure (some [x, y]))
    (hs : swapsWithSole [.Tuple [.Name x px, .Name y py] kt pt] (.Tuple [a, b] k2 pt2) pos.line X.env = pure false := by rfl) :
    DS X Wx (.Assign [.Tuple [.Name x px, .Name y py] kt pt] (.Tuple [a, b] k2 pt2) pos) (sPar [i, j] n) := PS.wk (ps_par hc hN hi hj hij hx hy ha hw hs) (by
  intro D σ H h
  obtain ⟨fg, la, W, e, rl, z⟩ := rd_par h
  refine ⟨fg, la, W, e, rl, z.mono fun W1 H1 e1 as s1 r1 h1 vs hv => ?_⟩
  obtain ⟨hl, q, _⟩ := h1 vs hv
  match vs, hl with
  | [v, w], _ => exact ⟨v, w, rfl, q⟩)
/-- a, b, .. = x, y, ..: a tuple is made and taken apart -/
def gNames : List Nat → TGs
  | [] => gNil
  | i :: is => gCons (gName i) (gNames is)
theorem gNames_ok : ∀ {is : List Nat} {vs : List V} {σ : L2.St} {H : Hp} {Q : L2.St → Hp → Prop}, vs.length = is.length → Q (setσ σ is vs) H → gNames is vs σ H Q
  | [], [], _, _, _, _, q => ⟨rfl, q⟩
  | i :: is, v :: vs, σ, H, Q, l, q => ⟨v, vs, rfl, gNames_ok (is := is) (vs := vs) (σ := σ.set i (some v)) (by simpa using l) q⟩
  | [], _ :: _, _, _, _, l, _ => by simp at l
  | _ :: _, [], _, _, _, l, _ => by simp at l
theorem ds_parG {is : List Nat} {es vs : List Expr} {n : M (List Val)} {k k2 : Nat} {pos p1 p2 : Pos} (hc : X.calm = true) (hg : PGs X es (gNames is)) (ha : DA X Wx vs n) (hl : is.length ≤ 1000)
    (hn : (assignEach es X.env).length = is.length := by rfl) (hst : (assignEach es X.env).findIdx? (·.1) = none := by rfl)
    (hs : swapsWithSole [.Tuple es k p1] (.Tuple vs k2 p2) pos.line X.env = pure false := by rfl) (hw : swappedStores [.Tuple es k p1] (.Tuple vs k2 p2) X.env = pure none := by rfl)
    (h1 : (assignEach [.Tuple es k p1] X.env).map (·.2) = [assign (.Tuple es k p1) X.env] := by rfl) : DS X Wx (.Assign [.Tuple es k p1] (.Tuple vs k2 p2) pos) (sPar is n) :=
  PS.wk (ps_asg (pe_tup ha) (pg_tup hc hg hn hst) hs hw h1) (by
    intro D σ H h
    obtain ⟨fg, la, W, e, rl, z⟩ := rd_par h
    refine ⟨fg, la, W, e, rl, z.mono fun W1 H1 e1 as s1 r1 h1 vs hv => ?_⟩
    obtain ⟨hl', q, q2⟩ := h1 vs hv
    exact ⟨by rw [hl']; exact le1000 hl, fun p hp => ⟨p, vs, rfl, SqT.of upd_same, hl', gNames_ok hl' (q2 p _ hp)⟩⟩)
/-- a, b, .. = a tuple or a list of so many -/
def putD : Env → List Nat → List D → Option Env
  | e, [], [] => some e
  | e, i :: is, d :: ds => match putC e i (.sh d) with
    | some e1 => putD e1 is ds
    | none => none
  | _, _, _ => none
theorem putD_ok {K : PySem.W.Frag} {fg : Hp} {la : Nat → Addr} {W H : Hp} : ∀ {is : List Nat} {ds : List D} {vs : List V} {σ : L2.St} {e e' : Env}, Rel K fg la W H σ e → Reps K W vs ds → putD e is ds = some e' → vs.length = is.length ∧ Rel K fg la W H (setσ σ is vs) e'
  | [], [], [], σ, e, e', r, _, l => by cases l; exact ⟨rfl, r⟩
  | i :: is, d :: ds, v :: vs, σ, e, e', r, h, l => by
    unfold putD at l
    cases q : putC e i (.sh d) with
    | none => rw [q] at l; cases l
    | some e1 =>
      rw [q] at l
      cases h with
      | cons h1 h2 =>
        obtain ⟨z1, z2⟩ := putD_ok (r.put (a := .sh d) h1 rfl q) h2 l
        exact ⟨by rw [List.length_cons, List.length_cons, z1], z2⟩
  | [], _ :: _, _, _, _, _, _, _, l => by cases l
  | _ :: _, [], _, _, _, _, _, _, l => by cases l
  | _, [], _ :: _, _, _, _, _, h, _ => by cases h
  | _, _ :: _, [], _, _, _, _, h, _ => by cases h
end
end VS

/-! VF: targets, what is walked, for, while, list comprehensions. -/
namespace VS
open PySem PySem.Spec PyProof.Rows L2

/-! ### targets -/
def rdG (K : PySem.W.Frag) (is : List Nat) (g : D → Env → Option Env) : TG := fun v σ H Q => ∃ fg la W e d e', Rel K fg la W H σ e ∧ Rep K W v d ∧ g d e = some e' ∧
  ∀ σ', σ'.length = σ.length → (∀ j : Nat, j ∉ is → σ'[j]? = σ[j]?) → Rel K fg la W H σ' e' → Q σ' H
def rdGs (K : PySem.W.Frag) (is : List Nat) (g : List D → Env → Option Env) : TGs := fun vs σ H Q => ∃ fg la W e ds e', Rel K fg la W H σ e ∧ Reps K W vs ds ∧ g ds e = some e' ∧
  ∀ σ', σ'.length = σ.length → (∀ j : Nat, j ∉ is → σ'[j]? = σ[j]?) → Rel K fg la W H σ' e' → Q σ' H
def DG (X : Cx) (tg : Expr) (is : List Nat) (g : D → Env → Option Env) : Prop := PG X tg (rdG X.K is g)
def DGs (X : Cx) (ts : List Expr) (is : List Nat) (g : List D → Env → Option Env) : Prop := PGs X ts (rdGs X.K is g)
theorem PG.wk {X : Cx} {e : Expr} {t t' : TG} (h : PG X e t) (k : ∀ v σ H Q, t' v σ H Q → t v σ H Q) : PG X e t' := ⟨fun pins s σ H v u Q I r q => h.run pins s σ H v u Q I r (k v σ H Q q)⟩
theorem PGs.wk {X : Cx} {e : List Expr} {t t' : TGs} (h : PGs X e t) (k : ∀ v σ H Q, t' v σ H Q → t v σ H Q) : PGs X e t' := ⟨fun pins s σ H v u Q I r q => h.run pins s σ H v u Q I r (k v σ H Q q)⟩
theorem PG.or {X : Cx} {e : Expr} {t t' : TG} (h : PG X e t) (h' : PG X e t') : PG X e (fun v σ H Q => t v σ H Q ∨ t' v σ H Q) := ⟨fun pins s σ H v u Q I r q => by
  rcases q with q | q
  · exact h.run pins s σ H v u Q I r q
  · exact h'.run pins s σ H v u Q I r q⟩
theorem PI.or {X : Cx} {tg e : Expr} {t t' : TI} (h : PI X tg e t) (h' : PI X tg e t') : PI X tg e (fun σ H R => t σ H R ∨ t' σ H R) := ⟨fun pins s σ H R I q => by
  rcases q with q | q
  · exact h.run pins s σ H R I q
  · exact h'.run pins s σ H R I q⟩
def gN (i : Nat) : D → Env → Option Env := fun d e => putC e i (.sh d)
def gsNil : List D → Env → Option Env := fun ds e => match ds with
  | [] => some e
  | _ => none
def gsCons (g : D → Env → Option Env) (gs : List D → Env → Option Env) : List D → Env → Option Env := fun ds e => match ds with
  | d :: ds => match g d e with
    | some e1 => gs ds e1
    | none => none
  | [] => none
def gT (gs : List D → Env → Option Env) : D → Env → Option Env := fun d e => match d with
  | .tup ds => gs ds e
  | .lst ds => gs ds e
  | _ => none
section
variable {X : Cx} {Wx : WX}
theorem dg_name {i : Nat} {x : Str} {pos : Pos} (hN : X.N.Nodup) (hi : X.N[i]? = some x) (hx : Loc X.env.scope x) (hf : X.fn x = true ∨ X.env.scope.names.lookup x = some .local := by first | exact .inl rfl | exact .inr rfl | assumption) : DG X (.Name x pos) [i] (gN i) :=
  PG.wk (pg_name hN hi hx hf) (by
    rintro v σ H Q ⟨fg, la, W, e, d, e', rl, rp, hg, q⟩
    refine q _ (by rw [List.length_set]) (fun j hj => ?_) (rl.put (a := .sh d) rp rfl hg)
    rw [List.getElem?_set_ne (fun z => hj (by rw [z]; exact List.mem_singleton.mpr rfl))])
theorem dgs_nil : DGs X [] [] gsNil := PGs.wk pgs_nil (by
  rintro vs σ H Q ⟨fg, la, W, e, ds, e', rl, rp, hg, q⟩
  cases ds with
  | cons _ _ => cases hg
  | nil => cases hg; cases rp; exact ⟨rfl, q σ rfl (fun _ _ => rfl) rl⟩)
theorem dgs_cons {e : Expr} {es : List Expr} {is js : List Nat} {g : D → Env → Option Env} {gs : List D → Env → Option Env} (h1 : DG X e is g) (h2 : DGs X es js gs)
    (hs : (assignEach (e :: es) X.env).map (·.2) = assign e X.env :: (assignEach es X.env).map (·.2) := by rfl) : DGs X (e :: es) (is ++ js) (gsCons g gs) := PGs.wk (pgs_cons h1 h2 hs) (by
  rintro vs σ H Q ⟨fg, la, W, e, ds, e', rl, rp, hg, q⟩
  cases ds with
  | nil => cases hg
  | cons d ds =>
    cases rp with
    | cons r1 r2 =>
      unfold gsCons at hg
      simp only at hg
      cases z : g d e with
      | none => rw [z] at hg; cases hg
      | some e1 =>
        rw [z] at hg
        refine ⟨_, _, rfl, fg, la, W, e, d, e1, rl, r1, z, fun σ1 l1 o1 rl1 => ⟨fg, la, W, e1, ds, e', rl1, r2, hg, fun σ2 l2 o2 rl2 => q σ2 (l2.trans l1) (fun j hj => ?_) rl2⟩⟩
        rw [o2 j (fun m => hj (List.mem_append_right _ m)), o1 j (fun m => hj (List.mem_append_left _ m))])
theorem dg_tup {es : List Expr} {k : Nat} {is : List Nat} {gs : List D → Env → Option Env} {pos : Pos} (n : Nat) (hc : X.calm = true) (h : DGs X es is gs) (hn : (assignEach es X.env).length = n := by rfl) (hst : (assignEach es X.env).findIdx? (·.1) = none := by rfl)
    (hl : ∀ ds e e', gs ds e = some e' → ds.length = n) : DG X (.Tuple es k pos) is (gT gs) := PG.wk (PG.or (pg_tup hc h hn hst) (pg_unl hc h hn hst)) (by
  rintro v σ H Q ⟨fg, la, W, e, d, e', rl, rp, hg, q⟩
  cases d with
  | tup ds =>
    cases rp with
    | tup ha r => exact .inl ⟨_, _, rfl, SqT.of (rl.sub _ _ ha), by rw [r.length]; exact hl ds e e' hg, fg, la, W, e, ds, e', rl, r, hg, q⟩
  | lst ds =>
    cases rp with
    | lst ha r => exact .inr ⟨_, _, rfl, SqL.of (rl.sub _ _ ha), by rw [r.length]; exact hl ds e e' hg, fg, la, W, e, ds, e', rl, r, hg, q⟩
  | _ => cases hg)
theorem gs_len0 : ∀ ds e e', gsNil ds e = some e' → ds.length = 0 := fun ds e e' h => by cases ds with
  | nil => rfl
  | cons _ _ => cases h
theorem gs_len1 {g : D → Env → Option Env} {gs : List D → Env → Option Env} {n : Nat} (h : ∀ ds e e', gs ds e = some e' → ds.length = n) : ∀ ds e e', gsCons g gs ds e = some e' → ds.length = n + 1 := fun ds e e' q => by
  cases ds with
  | nil => cases q
  | cons d ds =>
    unfold gsCons at q
    simp only at q
    cases z : g d e with
    | none => rw [z] at q; cases q
    | some e1 => rw [z] at q; rw [List.length_cons, h ds e1 e' q]

/-! ### what is walked -/
/-- the walk gives these items, whatever the heap has got -/
def ItOk (K : PySem.W.Frag) (W0 : Hp) (J : It) (ds : List D) : Prop := ∀ (i : Nat) W H, Sub W0 W → Sub W H →
  (∀ d, ds[i]? = some d → J.go i H ∧ ∀ x H', J.yld i H x H' → ∃ W', Step W H W' H' ∧ Rep K W' x d) ∧ (ds.length ≤ i → J.stop i H)
def rdI (X : Cx) (Wx : WX) (m : M (List D)) : TI := fun σ H R => ∃ fg la W e, Rel X.K fg la W H σ e ∧ Post X Wx fg la W σ (fun W' H' e' ds => ∀ J, ItOk X.K W' J ds → R J H') (m e)
def DI (X : Cx) (Wx : WX) (tg e : Expr) (m : M (List D)) : Prop := PI X tg e (rdI X Wx m)
/-- a list or a tuple, shared from now on -/
def mSeq (m : M Val) : M (List D) := M.bind m fun a e => match esc e a with
  | some (.lst ds, e') => .ok ds e'
  | some (.tup ds, e') => .ok ds e'
  | some (.fl ds, e') => .ok ds e'
  | _ => .no
theorem itl_ok {K : PySem.W.Frag} {W : Hp} {a : Addr} {vs : List V} {ds : List D} (ha : SqL K W a vs) (hu : ∀ H xs, Sub W H → SqL K H a xs → xs = vs) (r : Reps K W vs ds) : ItOk K W (Itl K a) ds := fun i W1 H1 s1 s2 => by
  have h1 : SqL K H1 a vs := Sub.sqL (s1.trans s2) ha
  refine ⟨fun d hd => ?_, fun hl => ⟨vs, h1, by rw [r.length]; exact hl⟩⟩
  obtain ⟨v, hv, rv⟩ := r.get hd
  refine ⟨⟨vs, v, h1, hv⟩, fun x H' y => ?_⟩
  obtain ⟨rfl, y⟩ := y
  have := (y vs h1).symm.trans hv
  cases this
  exact ⟨W1, .refl s2, rv.mono s1⟩
theorem sqL_at {K : PySem.W.Frag} {H : Hp} {a : Addr} {vs xs : List V} (h : H a = some (.lst vs)) (hk : K.lookup a = none) (h' : SqL K H a xs) : xs = vs := by
  rcases h' with (z | ⟨o, z⟩) | ⟨o, its, n, z, _⟩
  · rw [h] at z; cases z; rfl
  · rw [h] at z; cases z
  · rw [hk] at z; cases z
theorem itt_ok {K : PySem.W.Frag} {W : Hp} {a : Addr} {vs : List V} {ds : List D} (ha : SqT K W a vs) (sq : ∀ H, Sub W H → SqT K H a vs) (r : Reps K W vs ds) : ItOk K W (Itt K a) ds := fun i W1 H1 s1 s2 => by
  have h1 : SqT K H1 a vs := sq _ (s1.trans s2)
  refine ⟨fun d hd => ?_, fun hl => ⟨vs, h1, by rw [r.length]; exact hl⟩⟩
  obtain ⟨v, hv, rv⟩ := r.get hd
  refine ⟨⟨vs, v, h1, hv⟩, fun x H' y => ?_⟩
  obtain ⟨rfl, y⟩ := y
  have := (y vs h1).symm.trans hv
  cases this
  exact ⟨W1, .refl s2, rv.mono s1⟩
theorem itl_ok' {K : PySem.W.Frag} {W : Hp} {a : Addr} {vs : List V} {ds : List D} (ha : SqL K W a vs) (r : Reps K W vs ds) : ItOk K W (Itl K a) ds := fun i W1 H1 s1 s2 => by
  have h1 : SqL K H1 a vs := Sub.sqL (s1.trans s2) ha
  refine ⟨fun d hd => ?_, fun hl => ⟨vs, h1, by rw [r.length]; exact hl⟩⟩
  obtain ⟨v, hv, rv⟩ := r.get hd
  refine ⟨⟨vs, v, h1, hv⟩, fun x H' y => ?_⟩
  obtain ⟨rfl, y⟩ := y
  have := (y vs h1).symm.trans hv
  cases this
  exact ⟨W1, .refl s2, rv.mono s1⟩
theorem di_seq {tg e : Expr} {m : M Val} (h : DE X Wx e m) : DI X Wx tg e (mSeq m) := PI.wk (PI.or (pi_list h) (pi_tup h)) (by
  rintro σ H R ⟨fg, la, W, e, rl, h⟩
  unfold mSeq M.bind at h
  cases q : m e with
  | no => rw [q] at h; exact h.elim
  | ex x e' => rw [q] at h; exact .inl ⟨fg, la, W, e, rl, by rw [q]; exact h⟩
  | ok a e1 =>
    rw [q] at h
    simp only at h
    cases q2 : esc e1 a with
    | none => rw [q2] at h; exact h.elim
    | some p =>
      obtain ⟨d, e2⟩ := p
      rw [q2] at h
      cases d with
      | lst ds =>
        refine .inl ⟨fg, la, W, e, rl, ?_⟩
        rw [q]
        intro W1 H1 s1 r1 v hv
        obtain ⟨W2, s2, r2, rp⟩ := esc_ok r1 hv q2
        cases rp with
        | lst ha rr => exact ⟨_, rfl, ⟨_, SqL.of (r2.sub _ _ ha)⟩, h W2 H1 (s1.trans s2) r2 _ (itl_ok' (SqL.of ha) rr)⟩
      | fl ds =>
        refine .inl ⟨fg, la, W, e, rl, ?_⟩
        rw [q]
        intro W1 H1 s1 r1 v hv
        obtain ⟨W2, s2, r2, rp⟩ := esc_ok r1 hv q2
        cases rp with
        | fl ha rr => exact ⟨_, rfl, ⟨_, Sub.sqL r2.sub ha⟩, h W2 H1 (s1.trans s2) r2 _ (itl_ok' ha rr)⟩
      | tup ds =>
        refine .inr ⟨fg, la, W, e, rl, ?_⟩
        rw [q]
        intro W1 H1 s1 r1 v hv
        obtain ⟨W2, s2, r2, rp⟩ := esc_ok r1 hv q2
        cases rp with
        | tup ha rr => exact ⟨_, rfl, ⟨_, SqT.of (r2.sub _ _ ha)⟩, h W2 H1 (s1.trans s2) r2 _ (itt_ok (SqT.of ha) (fun H s => SqT.of (s _ _ ha)) rr)⟩
      | _ => exact h.elim)
def intsD (lo : Int) (n : Nat) : List D := (List.range n).map fun i : Nat => D.int (lo + (i : Int))
theorem itr_ok {K : PySem.W.Frag} {W : Hp} {lo : Int} {n : Nat} : ItOk K W (Itr lo n) (intsD lo n) := fun i W1 H1 s1 s2 => by
  refine ⟨fun d hd => ?_, fun hl => by
    show n ≤ i
    simpa [intsD] using hl⟩
  unfold intsD at hd
  rw [List.getElem?_map] at hd
  by_cases hi : i < n
  · rw [List.getElem?_eq_getElem (by simpa using hi)] at hd
    simp at hd
    subst hd
    refine ⟨hi, fun x H' y => ?_⟩
    obtain ⟨rfl, rfl⟩ := y
    exact ⟨W1, .refl s2, .int _⟩
  · rw [List.getElem?_eq_none (by simpa using hi)] at hd; cases hd
def asInts : List Val → Option (List Int)
  | [] => some []
  | .sh (.int i) :: r => (asInts r).map (i :: ·)
  | _ :: _ => none
theorem asInts_ok {K : PySem.W.Frag} {fg W H : Hp} {σ : L2.St} {e : Env} : ∀ {as : List Val} {is : List Int} {vs : List V}, asInts as = some is → ValsOk K fg W H σ e vs as → vs = is.map V.int := by
  intro as
  induction as with
  | nil => intro is vs q h; cases q; cases vs with
    | nil => rfl
    | cons _ _ => exact h.elim
  | cons a as ih =>
    intro is vs q h
    cases vs with
    | nil => exact h.elim
    | cons v vs =>
      cases a with
      | ow d => cases q
      | bw i => cases q
      | sh d =>
        cases d with
        | int i =>
          unfold asInts at q
          cases z : asInts as with
          | none => rw [z] at q; cases q
          | some js =>
            rw [z] at q
            cases q
            have h1 : Rep K W v (.int i) := h.1
            cases h1
            rw [List.map_cons, ih z h.2.1]
        | _ => cases q
noncomputable def mR1 (n : M (List Val)) : M (List D) := M.bind n fun as e => match asInts as with
  | some [j] => if dec (-(2 ^ 62) ≤ j ∧ j < 2 ^ 62) = true then .ok (intsD 0 j.toNat) e else .no
  | _ => .no
noncomputable def mR2 (n : M (List Val)) : M (List D) := M.bind n fun as e => match asInts as with
  | some [i, j] => if dec ((-(2 ^ 62) ≤ i ∧ i < 2 ^ 62) ∧ -(2 ^ 62) ≤ j ∧ j < 2 ^ 62) = true then .ok (intsD i (j - i).toNat) e else .no
  | _ => .no
theorem di_range1 {tg a : Expr} {n : M (List Val)} {p pos : Pos} (hg : Gl X "range") (hm : X.mg "range" = none) (ha : DA X Wx [a] n) (hs : starEach [a] X.env = [(false, eval a X.env)] := by rfl) : DI X Wx tg (.Call (.Name "range" p) [a] [] pos) (mR1 n) :=
  PI.wk (pi_range1 hg hm ha hs) (by
    rintro σ H R ⟨fg, la, W, e, rl, h⟩
    refine ⟨fg, la, W, e, rl, (Post.bind h).mono fun W1 H1 e1 as s1 r1 h1 vs hv => ?_⟩
    split at h1
    · rename_i j q
      have ev := asInts_ok q hv
      split at h1
      · rename_i c
        have c := of_dec c
        exact ⟨j, ev, c.1, c.2, (show Post X Wx fg la W1 σ (fun W' H' e' ds => ∀ J, ItOk X.K W' J ds → R J H') (.ok _ e1) from h1).here r1 _ itr_ok⟩
      · exact (show False from h1).elim
    · exact (show False from h1).elim)
theorem di_range2 {tg a b : Expr} {n : M (List Val)} {p pos : Pos} (hg : Gl X "range") (hm : X.mg "range" = none) (ha : DA X Wx [a, b] n) (hs : starEach [a, b] X.env = [(false, eval a X.env), (false, eval b X.env)] := by rfl) (hs2 : starEach [b] X.env = [(false, eval b X.env)] := by rfl) :
    DI X Wx tg (.Call (.Name "range" p) [a, b] [] pos) (mR2 n) :=
  PI.wk (pi_range2 hg hm ha hs hs2) (by
    rintro σ H R ⟨fg, la, W, e, rl, h⟩
    refine ⟨fg, la, W, e, rl, (Post.bind h).mono fun W1 H1 e1 as s1 r1 h1 vs hv => ?_⟩
    split at h1
    · rename_i i j q
      have ev := asInts_ok q hv
      split at h1
      · rename_i c
        have c := of_dec c
        exact ⟨i, j, ev, ⟨c.1.1, c.1.2, c.2.1, c.2.2⟩, (show Post X Wx fg la W1 σ (fun W' H' e' ds => ∀ J, ItOk X.K W' J ds → R J H') (.ok _ e1) from h1).here r1 _ itr_ok⟩
      · exact (show False from h1).elim
    · exact (show False from h1).elim)

/-! ### for -/
def forL (g : D → Env → Option Env) (b : M Flw) : List D → M Flw
  | [] => sNx
  | d :: ds => fun e => match g d e with
    | none => .no
    | some e1 => match b e1 with
      | .ok .nx e2 => forL g b ds e2
      | .ok .ct e2 => forL g b ds e2
      | .ok .bk e2 => .ok .nx e2
      | .ok (.rt a) e2 => .ok (.rt a) e2
      | .ex x e2 => .ex x e2
      | .no => .no
def sFor (mi : M (List D)) (g : D → Env → Option Env) (b : M Flw) : M Flw := M.bind mi fun ds => forL g b ds
theorem ds_for {tg iter : Expr} {body : List Stmt} {mi : M (List D)} {is : List Nat} {g : D → Env → Option Env} {mb : M Flw} {pos : Pos} (hp : PassesOwn (model X.prog X.w) X.A X.env X.xe) (hc : X.calm = true) (hi : DI X Wx tg iter mi) (hg : DG X tg is g) (hb : DSs X Wx body mb)
    (hs : ∀ x, foldedSetIterable iter X.env x = pure x := by intro _; rfl) : DS X Wx (.For tg iter body [] pos) (sFor mi g mb) := PS.wk (ps_for hp hc hi hg hb hs) (by
  rintro Dn σ H ⟨fg, la, W, e, rl, h⟩
  refine ⟨fg, la, W, e, rl, (PostS.bind h).mono fun W1 H1 e1 ds s1 r1 h1 J hJ => ?_⟩
  refine ⟨fun i m σ H => m = ds.length - i ∧ ∃ W2 e2, Sub W1 W2 ∧ Rel X.K fg la W2 H σ e2 ∧ PostS X Wx fg la W2 Dn (forL g mb (ds.drop i) e2), ⟨_, rfl, W1, e1, .refl _, r1, h1⟩, ?_⟩
  rintro i m σ2 H2 ⟨rfl, W2, e2, s2, r2, p2⟩
  obtain ⟨go, st⟩ := hJ i W2 H2 s2 r2.sub
  by_cases hlt : i < ds.length
  · have hd : ds[i]? = some ds[i] := List.getElem?_eq_getElem hlt
    obtain ⟨g1, y⟩ := go _ hd
    have ed : ds.drop i = ds[i] :: ds.drop (i + 1) := List.drop_eq_getElem_cons hlt
    rw [ed] at p2
    refine .inr ⟨g1, fun σ' H' => ∃ W2 e2, Sub W1 W2 ∧ Rel X.K fg la W2 H' σ' e2 ∧ PostS X Wx fg la W2 Dn (forL g mb (ds.drop (i + 1)) e2), fun σ' H' n => ⟨ds.length - (i + 1), by omega, rfl, n⟩, fun x H' yx => ?_⟩
    obtain ⟨W3, t3, rp⟩ := y x H' yx
    unfold forL at p2
    cases q : g ds[i] e2 with
    | none => rw [q] at p2; exact (show False from p2).elim
    | some e3 =>
      rw [q] at p2
      simp only at p2
      have p2 := PostS.wider p2 t3.w
      refine ⟨fg, la, W3, e2, ds[i], e3, r2.step t3, rp, q, fun σ4 _ _ r4 => ⟨fg, la, W3, e3, r4, ?_⟩⟩
      cases q2 : mb e3 with
      | no => rw [q2] at p2; exact (show False from p2).elim
      | ex x e4 => rw [q2] at p2; exact p2
      | ok f e4 =>
        rw [q2] at p2
        cases f with
        | nx => exact fun W5 H5 σ5 s5 r5 => ⟨W5, e4, (s2.trans t3.w).trans s5, r5, PostS.wider p2 s5⟩
        | ct => exact fun W5 H5 σ5 s5 r5 => ⟨W5, e4, (s2.trans t3.w).trans s5, r5, PostS.wider p2 s5⟩
        | bk => exact p2
        | rt a => exact p2
  · have ed : ds.drop i = [] := List.drop_eq_nil_of_le (by omega)
    rw [ed] at p2
    exact .inl ⟨st (by omega), PostS.nx p2 r2⟩)

/-! ### while: at most so many turns -/
def whileN (c : M Bool) (b : M Flw) : Nat → M Flw
  | 0 => fun _ => .no
  | n + 1 => M.bind c fun k => if k then (fun e => match b e with
      | .ok .nx e2 => whileN c b n e2
      | .ok .ct e2 => whileN c b n e2
      | .ok .bk e2 => .ok .nx e2
      | .ok (.rt a) e2 => .ok (.rt a) e2
      | .ex x e2 => .ex x e2
      | .no => .no) else sNx
theorem ds_while {c : Expr} {body : List Stmt} {mc : M Bool} {mb : M Flw} {pos : Pos} (n : Nat) (hp : PassesOwn (model X.prog X.w) X.A X.env X.xe) (hc : DT X Wx c mc) (hb : DSs X Wx body mb) : DS X Wx (.While c body [] pos) (whileN mc mb n) := PS.wk (ps_while hp hc hb) (by
  rintro Dn σ H ⟨fg, la, W, e, rl, h⟩
  refine ⟨fun m σ H => ∃ W2 e2, Sub W W2 ∧ Rel X.K fg la W2 H σ e2 ∧ PostS X Wx fg la W2 Dn (whileN mc mb m e2), ⟨n, W, e, .refl _, rl, h⟩, ?_⟩
  rintro m σ2 H2 ⟨W2, e2, s2, r2, p2⟩
  cases m with
  | zero => exact (show False from p2).elim
  | succ m =>
    refine ⟨fg, la, W2, e2, r2, (PostS.bind p2).mono fun W3 H3 e3 k s3 r3 h3 => ?_⟩
    cases k with
    | false => exact PostS.nx h3 r3
    | true =>
      simp only [if_true] at h3 ⊢
      refine ⟨fun σ' H' => ∃ W2 e2, Sub W W2 ∧ Rel X.K fg la W2 H' σ' e2 ∧ PostS X Wx fg la W2 Dn (whileN mc mb m e2), fun σ' H' q => ⟨m, Nat.lt_succ_self _, q⟩, fg, la, W3, e3, r3, ?_⟩
      cases q2 : mb e3 with
      | no => rw [q2] at h3; exact (show False from h3).elim
      | ex x e4 => rw [q2] at h3; exact h3
      | ok f e4 =>
        rw [q2] at h3
        cases f with
        | nx => exact fun W5 H5 σ5 s5 r5 => ⟨W5, e4, (s2.trans s3).trans s5, r5, PostS.wider h3 s5⟩
        | ct => exact fun W5 H5 σ5 s5 r5 => ⟨W5, e4, (s2.trans s3).trans s5, r5, PostS.wider h3 s5⟩
        | bk => exact h3
        | rt a => exact h3)
end

/-! ### list comprehensions -/
def wipeE (e : Env) : List Nat → Env
  | [] => e
  | v :: vs => (wipeE e vs).set v .un
/-- the names that a block had for its own are as they were -/
def back (e0 e : Env) : List Nat → Env
  | [] => e
  | v :: vs => (back e0 e vs).set v (match e0[v]? with
    | some (.sh d) => .sh d
    | _ => .un)
section
variable {K : PySem.W.Frag} {fg : Hp} {la : Nat → Addr} {W W' H H' : Hp} {σ σ' : L2.St} {e e0 : Env}
theorem Rel.wipe1 (r : Rel K fg la W H σ e) (i : Nat) (s : Option V) : Rel K fg la W H (σ.set i s) (e.set i .un) where
  sub := r.sub
  frn := r.frn
  len := by rw [List.length_set, List.length_set]; exact r.len
  cell := fun j c q => by
    by_cases z : i = j
    · subst z
      by_cases hi : i < e.length
      · rw [List.getElem?_set_self hi] at q; cases q; trivial
      · rw [List.getElem?_eq_none (by simpa using hi)] at q; cases q
    · rw [List.getElem?_set_ne z] at q ⊢
      exact r.cell j c q
  apart := fun j k c c' p ne q1 q2 o1 o2 s1 s2 => by
    by_cases z : i = j
    · subst z
      by_cases hi : i < e.length
      · rw [List.getElem?_set_self hi] at q1; cases q1; cases o1
      · rw [List.getElem?_eq_none (by simpa using hi)] at q1; cases q1
    · by_cases y : i = k
      · subst y
        by_cases hi : i < e.length
        · rw [List.getElem?_set_self hi] at q2; cases q2; cases o2
        · rw [List.getElem?_eq_none (by simpa using hi)] at q2; cases q2
      · rw [List.getElem?_set_ne z] at q1 s1
        rw [List.getElem?_set_ne y] at q2 s2
        exact r.apart j k c c' p ne q1 q2 o1 o2 s1 s2
theorem Rel.wiped (r : Rel K fg la W H σ e) : ∀ vs : List Nat, Rel K fg la W H (wipe σ vs) (wipeE e vs)
  | [] => r
  | v :: vs => (Rel.wiped r vs).wipe1 v none
theorem wipe_get {σ : L2.St} : ∀ {vs : List Nat} {j : Nat}, j ∉ vs → (wipe σ vs)[j]? = σ[j]?
  | [], _, _ => rfl
  | v :: vs, j, h => by
    unfold L2.wipe
    rw [List.getElem?_set_ne (fun z => h (by rw [z]; exact List.mem_cons_self))]
    exact wipe_get fun m => h (List.mem_cons_of_mem _ m)
theorem wipe_in {σ : L2.St} : ∀ {vs : List Nat} {j : Nat}, j ∈ vs → (wipe σ vs)[j]? = none ∨ (wipe σ vs)[j]? = some none
  | [], _, h => by cases h
  | v :: vs, j, h => by
    unfold L2.wipe
    by_cases z : v = j
    · subst z
      by_cases hl : v < (wipe σ vs).length
      · exact .inr (List.getElem?_set_self hl)
      · exact .inl (by rw [List.getElem?_eq_none (by simpa using hl)])
    · rw [List.getElem?_set_ne z]
      exact wipe_in ((List.mem_cons.mp h).resolve_left fun q => z q.symm)
theorem wipe_ext {σ σ' : L2.St} {vs : List Nat} (hl : σ'.length = σ.length) (h : ∀ j : Nat, j ∉ vs → σ'[j]? = σ[j]?) : wipe σ' vs = wipe σ vs := by
  apply List.ext_getElem?
  intro j
  by_cases m : j ∈ vs
  · by_cases hj : j < σ.length
    · have a := wipe_in (σ := σ') m
      have b := wipe_in (σ := σ) m
      have la : j < (wipe σ' vs).length := by rw [wipe_length, hl]; exact hj
      have lb : j < (wipe σ vs).length := by rw [wipe_length]; exact hj
      rw [List.getElem?_eq_getElem la] at a ⊢
      rw [List.getElem?_eq_getElem lb] at b ⊢
      rcases a with a | a <;> rcases b with b | b <;> first | cases a | cases b | (rw [a, b])
    · rw [List.getElem?_eq_none (by rw [wipe_length, hl]; omega), List.getElem?_eq_none (by rw [wipe_length]; omega)]
  · rw [wipe_get m, wipe_get m, h j m]
theorem back_len : ∀ vs : List Nat, (back e0 e vs).length = e.length
  | [] => rfl
  | v :: vs => by unfold back; rw [List.length_set, back_len vs]
theorem wipeE_len : ∀ vs : List Nat, (wipeE e vs).length = e.length
  | [] => rfl
  | v :: vs => by unfold wipeE; rw [List.length_set, wipeE_len vs]
theorem back_get : ∀ {vs : List Nat} {j : Nat}, (back e0 e vs)[j]? = if j ∈ vs ∧ j < e.length then some (match e0[j]? with
    | some (.sh d) => .sh d
    | _ => .un) else e[j]?
  | [], j => by simp [back]
  | v :: vs, j => by
    unfold back
    by_cases z : v = j
    · subst z
      by_cases hl : v < e.length
      · rw [List.getElem?_set_self (by rw [back_len]; exact hl), if_pos ⟨List.mem_cons_self, hl⟩]
      · rw [List.getElem?_eq_none (by rw [List.length_set, back_len]; omega), if_neg (fun h => hl h.2), List.getElem?_eq_none (by omega)]
    · rw [List.getElem?_set_ne z, back_get (vs := vs)]
      by_cases m : j ∈ vs ∧ j < e.length
      · rw [if_pos m, if_pos ⟨List.mem_cons_of_mem _ m.1, m.2⟩]
      · rw [if_neg m, if_neg (fun h => m ⟨(List.mem_cons.mp h.1).resolve_left fun q => z q.symm, h.2⟩)]
/-- behind the block -/
theorem Rel.backed {vs : List Nat} (r0 : Rel K fg la W H σ e0) (s : Sub W W') (r : Rel K fg la W' H' (wipe σ vs) e) : Rel K fg la W' H' σ (back e0 e vs) where
  sub := r.sub
  frn := r.frn
  len := by rw [back_len, r.len, wipe_length]
  cell := fun j c q => by
    rw [back_get] at q
    by_cases m : j ∈ vs ∧ j < e.length
    · rw [if_pos m] at q
      cases q
      split
      · rename_i d z
        obtain ⟨v, h1, h2⟩ := r0.cell j _ z
        exact ⟨v, h1, h2.mono s⟩
      · trivial
    · rw [if_neg m] at q
      have hj : j < e.length := (List.getElem?_eq_some_iff.mp q).1
      have := r.cell j c q
      rw [wipe_get (fun h => m ⟨h, hj⟩)] at this
      exact this
  apart := fun j k c c' p ne q1 q2 o1 o2 s1 s2 => by
    have key : ∀ (j : Nat) c, (back e0 e vs)[j]? = some c → c.own = true → j ∉ vs ∧ e[j]? = some c := fun j c q o => by
      rw [back_get] at q
      by_cases m : j ∈ vs ∧ j < e.length
      · rw [if_pos m] at q
        cases q
        split at o <;> cases o
      · rw [if_neg m] at q
        exact ⟨fun h => m ⟨h, (List.getElem?_eq_some_iff.mp q).1⟩, q⟩
    obtain ⟨m1, k1⟩ := key j c q1 o1
    obtain ⟨m2, k2⟩ := key k c' q2 o2
    exact r.apart j k c c' p ne k1 k2 o1 o2 (by rw [wipe_get m1]; exact s1) (by rw [wipe_get m2]; exact s2)
end
abbrev WF : WX := fun _ _ _ _ => False
def lcL (vs : List Nat) (g : D → Env → Option Env) (mt : M Bool) (me : M Val) : List D → List D → Env → Option (List D × Env)
  | [], acc, e => some (acc, e)
  | d :: ds, acc, e => match g d e with
    | none => none
    | some e1 => match mt e1 with
      | .ok true e2 => match me e2 with
        | .ok a e3 => match esc e3 a with
          | some (x, e4) => if acc.length < 1000000 then lcL vs g mt me ds (acc ++ [x]) (wipeE e4 vs) else none
          | none => none
        | _ => none
      | .ok false e2 => lcL vs g mt me ds acc (wipeE e2 vs)
      | _ => none
def mLc (vs : List Nat) (mi : M (List D)) (g : D → Env → Option Env) (mt : M Bool) (me : M Val) : M Val := M.bind mi fun ds e => match lcL vs g mt me ds [] (wipeE e vs) with
  | some (acc, e') => .ok (.ow (.lst acc)) (back e e' vs)
  | none => .no
theorem ltBig {n : Nat} (h : n < 1000000) : n < sizeLine := Nat.lt_trans h (by rw [sizeLine_eq]; decide)
section
variable {X : Cx} {Wx : WX}
/-- what is foreign may be written anew -/
theorem Rel.write {K : PySem.W.Frag} {fg : Hp} {la : Nat → Addr} {W H : Hp} {σ : L2.St} {e : Env} {p : Addr} {o o' : HO} (r : Rel K (upd fg p o) la W H σ e) (fp : fg p = none) (nt : NT o) : Rel K (upd fg p o') la W (upd H p o') σ e := by
  have hp := r.frn p o upd_same
  have hpn := hp.2 nt
  have less : Rel K fg la W H σ e := r.less (.new fp)
  have nown : ∀ (i : Nat) c, e[i]? = some c → c.own = true → σ[i]? ≠ some (some (V.ref p)) := fun i c qc oc s => by
    obtain ⟨b, d, s', w, f, ow, _⟩ := (r.cell i c qc).at_ oc
    rw [s] at s'; cases s'
    rw [upd_same] at f; cases f
  have r2 : Rel K fg la W (upd H p o') σ e := by
    refine ⟨fun a u z => ?_, fun a u z => ?_, less.len, fun j c qc => ?_, less.apart⟩
    · rw [upd_ne (fun w => by rw [w, hpn] at z; cases z)]; exact less.sub a u z
    · rw [upd_ne (fun w => by rw [w, fp] at z; cases z)]; exact less.frn a u z
    · have k := less.cell j c qc
      cases c with
      | un => trivial
      | sh d => exact k
      | ow d =>
        obtain ⟨b, h1, h2, h3, h4⟩ := k
        exact ⟨b, h1, h2, h3, h4.mono (.refl _) fun u hu => by rw [upd_ne (fun w => nown j _ qc rfl (by rw [h1, w]))]; exact hu⟩
      | ln d =>
        obtain ⟨h1, h2, h3, h4⟩ := k
        exact ⟨h1, h2, h3, h4.mono (.refl _) fun u hu => by rw [upd_ne (fun w => nown j _ qc rfl (by rw [h1, w]))]; exact hu⟩
  exact r2.keep upd_same hpn nown
/-- the turns of a comprehension -/
theorem lc_loop {vs is : List Nat} {g : D → Env → Option Env} {mt : M Bool} {me : M Val} (hi : ∀ j ∈ is, j ∈ vs) {σ : L2.St} {H0 W0 fg : Hp} {la : Nat → Addr} {e0 eF : Env} {ds acc0 accF : List D} {vacc0 : List V} {J : It} {Dl : Addr} {Qe : Hp → Prop} (fD : fg Dl = none)
    (r0 : Rel X.K (upd fg Dl (.lst vacc0)) la W0 H0 (wipe σ vs) e0) (ra0 : Reps X.K W0 vacc0 acc0) (p0 : lcL vs g mt me ds acc0 e0 = some (accF, eF)) (hJ : ItOk X.K W0 J ds)
    (fin : ∀ W2 H2 vaccF, Sub W0 W2 → Rel X.K (upd fg Dl (.lst vaccF)) la W2 H2 (wipe σ vs) eF → Reps X.K W2 vaccF accF → Qe H2) :
    ∃ Wi : Nat → Nat → Hp → Prop, (∃ m, Wi 0 m H0) ∧ ∀ (i m : Nat) (H : Hp), Wi i m H → (J.stop i H ∧ Qe H) ∨ (J.go i H ∧ ∃ Nx : Hp → Prop, (∀ H', Nx H' → ∃ m', m' < m ∧ Wi (i + 1) m' H') ∧ ∀ (x : V) (H' : Hp), J.yld i H x H' →
      rdG X.K is g x (wipe σ vs) H' fun σ2 H2 => wipe σ2 vs = wipe σ vs ∧ rdT X WF mt σ2 H2 fun b H3 => if b = true then rdE X WF me σ2 H3 (fun y H7 => ∃ acc, H7 Dl = some (.lst acc) ∧ acc.length < sizeLine ∧ Nx (upd H7 Dl (.lst (acc ++ [y])))) else Nx H3) := by
  refine ⟨fun i m H => m = ds.length - i ∧ ∃ W2 e2 acc vacc, Sub W0 W2 ∧ H Dl = some (.lst vacc) ∧ Reps X.K W2 vacc acc ∧ Rel X.K (upd fg Dl (.lst vacc)) la W2 H (wipe σ vs) e2 ∧ lcL vs g mt me (ds.drop i) acc e2 = some (accF, eF),
    ⟨_, rfl, W0, e0, acc0, vacc0, .refl _, (r0.frn Dl _ upd_same).1, ra0, r0, p0⟩, ?_⟩
  rintro i m H2 ⟨rfl, W2, e2, acc, vacc, s2, hd2, ra, r2, p2⟩
  obtain ⟨go, st⟩ := hJ i W2 H2 s2 r2.sub
  by_cases hlt : i < ds.length
  · have hd : ds[i]? = some ds[i] := List.getElem?_eq_getElem hlt
    obtain ⟨g1, y⟩ := go _ hd
    have ed : ds.drop i = ds[i] :: ds.drop (i + 1) := List.drop_eq_getElem_cons hlt
    rw [ed] at p2
    refine .inr ⟨g1, fun H => ∃ W2 e2 acc vacc, Sub W0 W2 ∧ H Dl = some (.lst vacc) ∧ Reps X.K W2 vacc acc ∧ Rel X.K (upd fg Dl (.lst vacc)) la W2 H (wipe σ vs) e2 ∧ lcL vs g mt me (ds.drop (i + 1)) acc e2 = some (accF, eF),
      fun H' n => ⟨ds.length - (i + 1), by omega, rfl, n⟩, fun x H' yx => ?_⟩
    obtain ⟨W3, t3, rp⟩ := y x H' yx
    unfold lcL at p2
    cases q : g ds[i] e2 with
    | none => rw [q] at p2; cases p2
    | some e3 =>
      rw [q] at p2
      simp only at p2
      refine ⟨upd fg Dl (.lst vacc), la, W3, e2, ds[i], e3, r2.step t3, rp, q, fun σ4 l4 o4 r4 => ?_⟩
      have w4 : wipe σ4 vs = wipe σ vs := by
        have e1 := wipe_ext (σ := wipe σ vs) (σ' := σ4) (vs := vs) l4 fun j hj => o4 j fun m => hj (hi j m)
        have e2 := wipe_ext (σ := σ) (σ' := wipe σ vs) (vs := vs) (wipe_length σ vs) fun j hj => wipe_get hj
        exact e1.trans e2
      refine ⟨w4, upd fg Dl (.lst vacc), la, W3, e3, r4, ?_⟩
      cases q2 : mt e3 with
      | no => rw [q2] at p2; cases p2
      | ex z e4 => rw [q2] at p2; cases p2
      | ok b e4 =>
        rw [q2] at p2
        intro W5 H5 s5 r5
        cases b with
        | false =>
          simp only at p2
          rw [if_neg Bool.false_ne_true]
          refine ⟨W5, wipeE e4 vs, acc, vacc, (s2.trans t3.w).trans s5, (r5.frn Dl _ upd_same).1, ra.mono (t3.w.trans s5), ?_, p2⟩
          have := r5.wiped vs
          rw [w4] at this
          exact this
        | true =>
          simp only at p2
          rw [if_pos rfl]
          refine ⟨upd fg Dl (.lst vacc), la, W5, e4, r5, ?_⟩
          cases q3 : me e4 with
          | no => rw [q3] at p2; cases p2
          | ex z e5 => rw [q3] at p2; cases p2
          | ok a e5 =>
            rw [q3] at p2
            simp only at p2
            intro W6 H6 s6 r6 v hv
            cases q4 : esc e5 a with
            | none => rw [q4] at p2; cases p2
            | some pp =>
              obtain ⟨xd, e6⟩ := pp
              rw [q4] at p2
              simp only at p2
              obtain ⟨W7, s7, r7, rv⟩ := esc_ok r6 hv q4
              by_cases hl : acc.length < 1000000
              · rw [if_pos hl] at p2
                have hd6 := (r7.frn Dl _ upd_same)
                have ra7 : Reps X.K W7 vacc acc := ra.mono (((t3.w.trans s5).trans s6).trans s7)
                refine ⟨vacc, hd6.1, ltBig (by rw [ra7.length]; exact hl), W7, wipeE e6 vs, acc ++ [xd], vacc ++ [v], (((s2.trans t3.w).trans s5).trans s6).trans s7, upd_same, ra7.append (.one rv), ?_, p2⟩
                have rw7 := r7.wiped vs
                rw [w4] at rw7
                exact rw7.write fD fun xs => by simp
              · rw [if_neg hl] at p2; cases p2
  · have ed : ds.drop i = [] := List.drop_eq_nil_of_le (by omega)
    rw [ed] at p2
    obtain ⟨rfl, rfl⟩ : acc = accF ∧ e2 = eF := by
      have z := Option.some.inj p2
      exact ⟨congrArg Prod.fst z, congrArg Prod.snd z⟩
    exact .inl ⟨st (by omega), fin W2 H2 vacc s2 r2 ra⟩
/-- the comprehension, what it walks being known -/
theorem rd_lcB {vs is : List Nat} {g : D → Env → Option Env} {mt : M Bool} {me : M Val} (hi : ∀ j ∈ is, j ∈ vs) {σ : L2.St} {H1 W1 fg : Hp} {la : Nat → Addr} {e1 : Env} {ds : List D} {J : It} {Q : VK} (r1 : Rel X.K fg la W1 H1 σ e1)
    (h1 : Post X Wx fg la W1 σ (fun W' H' e' a => ∀ v, ValOk X.K fg W' H' σ e' v a → Q v H') (match lcL vs g mt me ds [] (wipeE e1 vs) with
  | some (acc, e') => .ok (.ow (.lst acc)) (back e1 e' vs)
  | none => .no)) (hJ : ItOk X.K W1 J ds) : tLc (fun _ H R => R J H) (rdG X.K is g) (rdT X WF mt) (rdE X WF me) vs σ H1 Q := by
  intro Dl hD
  cases q0 : lcL vs g mt me ds [] (wipeE e1 vs) with
  | none => rw [q0] at h1; exact (show False from h1).elim
  | some p0 =>
    obtain ⟨accF, eF⟩ := p0
    rw [q0] at h1
    have h1 : ∀ W' H', Sub W1 W' → Rel X.K fg la W' H' σ (back e1 eF vs) → ∀ v, ValOk X.K fg W' H' σ (back e1 eF vs) v (.ow (.lst accF)) → Q v H' := h1
    have fD : fg Dl = none := by
      cases z : fg Dl with
      | none => rfl
      | some u => have := (r1.frn Dl u z).1; rw [hD] at this; cases this
    have start : Rel X.K (upd fg Dl (.lst [])) la W1 (upd H1 Dl (.lst [])) (wipe σ vs) (wipeE e1 vs) := by
      have t : Step W1 H1 W1 (upd H1 Dl (.lst [])) := .newH r1.sub hD
      refine ((r1.step t).wiped vs).keep upd_same (r1.sub.none hD) fun i c qc o s => ?_
      obtain ⟨p, d, s', w, f, ow, _⟩ := ((r1.wiped vs).cell i c qc).at_ o
      rw [s] at s'; cases s'
      obtain ⟨u, hu⟩ := ow.some
      rw [hD] at hu; cases hu
    refine lc_loop (Qe := fun H2 => Q (.ref Dl) H2) hi fD start .nil q0 hJ fun W2 H2 vaccF s2 r2 ra => ?_
    have hd2' := r2.frn Dl _ upd_same
    have rb : Rel X.K fg la W2 H2 σ (back e1 eF vs) := Rel.backed r1 s2 (r2.less (.new fD))
    refine h1 W2 H2 s2 rb _ ⟨Dl, rfl, (hd2'.2 fun xs => by simp), fD, ⟨vaccF, hd2'.1, ra⟩, fun j c qc o s => ?_⟩
    rw [back_get] at qc
    by_cases mm : j ∈ vs ∧ j < eF.length
    · rw [if_pos mm] at qc
      cases qc
      split at o <;> cases o
    · rw [if_neg mm] at qc
      obtain ⟨p, d, s', w, f, ow, _⟩ := (r2.cell j c qc).at_ o
      rw [wipe_get (fun h => mm ⟨h, (List.getElem?_eq_some_iff.mp qc).1⟩), s] at s'
      cases s'
      rw [upd_same] at f; cases f
theorem rd_lc {vs is : List Nat} {mi : M (List D)} {g : D → Env → Option Env} {mt : M Bool} {me : M Val} (hi : ∀ j ∈ is, j ∈ vs) {σ : L2.St} {H : Hp} {Q : VK} (h : rdE X Wx (mLc vs mi g mt me) σ H Q) :
    tLc (rdI X Wx mi) (rdG X.K is g) (rdT X WF mt) (rdE X WF me) vs σ H Q := by
  obtain ⟨fg, la, W, e, rl, h⟩ := h
  exact ⟨fg, la, W, e, rl, (Post.bind h).mono fun W1 H1 e1 ds s1 r1 h1 J hJ => rd_lcB hi r1 h1 hJ⟩
/-- the block's judgements hold in each of its contexts -/
def Blk (X : Cx) (scope : Scope) (P : Cx → Prop) : Prop := ∀ (s : Shared) (H : Hp) (C : Addr) (cl : List (Str × Addr)) (fp : List Addr), P (X.blk s H scope (compEnvC scope cl C X.env) fp)
def DTs (X : Cx) (Wx : WX) (ifs : List Expr) (m : M Bool) : Prop := PTs X ifs (rdT X Wx m)
theorem de_lc {elt tg iter : Expr} {ifs : List Expr} {scope : Scope} {own : List (Str × Nat)} {is : List Nat} {pos : Pos} {mi : M (List D)} {g : D → Env → Option Env} {mt : M Bool} {me : M Val} (hc : X.calm = true) (hN : X.N.Nodup) (hi : DI X Wx tg iter mi) (ok : BlkOk X.N X.env.scope scope own)
    (hg : Blk X scope fun Y => DG Y tg is g) (ht : Blk X scope fun Y => DTs Y WF ifs mt) (he : Blk X scope fun Y => DE Y WF elt me) (hv : ∀ j ∈ is, j ∈ own.map (·.2)) (hs : ∀ x, foldedSetIterable iter X.env x = pure x := by intro _; rfl) :
    DE X Wx (.ListComp elt [⟨tg, iter, ifs, 0⟩] scope pos) (mLc (own.map (·.2)) mi g mt me) :=
  PE.wk (pe_lc (g := rdG X.K is g) (tt := rdT X WF mt) (te := rdE X WF me) hc hN hi ok (fun s H C cl fp => hg s H C cl fp) (fun s H C cl fp => ht s H C cl fp) (fun s H C cl fp => he s H C cl fp) hs) fun _ _ _ h => rd_lc hv h
theorem ds_setLc {i : Nat} {y : Str} {py : Pos} {elt tg iter : Expr} {ifs : List Expr} {scope : Scope} {own : List (Str × Nat)} {is : List Nat} {pos spos : Pos} {mi : M (List D)} {g : D → Env → Option Env} {mt : M Bool} {me : M Val} (hc : X.calm = true) (hN : X.N.Nodup) (hy : X.N[i]? = some y) (hyl : X.env.scope.names.lookup y = some .local)
    (hsw : swapsWith (.ListComp elt [⟨tg, iter, ifs, 0⟩] scope pos) (some (.Name y py)) spos.line X.env = pure true) (hi : DI X Wx tg iter mi) (ok : BlkOk X.N X.env.scope scope own)
    (hg : Blk X scope fun Y => DG Y tg is g) (ht : Blk X scope fun Y => DTs Y WF ifs mt) (he : Blk X scope fun Y => DE Y WF elt me) (hv : ∀ j ∈ is, j ∈ own.map (·.2)) (hs : ∀ x, foldedSetIterable iter X.env x = pure x := by intro _; rfl) :
    DS X Wx (.Assign [.Name y py] (.ListComp elt [⟨tg, iter, ifs, 0⟩] scope pos) spos) (sSet i (mLc (own.map (·.2)) mi g mt me)) :=
  PS.wk (ps_setLc (g := rdG X.K is g) (tt := rdT X WF mt) (te := rdE X WF me) hc hN hy hyl hsw hi ok (fun s H C cl fp => hg s H C cl fp) (fun s H C cl fp => ht s H C cl fp) (fun s H C cl fp => he s H C cl fp) hs) fun D σ H h => by
    obtain ⟨fg, la, W, e, rl, z⟩ := rd_set h
    exact rd_lc hv ⟨fg, la, W, e, rl, z⟩
end
end VS

/-! VG0: a def's promise where no reader of a list's or a tuple's repr is at work (the guards are known), its call, its body, a law's end. -/
namespace VS
open PySem PySem.Spec PyProof.Rows L2

/-- FnOk, asked only where the guards are known to be none -/
structure FnG (P : Program) (w : World) (K : PySem.W.Frag) (mg : Str → Option Value) (base : Heap) (k : Nat) (f : Addr) (fd : FuncData) (ps : List Str) (sp : Sp) : Prop where
  len : ∀ vs H Q E, sp vs H Q E → vs.length = ps.length
  go : ∀ (A : Around) (outer : List PySem.Env) (s : Shared) (H : Hp) (args : Args) (us : List Value) (vs : List V) (Q : VK) (E : XK), Room k A → A.guards = some [] → Env0 P w K mg base A outer s H → BindsTo s fd args (ps.zip us) →
    Vals vs us → sp vs H Q E → codeAny (model P w) A (.call (.ref f) args) (CR (L2.CX P w) outer P w H s Q E) s
section
variable {P : Program} {w : World} {K : PySem.W.Frag} {mg : Str → Option Value} {base : Heap} {k : Nat} {f : Addr} {fd : FuncData} {ps : List Str} {sp : Sp}
theorem FnG.up {j : Nat} (F : FnG P w K mg base j f fd ps sp) (h : j ≤ k) : FnG P w K mg base k f fd ps sp :=
  ⟨F.len, fun A outer s H args us vs Q E hr => F.go A outer s H args us vs Q E (hr.mono h)⟩
/-- its body keeps it -/
theorem FunD.good {x qual : Str} {params : Arguments} {body : List Stmt} {scope : Scope} {dvs : List V} {kws : List (Str × V)} {N : List Str} (F : FunD K x qual params body scope dvs kws f fd) (S : FnScope N ps scope) (len : ∀ vs H Q E, sp vs H Q E → vs.length = ps.length)
    (hb : ∀ (cdv : Value) (A : Around) (outer : List PySem.Env) (s : Shared) (H : Hp) (vs : List V) (Q : VK) (E : XK), Room k (A.deeper (envOfC qual scope s.heap.objs.size f cdv)) → A.guards = some [] → sp vs H Q E →
      ∃ t, PSs (cxOf (L2.CX P w) P w K mg base N qual scope f cdv A outer s H E) body t ∧ t { nx := fun _ H' => Q .non H', rt := Q } (L2.start N vs) H) : FnG P w K mg base (k + 1) f fd ps sp := by
  obtain ⟨oc, od, dV, kV, doc, pm, an, cdv, ct, osl, efd, lk, hcd, _, _⟩ := F.ex
  subst efd
  refine ⟨len, fun A outer s H args us vs Q E hr hgd e0 hbind rv hsp => ?_⟩
  have old : ∀ b o, base.get? b = some o → s.heap.get? b = some o := fun b o e => (e0.bs b o e).1
  refine codeAny_call_function hr.depth (e0.mod.kin.keeps old _ _ lk) rfl S.co S.gen rfl (PySem.W.codeRec_of (e0.mod.kin.keeps old) hcd) (hbind _ _ _ _ ?_)
  refine wpAny_newFunctionEnv_cells S.kind (fun y hy => ?_) fun env he s1 ic => ?_
  · rcases S.par y.1 (List.of_mem_zip hy).1 with q | q
    · exact .inl q
    · exact .inr ⟨q, PySem.W.cellsFrom_some _ _ _ (.inl q)⟩
  · subst he
    refine ⟨(e0.mod.nolimit.keeps old).keeps ic.toInCall.keep, codeAny_func ?_⟩
    obtain ⟨t, ht, hq⟩ := hb cdv A outer s H vs Q E (hr.deeper _) hgd hsp
    refine wpAny_mono (ht.run [] s1 (L2.start N vs) H _ (inv_start S hr.hd e0 (len _ _ _ _ hsp) rv ic) hq) (fun fl s' z => ?_) fun _ _ z => z
    cases fl with
    | brk => obtain ⟨_, _, _, q⟩ := z; exact q.elim
    | cont => obtain ⟨_, _, _, q⟩ := z; exact q.elim
    | next => obtain ⟨σ', H', J, q⟩ := z; exact ⟨.non, H', J.os, J.bare, J.base, J.hok, rfl, q⟩
    | ret u => obtain ⟨v, σ', H', J, ru, q⟩ := z; exact ⟨v, H', J.os, J.bare, J.base, J.hok, ru, q⟩
end
section
variable {X : Cx} {k : Nat} {f : Addr} {fd : FuncData} {ps : List Str} {sp : Sp} {E : L2.St → XK} {x : Str} {p pos : Pos} {e : Expr} {es : List Expr} {t : TA}
theorem FnG.ran {pins : List (Addr × Obj)} {σ : L2.St} {H : Hp} {s : Shared} {Q : VK} {us : List Value} {vs : List V} (F : FnG X.prog X.w X.K X.mg X.base k f fd ps sp) (hr : Room k X.A) (hgd : X.A.guards = some []) (hb : Binds X.K fd ps []) (hx : PassesAt (L2.CX X.prog X.w) X σ (E σ))
    (I : Inv X pins σ H s) (r : Vals vs us) (h : sp vs H Q (E σ)) : wpAny (model X.prog X.w) X.A (call (.ref f) us) (EP X pins σ Q) X.xe s := by
  have b := hb s us I.kIn (by rw [List.append_nil, ← r.length]; exact F.len _ _ _ _ h)
  rw [List.append_nil] at b
  refine wpAny_call (codeAny_mono (F.go X.A X.stack s H ⟨us, []⟩ us vs Q (E σ) hr hgd I.env0 b r h) fun rs s' z => ?_)
  match rs, z with
  | .error e, z => exact hx pins H s e s' I z
  | .ok (.ret u), z => exact I.after z
  | .ok .next, z => exact z.elim
  | .ok .brk, z => exact z.elim
  | .ok .cont, z => exact z.elim
/-- f(e, ..) -/
theorem pe_callG' (F : FnG X.prog X.w X.K X.mg X.base k f fd ps sp) (hr : Room k X.A) (hgd : X.A.guards = some []) (hg : Gl X x) (hm : X.mg x = some (.ref f)) (hk : PySem.W.keepIn X.K (.ref f) = true) (hb : Binds X.K fd ps []) (hx : ∀ σ, PassesAt (L2.CX X.prog X.w) X σ (E σ))
    (ha : PA X (e :: es) t) (hdb : (x == ("__debug__" : Str)) = false := by decide) (he : starEach (e :: es) X.env = (false, eval e X.env) :: starEach es X.env := by rfl) (hpl : (backTo pos (starEach es X.env)).any (·.1) = false := by rfl) :
    PE X (.Call (.Name x p) (e :: es) [] pos) (tCallS sp E t) :=
  ⟨fun pins s σ H Q I h => wpAny_Call_Name_kw (ld_glob I hg hm (PySem.W.callWith_K (h₀ := X.base) I.ok.mod.kin hk (thn (ha.run pos pins s σ H _ I h) fun _ _ ⟨_, _, I1, r, q⟩ => ⟨I1.kIn, F.ran hr hgd hb (hx σ) I1 r q⟩) he hpl) hdb)⟩
end
end VS

/-! VG: defs: promises by data (Prom0; Prom1 with the first argument lent), their calls, their bodies; raise; lists and dicts changed by name. -/
namespace VS
open PySem PySem.Spec PyProof.Rows L2

/-- what a def gives: its value, the lent first argument behind it -/
inductive FR where
  | ok (a : Val) (l : D) | ex (x : Exn) (l : D) | no
  deriving Inhabited
abbrev Frn (fg W H : Hp) : Prop := ∀ a o, fg a = some o → H a = some o ∧ (NT o → W a = none)
/-- the value of a def -/
def ResOk (K : PySem.W.Frag) (fg W H : Hp) (no : Addr → Prop) (v : V) : Val → Prop
  | .sh d => Rep K W v d
  | .ow d => ∃ p, v = .ref p ∧ W p = none ∧ fg p = none ∧ ¬ no p ∧ Own K W H p d
  | .bw _ => False
def Prom0 (K : PySem.W.Frag) (mg : Str → Option Value) (n : Nat) (F : List D → FR) : Sp := fun vs H Q E => ∃ fg W ds, Sub W H ∧ Frn fg W H ∧ Reps K W vs ds ∧ vs.length = n ∧ match F ds with
  | .ok a _ => ∀ W' H' v, Sub W W' → Sub W' H' → Frn fg W' H' → ResOk K fg W' H' (fun _ => False) v a → Q v H'
  | .ex x _ => ∀ W' H' cls d, Sub W W' → Sub W' H' → Frn fg W' H' → ExOk mg K W' H' cls d x → E cls d H'
  | .no => False
def Prom1 (K : PySem.W.Frag) (mg : Str → Option Value) (n : Nat) (F : List D → FR) : Sp := fun vs H Q E => ∃ fg W p d vs' ds, vs = .ref p :: vs' ∧ Sub W H ∧ Frn fg W H ∧ W p = none ∧ fg p = none ∧ Own K W H p d ∧ Reps K W vs' ds ∧ vs.length = n ∧ match F (d :: ds) with
  | .ok a l => ∀ W' H' v, Sub W W' → Sub W' H' → Frn fg W' H' → W' p = none → Own K W' H' p l → ResOk K fg W' H' (fun q => q = p) v a → Q v H'
  | .ex x l => ∀ W' H' cls d, Sub W W' → Sub W' H' → Frn fg W' H' → W' p = none → Own K W' H' p l → ExOk mg K W' H' cls d x → E cls d H'
  | .no => False
/-- all that is not shared -/
def restOf (W H : Hp) : Hp := fun a => if (W a).isSome then none else H a
def rest1 (W H : Hp) (p : Addr) : Hp := fun a => if (W a).isSome ∨ a = p then none else H a
theorem rest_frn {W H : Hp} : Frn (restOf W H) W H := fun a o h => by
  unfold restOf at h
  split at h
  · cases h
  · rename_i z
    refine ⟨h, fun _ => ?_⟩
    cases q : W a with
    | none => rfl
    | some u => rw [q] at z; simp at z
theorem rest1_frn {W H : Hp} {p : Addr} : Frn (rest1 W H p) W H := fun a o h => by
  unfold rest1 at h
  split at h
  · cases h
  · rename_i z
    refine ⟨h, fun _ => ?_⟩
    cases q : W a with
    | none => rfl
    | some u => rw [q] at z; simp at z
theorem rest_of {W H : Hp} {a : Addr} (h : W a = none) : restOf W H a = H a := by
  unfold restOf; rw [h]; rfl
theorem rest1_of {W H : Hp} {p a : Addr} (h : W a = none) (n : a ≠ p) : rest1 W H p a = H a := by
  unfold rest1; rw [h, if_neg (by simp [n])]
theorem step_of {W H W' H' : Hp} (s : Sub W H) (sw : Sub W W') (s' : Sub W' H') (f : Frn (restOf W H) W' H') : Step W H W' H' where
  w := sw
  h := fun a o h => by
    cases q : W a with
    | none => exact (f a o (by rw [rest_of q]; exact h)).1
    | some u =>
      have e := s a u q
      rw [h] at e
      cases e
      exact s' a o (sw a o q)
  s := s'
  f := fun a o h1 h2 nt => (f a o (by rw [rest_of h1]; exact h2)).2 nt
section
variable {K : PySem.W.Frag} {fg : Hp} {la : Nat → Addr} {W H W' H' : Hp} {σ : L2.St} {e : Env}
/-- a def has run that was lent what the i-th name owns -/
def relent (e : Env) (i : Nat) (l : D) : Option Env := match e[i]? with
  | some (.ow _) => some (e.set i (.ow l))
  | some (.ln _) => some (e.set i (.ln l))
  | _ => none
theorem Rel.lent {i : Nat} {p : Addr} {c : Cell} {l : D} {e' : Env} (r : Rel K fg la W H σ e) (h : e[i]? = some c) (oc : c.own = true) (hp : σ[i]? = some (some (V.ref p))) (sw : Sub W W') (s' : Sub W' H') (f : Frn (rest1 W H p) W' H') (hw : W' p = none) (ow : Own K W' H' p l) (hl : relent e i l = some e') :
    Rel K fg la W' H' σ e' := by
  have hi : i < e.length := (List.getElem?_eq_some_iff.mp h).1
  have keepH : ∀ a o, a ≠ p → H a = some o → H' a = some o := fun a o ne h => by
    cases q : W a with
    | none => exact (f a o (by rw [rest1_of q ne]; exact h)).1
    | some u =>
      have e := r.sub a u q
      rw [h] at e
      cases e
      exact s' a o (sw a o q)
  have keepW : ∀ a o, a ≠ p → W a = none → H a = some o → NT o → W' a = none := fun a o ne h1 h2 nt => (f a o (by rw [rest1_of h1 ne]; exact h2)).2 nt
  have fgp : fg p = none := by
    obtain ⟨b, d, s1, _, ff, _⟩ := (r.cell i c h).at_ oc
    rw [hp] at s1; cases s1; exact ff
  have others : ∀ (j : Nat) c', j ≠ i → e[j]? = some c' → CellOk K fg la W' H' j σ[j]? c' := fun j c' ne q => by
    have k := r.cell j c' q
    cases c' with
    | un => trivial
    | sh d => obtain ⟨v, h1, h2⟩ := k; exact ⟨v, h1, h2.mono sw⟩
    | ow d =>
      obtain ⟨b, h1, h2, h3, h4⟩ := k
      have nb : b ≠ p := fun z => r.apart j i _ c b ne q h rfl oc h1 (by rw [hp, z])
      obtain ⟨o, ho⟩ := h4.some
      exact ⟨b, h1, keepW b o nb h2 ho (h4.nt ho), h3, h4.mono sw fun u hu => keepH b u nb hu⟩
    | ln d =>
      obtain ⟨h1, h2, h3, h4⟩ := k
      have nb : la j ≠ p := fun z => r.apart j i _ c (la j) ne q h rfl oc h1 (by rw [hp, z])
      obtain ⟨o, ho⟩ := h4.some
      exact ⟨h1, keepW _ o nb h2 ho (h4.nt ho), h3, h4.mono sw fun u hu => keepH _ u nb hu⟩
  have build : ∀ c2, e' = e.set i c2 → c2.own = true → CellOk K fg la W' H' i σ[i]? c2 → Rel K fg la W' H' σ e' := fun c2 ee o2 ck => by
    subst ee
    have get : ∀ (j : Nat) c, (e.set i c2)[j]? = some c → (j = i ∧ c = c2) ∨ (j ≠ i ∧ e[j]? = some c) := fun j c q => by
      by_cases z : i = j
      · subst z; rw [List.getElem?_set_self hi] at q; cases q; exact .inl ⟨rfl, rfl⟩
      · rw [List.getElem?_set_ne z] at q; exact .inr ⟨Ne.symm z, q⟩
    refine ⟨s', fun a u q => ?_, by rw [List.length_set]; exact r.len, fun j c' q => ?_, fun j k c1 c1' b ne q1 q2 o1 o1' s1 s2 => ?_⟩
    · obtain ⟨k1, k2⟩ := r.frn a u q
      have na : a ≠ p := fun z => by rw [z, fgp] at q; cases q
      exact ⟨keepH a u na k1, fun nt => keepW a u na (k2 nt) k1 nt⟩
    · rcases get j c' q with ⟨rfl, rfl⟩ | ⟨ne, q'⟩
      · exact ck
      · exact others j c' ne q'
    · rcases get j c1 q1 with ⟨rfl, rfl⟩ | ⟨n1, q1'⟩
      · rcases get k c1' q2 with ⟨rfl, rfl⟩ | ⟨n2, q2'⟩
        · exact ne rfl
        · exact r.apart j k c c1' b ne h q2' oc o1' s1 s2
      · rcases get k c1' q2 with ⟨rfl, rfl⟩ | ⟨n2, q2'⟩
        · exact r.apart j k c1 c b ne q1' h o1 oc s1 s2
        · exact r.apart j k c1 c1' b ne q1' q2' o1 o1' s1 s2
  have k := r.cell i c h
  unfold relent at hl
  rw [h] at hl
  cases c with
  | un => cases oc
  | sh d => cases oc
  | ow d =>
    cases hl
    exact build _ rfl rfl ⟨p, hp, hw, fgp, ow⟩
  | ln d =>
    cases hl
    obtain ⟨h1, _⟩ := k
    rw [hp] at h1
    cases h1
    exact build _ rfl rfl ⟨hp, hw, fgp, ow⟩
theorem ResOk.val {no : Addr → Prop} {v : V} {a : Val} {fgc : Hp} (r : Rel K fg la W' H' σ e) (h : ResOk K fgc W' H' no v a) (hf : ∀ q, fgc q = none → ¬ no q → (∀ u, fg q = some u → NT u) → fg q = none ∧ ∀ (i : Nat) c, e[i]? = some c → c.own = true → σ[i]? ≠ some (some (V.ref q))) : ValOk K fg W' H' σ e v a := by
  cases a with
  | sh d => exact h
  | bw i => exact h.elim
  | ow d =>
    obtain ⟨p, rfl, h2, h3, h4, h5⟩ := h
    obtain ⟨f1, f2⟩ := hf p h3 h4 fun u z => h5.nt (r.frn p u z).1
    exact ⟨p, rfl, h2, f1, h5, f2⟩
end
section
variable {X : Cx} {Wx : WX}
def mCall0 (F : List D → FR) (n : M (List Val)) : M Val := M.bind n fun as e => match escs e as with
  | some (ds, e1) => match F ds with
    | .ok a _ => .ok a e1
    | .ex x _ => .ex x e1
    | .no => .no
  | none => .no
theorem rd_call0 {F : List D → FR} {n : M (List Val)} {k : Nat} {σ : L2.St} {H : Hp} {Q : VK} (h : rdE X Wx (mCall0 F n) σ H Q) (hlen : ∀ e as e', n e = .ok as e' → as.length = k) :
    rdA X Wx n σ H fun vs H1 => Prom0 X.K X.mg k F vs H1 Q (WE Wx σ) := by
  obtain ⟨fg, la, W, e, rl, h⟩ := h
  refine ⟨fg, la, W, e, rl, ?_⟩
  have hb := Post.bind h
  cases q0 : n e with
  | no => rw [q0] at hb; exact hb
  | ex x e' => rw [q0] at hb; exact hb
  | ok as e1 =>
    rw [q0] at hb
    intro W1 H1 s1 r1 vs hv
    have h1 := hb W1 H1 s1 r1
    dsimp only at h1
    cases q : escs e1 as with
    | none => rw [q] at h1; exact (show False from h1).elim
    | some p =>
      obtain ⟨ds, e2⟩ := p
      rw [q] at h1
      obtain ⟨W2, s2, r2, rp⟩ := escs_ok r1 hv q
      have st : ∀ W' H', Sub W2 W' → Sub W' H' → Frn (restOf W2 H1) W' H' → Step W2 H1 W' H' := fun W' H' a b c => step_of r2.sub a b c
      refine ⟨restOf W2 H1, W2, ds, r2.sub, rest_frn, rp, by rw [hv.length]; exact hlen _ _ _ q0, ?_⟩
      simp only at h1
      cases q2 : F ds with
      | no => rw [q2] at h1; exact h1
      | ok a l =>
        rw [q2] at h1
        intro W' H' v a1 a2 a3 hr
        have t := st W' H' a1 a2 a3
        refine (show ∀ W' H', Sub W1 W' → Rel X.K fg la W' H' σ e2 → ∀ v, ValOk X.K fg W' H' σ e2 v a → Q v H' from h1) W' H' (s2.trans a1) (r2.step t) v (ResOk.val (r2.step t) hr fun q hq _ hnt => ?_)
        refine ⟨?_, fun i c qc o s => ?_⟩
        · cases z : fg q with
          | none => rfl
          | some u =>
            obtain ⟨k1, k2⟩ := r2.frn q u z
            rw [rest_of (k2 (hnt u z)), k1] at hq; cases hq
        · obtain ⟨b, d', s', w, f, ow, _⟩ := (r2.cell i c qc).at_ o
          rw [s] at s'; cases s'
          obtain ⟨u, hu⟩ := ow.some
          rw [rest_of w, hu] at hq; cases hq
      | ex x l =>
        rw [q2] at h1
        intro W' H' cls d a1 a2 a3 hx
        exact (show ∀ W' H' cls d, Sub W1 W' → Rel X.K fg la W' H' σ e2 → ExOk X.mg X.K W' H' cls d x → Wx cls d σ H' from h1) W' H' cls d (s2.trans a1) (r2.step (st W' H' a1 a2 a3)) hx
theorem len_nil : ∀ e as e', mNil e = .ok as e' → as.length = 0 := fun e as e' h => by cases h; rfl
theorem len_cons {m : M Val} {n : M (List Val)} {k : Nat} (h : ∀ e as e', n e = .ok as e' → as.length = k) : ∀ e as e', mCons m n e = .ok as e' → as.length = k + 1 := fun e as e' q => by
  unfold mCons M.bind at q
  cases z : m e with
  | no => rw [z] at q; cases q
  | ex x e1 => rw [z] at q; cases q
  | ok a e1 =>
    rw [z] at q
    simp only at q
    cases z2 : n e1 with
    | no => rw [z2] at q; cases q
    | ex x e2 => rw [z2] at q; cases q
    | ok bs e2 =>
      rw [z2] at q
      simp only [M.ret] at q
      cases q
      rw [List.length_cons, h _ _ _ z2]
theorem de_call0 {F : List D → FR} {kk k : Nat} {f : Addr} {fd : FuncData} {ps : List Str} {x : Str} {p pos : Pos} {e : Expr} {es : List Expr} {n : M (List Val)} (tk : Takes X Wx) (Fn : FnG X.prog X.w X.K X.mg X.base k f fd ps (Prom0 X.K X.mg kk F)) (hr : Room k X.A) (hgd : X.A.guards = some []) (hg : Gl X x)
    (hm : X.mg x = some (.ref f)) (hk : PySem.W.keepIn X.K (.ref f) = true) (hb : Binds X.K fd ps []) (ha : DA X Wx (e :: es) n) (hlen : ∀ e as e', n e = .ok as e' → as.length = kk) (hdb : (x == ("__debug__" : Str)) = false := by decide)
    (he : starEach (e :: es) X.env = (false, eval e X.env) :: starEach es X.env := by rfl) (hpl : (backTo pos (starEach es X.env)).any (·.1) = false := by rfl) : DE X Wx (.Call (.Name x p) (e :: es) [] pos) (mCall0 F n) :=
  PE.wk (pe_callG' (E := WE Wx) Fn hr hgd hg hm hk hb (fun σ => passAt tk σ) ha hdb he hpl) fun _ _ _ h => rd_call0 h hlen
/-- the first argument, a name, is lent -/
def mCall1 (F : List D → FR) (n : M (List Val)) : M Val := M.bind n fun as e => match as with
  | .bw i :: rest => match escs e rest with
    | some (ds, e1) => match e1[i]? with
      | some (.ow d) => (match F (d :: ds) with
        | .ok a l => .ok a (e1.set i (.ow l))
        | .ex x l => .ex x (e1.set i (.ow l))
        | .no => .no)
      | some (.ln d) => (match F (d :: ds) with
        | .ok a l => .ok a (e1.set i (.ln l))
        | .ex x l => .ex x (e1.set i (.ln l))
        | .no => .no)
      | _ => .no
    | none => .no
  | _ => .no
theorem rd_call1 {F : List D → FR} {n : M (List Val)} {k : Nat} {σ : L2.St} {H : Hp} {Q : VK} (h : rdE X Wx (mCall1 F n) σ H Q) (hlen : ∀ e as e', n e = .ok as e' → as.length = k) :
    rdA X Wx n σ H fun vs H1 => Prom1 X.K X.mg k F vs H1 Q (WE Wx σ) := by
  obtain ⟨fg, la, W, e, rl, h⟩ := h
  refine ⟨fg, la, W, e, rl, ?_⟩
  have hb := Post.bind h
  cases q0 : n e with
  | no => rw [q0] at hb; exact hb
  | ex x e' => rw [q0] at hb; exact hb
  | ok as e1 =>
    rw [q0] at hb
    intro W1 H1 s1 r1 vs hv
    have h1 := hb W1 H1 s1 r1
    dsimp only at h1
    have hkl : vs.length = k := by rw [hv.length]; exact hlen _ _ _ q0
    cases as with
    | nil => exact (show False from h1).elim
    | cons a rest =>
      cases a with
      | sh d => exact (show False from h1).elim
      | ow d => exact (show False from h1).elim
      | bw i =>
        cases vs with
        | nil => exact hv.elim
        | cons v0 vs =>
          have hv0 : σ[i]? = some (some v0) := hv.1
          simp only at h1
          cases q : escs e1 rest with
          | none => rw [q] at h1; exact (show False from h1).elim
          | some pr =>
            obtain ⟨ds, e2⟩ := pr
            rw [q] at h1
            simp only at h1
            obtain ⟨W2, s2, r2, rp⟩ := escs_ok r1 hv.2.1 q
            have fin : ∀ c d p, e2[i]? = some c → c.own = true → (∀ l, ∃ e3, relent e2 i l = some e3 ∧ e3 = e2.set i (match c with
                | .ow _ => .ow l
                | _ => .ln l)) → v0 = .ref p → W2 p = none → fg p = none → Own X.K W2 H1 p d →
                (match F (d :: ds) with
                  | .ok a l => Post X Wx fg la W1 σ (fun W' H' e' a => ∀ v, ValOk X.K fg W' H' σ e' v a → Q v H') (.ok a (e2.set i (match c with
                | .ow _ => .ow l
                | _ => .ln l)))
                  | .ex x l => Post X Wx fg la W1 σ (fun W' H' e' a => ∀ v, ValOk X.K fg W' H' σ e' v a → Q v H') (.ex x (e2.set i (match c with
                | .ow _ => .ow l
                | _ => .ln l)))
                  | .no => False) → Prom1 X.K X.mg k F (v0 :: vs) H1 Q (WE Wx σ) := fun c d p hc oc rl2 ev wp fp ow hh => by
              subst ev
              refine ⟨rest1 W2 H1 p, W2, p, d, vs, ds, rfl, r2.sub, rest1_frn, wp, by unfold rest1; rw [if_pos (.inr rfl)], ow, rp, hkl, ?_⟩
              cases q2 : F (d :: ds) with
              | no => rw [q2] at hh; exact hh
              | ok a l =>
                rw [q2] at hh
                intro W' H' v a1 a2 a3 a4 a5 hr
                obtain ⟨e3, he3, ee⟩ := rl2 l
                have r3 := r2.lent hc oc hv0 a1 a2 a3 a4 a5 he3
                rw [ee] at r3
                refine hh W' H' (s2.trans a1) r3 v (ResOk.val r3 hr fun x hx nx hnt => ?_)
                have nx : x ≠ p := nx
                refine ⟨?_, fun j c' qc o s => ?_⟩
                · cases z : fg x with
                  | none => rfl
                  | some u =>
                    obtain ⟨k1, k2⟩ := r2.frn x u z
                    rw [rest1_of (k2 (hnt u z)) nx, k1] at hx; cases hx
                · by_cases z : i = j
                  · subst z
                    rw [hv0] at s
                    cases s
                    exact nx rfl
                  · rw [List.getElem?_set_ne z] at qc
                    obtain ⟨b, d', s', w, f, ow', _⟩ := (r2.cell j c' qc).at_ o
                    rw [s] at s'; cases s'
                    obtain ⟨u, hu⟩ := ow'.some
                    rw [rest1_of w nx, hu] at hx; cases hx
              | ex x l =>
                rw [q2] at hh
                intro W' H' cls dd a1 a2 a3 a4 a5 hx
                obtain ⟨e3, he3, ee⟩ := rl2 l
                have r3 := r2.lent hc oc hv0 a1 a2 a3 a4 a5 he3
                rw [ee] at r3
                exact hh W' H' cls dd (s2.trans a1) r3 hx
            cases q1 : e2[i]? with
            | none => rw [q1] at h1; exact (show False from h1).elim
            | some c =>
              rw [q1] at h1
              have ck := r2.cell i c q1
              cases c with
              | un => exact (show False from h1).elim
              | sh d => exact (show False from h1).elim
              | ow d =>
                obtain ⟨p, k1, k2, k3, k4⟩ := ck
                rw [hv0] at k1
                cases k1
                refine fin (.ow d) d p q1 rfl (fun l => ⟨_, by unfold relent; rw [q1], rfl⟩) rfl k2 k3 k4 ?_
                simp only at h1 ⊢
                cases q2 : F (d :: ds) with
                | no => rw [q2] at h1; exact h1
                | ok a l => rw [q2] at h1; exact h1
                | ex x l => rw [q2] at h1; exact h1
              | ln d =>
                obtain ⟨k1, k2, k3, k4⟩ := ck
                rw [hv0] at k1
                cases k1
                refine fin (.ln d) d (la i) q1 rfl (fun l => ⟨_, by unfold relent; rw [q1], rfl⟩) rfl k2 k3 k4 ?_
                simp only at h1 ⊢
                cases q2 : F (d :: ds) with
                | no => rw [q2] at h1; exact h1
                | ok a l => rw [q2] at h1; exact h1
                | ex x l => rw [q2] at h1; exact h1
theorem de_call1 {F : List D → FR} {kk k : Nat} {f : Addr} {fd : FuncData} {ps : List Str} {x : Str} {p pos : Pos} {e : Expr} {es : List Expr} {n : M (List Val)} (tk : Takes X Wx) (Fn : FnG X.prog X.w X.K X.mg X.base k f fd ps (Prom1 X.K X.mg kk F)) (hr : Room k X.A) (hgd : X.A.guards = some []) (hg : Gl X x)
    (hm : X.mg x = some (.ref f)) (hk : PySem.W.keepIn X.K (.ref f) = true) (hb : Binds X.K fd ps []) (ha : DA X Wx (e :: es) n) (hlen : ∀ e as e', n e = .ok as e' → as.length = kk) (hdb : (x == ("__debug__" : Str)) = false := by decide)
    (he : starEach (e :: es) X.env = (false, eval e X.env) :: starEach es X.env := by rfl) (hpl : (backTo pos (starEach es X.env)).any (·.1) = false := by rfl) : DE X Wx (.Call (.Name x p) (e :: es) [] pos) (mCall1 F n) :=
  PE.wk (pe_callG' (E := WE Wx) Fn hr hgd hg hm hk hb (fun σ => passAt tk σ) ha hdb he hpl) fun _ _ _ h => rd_call1 h hlen
end

/-! ### a def by its body -/
def outV (e : Env) : Val → Option Val
  | .sh d => some (.sh d)
  | .ow d => some (.ow d)
  | .bw i => match e[i]? with
    | some (.sh d) => some (.sh d)
    | some (.ow d) => some (.ow d)
    | _ => none
/-- n parameters, m other names -/
def run0 (n m : Nat) (body : M Flw) : List D → FR := fun ds => if ds.length = n then match body (ds.map .sh ++ List.replicate m .un) with
  | .ok (.rt a) e => (match outV e a with
    | some b => .ok b .non
    | none => .no)
  | .ok .nx _ => .ok (.sh .non) .non
  | .ex x _ => .ex x .non
  | _ => .no
  else .no
def lentD (e : Env) : Option D := match (e[0]? : Option Cell) with
  | some (.ln l) => some l
  | _ => none
def run1 (n m : Nat) (body : M Flw) : List D → FR := fun ds => match ds with
  | [] => .no
  | d :: ds => if ds.length + 1 = n then match body (.ln d :: (ds.map .sh ++ List.replicate m .un)) with
    | .ok (.rt a) e => (match outV e a, lentD e with
      | some b, some l => .ok b l
      | _, _ => .no)
    | .ok .nx e => (match lentD e with
      | some l => .ok (.sh .non) l
      | none => .no)
    | .ex x e => (match lentD e with
      | some l => .ex x l
      | none => .no)
    | _ => .no
    else .no
section
variable {P : Program} {w : World} {K : PySem.W.Frag} {mg : Str → Option Value} {base : Heap} {x qual : Str} {params : Arguments} {body : List Stmt} {scope : Scope} {f : Addr} {fd : FuncData} {N ps : List Str} {k n m : Nat}
theorem sh_cells {K : PySem.W.Frag} {fg : Hp} {la : Nat → Addr} {W H : Hp} : ∀ {vs : List V} {ds : List D} (j : Nat) (c : Cell), Reps K W vs ds → (ds.map Cell.sh)[j]? = some c → CellOk K fg la W H j ((vs.map some)[j]?) c
  | [], [], j, c, _, h => by simp at h
  | v :: vs, d :: ds, 0, c, .cons r _, h => by simp at h; subst h; exact ⟨v, rfl, r⟩
  | v :: vs, d :: ds, j + 1, c, .cons _ t, h => by
    have h' : (ds.map Cell.sh)[j]? = some c := by simpa using h
    have := sh_cells (fg := fg) (la := la) (H := H) j c t h'
    cases c with
    | un => trivial
    | sh d' => rw [List.map_cons, List.getElem?_cons_succ]; exact this
    | ow d' => rw [List.getElem?_map] at h'; cases z : ds[j]? with
      | none => rw [z] at h'; cases h'
      | some u => rw [z] at h'; cases h'
    | ln d' => rw [List.getElem?_map] at h'; cases z : ds[j]? with
      | none => rw [z] at h'; cases h'
      | some u => rw [z] at h'; cases h'
theorem sh_not {ds : List D} {m j : Nat} {c : Cell} (h : (ds.map Cell.sh ++ List.replicate m Cell.un)[j]? = some c) : c.own = false := by
  have hm := List.mem_of_getElem? h
  rcases List.mem_append.mp hm with z | z
  · obtain ⟨d, _, rfl⟩ := List.mem_map.mp z; rfl
  · rw [List.eq_of_mem_replicate z]; rfl
/-- the cells at the entry -/
theorem start_cells {K : PySem.W.Frag} {fg : Hp} {la : Nat → Addr} {W H : Hp} {vs : List V} {ds : List D} {m : Nat} (r : Reps K W vs ds) (j : Nat) (c : Cell) (h : (ds.map Cell.sh ++ List.replicate m Cell.un)[j]? = some c) :
    CellOk K fg la W H j ((vs.map some ++ List.replicate m none)[j]?) c := by
  by_cases hj : j < ds.length
  · rw [List.getElem?_append_left (by simpa using hj)] at h
    rw [List.getElem?_append_left (by rw [List.length_map, r.length]; exact hj)]
    exact sh_cells j c r h
  · rw [List.getElem?_append_right (by simpa using hj)] at h
    have := List.mem_of_getElem? h
    rw [List.eq_of_mem_replicate this]
    trivial
theorem out_ok {fg : Hp} {la : Nat → Addr} {W H : Hp} {σ : L2.St} {e : Env} {v : V} {a b : Val} {no : Addr → Prop} (r : Rel K fg la W H σ e) (h : ValOk K fg W H σ e v a) (q : outV e a = some b) (hn : ∀ p, (∀ (i : Nat) c, e[i]? = some c → c.own = true → σ[i]? ≠ some (some (V.ref p)) ∨ ∃ d, c = .ow d) → ¬ no p) : ResOk K fg W H no v b := by
  cases a with
  | sh d => cases q; exact h
  | ow d =>
    cases q
    obtain ⟨p, h1, h2, h3, h4, h5⟩ := h
    exact ⟨p, h1, h2, h3, hn p fun i c qc o => .inl (h5 i c qc o), h4⟩
  | bw i =>
    have hv : σ[i]? = some (some v) := h
    unfold outV at q
    simp only at q
    split at q
    · rename_i d z
      cases q
      obtain ⟨u, h1, h2⟩ := r.cell i _ z
      rw [hv] at h1; cases h1
      exact h2
    · rename_i d z
      cases q
      obtain ⟨p, h1, h2, h3, h4⟩ := r.cell i _ z
      rw [hv] at h1; cases h1
      refine ⟨p, rfl, h2, h3, hn p fun j c qc o => ?_, h4⟩
      by_cases y : i = j
      · subst y; rw [z] at qc; cases qc; exact .inr ⟨d, rfl⟩
      · exact .inl fun s => r.apart i j _ c p y z qc rfl o hv s
    · cases q
theorem fn0 {mb : M Flw} (F : FunD K x qual params body scope [] [] f fd) (S : FnScope N ps scope) (hl : ps.length = n) (hm : N.length = n + m)
    (hbody : ∀ (cdv : Value) (A : Around) (outer : List PySem.Env) (s : Shared) (H : Hp) (E : XK), Room k (A.deeper (envOfC qual scope s.heap.objs.size f cdv)) → A.guards = some [] →
      DSs (cxOf (L2.CX P w) P w K mg base N qual scope f cdv A outer s H E) (fun cls d _ H => E cls d H) body mb) : FnG P w K mg base (k + 1) f fd ps (Prom0 K mg n (run0 n m mb)) := by
  refine FunD.good F S (fun vs H Q E h => ?_) (fun cdv A outer s H vs Q E hr hgd h => ⟨_, hbody cdv A outer s H E hr hgd, ?_⟩)
  · obtain ⟨fg, W, ds, _, _, _, hv, _⟩ := h
    rw [hv, hl]
  · obtain ⟨fg, W, ds, sW, sF, rp, hv, h⟩ := h
    have hd : ds.length = n := by rw [← rp.length]; exact hv
    unfold run0 at h
    rw [if_pos hd] at h
    refine ⟨fg, fun _ => 0, W, ds.map .sh ++ List.replicate m .un, ⟨sW, sF, ?_, fun j c q => ?_, fun i j c d p ne q1 q2 o1 o2 _ _ => ?_⟩, ?_⟩
    · unfold L2.start
      rw [List.length_append, List.length_append, List.length_map, List.length_map, List.length_replicate, List.length_replicate, rp.length, hm, hd]
      omega
    · unfold L2.start
      rw [hm, hv, Nat.add_sub_cancel_left]
      exact start_cells rp j c q
    · rw [sh_not q1] at o1; cases o1
    · cases q : mb (ds.map .sh ++ List.replicate m .un) with
      | no => rw [q] at h; exact h
      | ex x e => rw [q] at h; exact fun W' H' σ' cls d s1 r1 hx => h W' H' cls d s1 r1.sub r1.frn hx
      | ok fl e =>
        rw [q] at h
        cases fl with
        | nx => exact fun W' H' σ' s1 r1 => h W' H' .non s1 r1.sub r1.frn .non
        | bk => exact h.elim
        | ct => exact h.elim
        | rt a =>
          intro W' H' σ' v s1 r1 hv
          simp only at h
          cases q2 : outV e a with
          | none => rw [q2] at h; exact h.elim
          | some b => rw [q2] at h; exact h W' H' v s1 r1.sub r1.frn (out_ok r1 hv q2 fun _ _ z => z)
theorem lent_at {fg : Hp} {la : Nat → Addr} {W H : Hp} {σ : L2.St} {e : Env} {l : D} (r : Rel K fg la W H σ e) (h : lentD e = some l) : σ[0]? = some (some (V.ref (la 0))) ∧ W (la 0) = none ∧ Own K W H (la 0) l ∧ e[0]? = some (.ln l) := by
  unfold lentD at h
  split at h
  · rename_i l' q
    cases h
    obtain ⟨h1, h2, h3, h4⟩ := r.cell 0 _ q
    exact ⟨h1, h2, h4, q⟩
  · cases h
theorem fn1 {mb : M Flw} (F : FunD K x qual params body scope [] [] f fd) (S : FnScope N ps scope) (hl : ps.length = n) (hm : N.length = n + m)
    (hbody : ∀ (cdv : Value) (A : Around) (outer : List PySem.Env) (s : Shared) (H : Hp) (E : XK), Room k (A.deeper (envOfC qual scope s.heap.objs.size f cdv)) → A.guards = some [] →
      DSs (cxOf (L2.CX P w) P w K mg base N qual scope f cdv A outer s H E) (fun cls d _ H => E cls d H) body mb) : FnG P w K mg base (k + 1) f fd ps (Prom1 K mg n (run1 n m mb)) := by
  refine FunD.good F S (fun vs H Q E h => ?_) (fun cdv A outer s H vs Q E hr hgd h => ⟨_, hbody cdv A outer s H E hr hgd, ?_⟩)
  · obtain ⟨fg, W, p, d, vs', ds, _, _, _, _, _, _, _, hv, _⟩ := h
    rw [hv, hl]
  · obtain ⟨fg, W, p, d, vs', ds, rfl, sW, sF, wp, fp, ow, rp, hv, h⟩ := h
    have hd : ds.length + 1 = n := by rw [← rp.length]; simpa using hv
    unfold run1 at h
    simp only at h
    rw [if_pos hd] at h
    have cell0 : ∀ (j : Nat) c, (Cell.ln d :: (ds.map .sh ++ List.replicate m .un))[j]? = some c → c.own = true → j = 0 := fun j c q o => by
      cases j with
      | zero => rfl
      | succ j => rw [List.getElem?_cons_succ] at q; rw [sh_not q] at o; cases o
    refine ⟨fg, fun _ => p, W, .ln d :: (ds.map .sh ++ List.replicate m .un), ⟨sW, sF, ?_, fun j c q => ?_, fun i j c c' b ne q1 q2 o1 o2 _ _ => ?_⟩, ?_⟩
    · unfold L2.start
      rw [List.length_cons, List.length_append, List.length_append, List.length_map, List.length_map, List.length_replicate, List.length_replicate, List.length_cons, rp.length, hm]
      omega
    · unfold L2.start
      have em : N.length - (V.ref p :: vs').length = m := by rw [hv, hm]; omega
      rw [em, List.map_cons, List.cons_append]
      cases j with
      | zero => simp at q; subst q; exact ⟨rfl, wp, fp, ow⟩
      | succ j =>
        rw [List.getElem?_cons_succ] at q ⊢
        have := start_cells (fg := fg) (la := fun _ => p) (H := H) rp j c q
        cases c with
        | ln d' => have := sh_not q; cases this
        | un => trivial
        | sh d' => exact this
        | ow d' => have := sh_not q; cases this
    · have e1 := cell0 i c q1 o1
      have e2 := cell0 j c' q2 o2
      exact ne (e1.trans e2.symm)
    · have noP : ∀ {W' H' : Hp} {σ' : L2.St} {e : Env} {l : D}, Rel K fg (fun _ => p) W' H' σ' e → lentD e = some l → ∀ q, (∀ (i : Nat) c, e[i]? = some c → c.own = true → σ'[i]? ≠ some (some (V.ref q)) ∨ ∃ d, c = .ow d) → ¬ q = p := fun {W' H' σ' e l} r1 hl q hq z => by
        obtain ⟨l1, l2, l3, l4⟩ := lent_at r1 hl
        rcases hq 0 _ l4 rfl with z' | ⟨_, z'⟩
        · exact z' (by rw [z]; exact l1)
        · cases z'
      cases q : mb (.ln d :: (ds.map .sh ++ List.replicate m .un)) with
      | no => rw [q] at h; exact h
      | ex x e =>
        rw [q] at h
        simp only at h
        cases q2 : lentD e with
        | none => rw [q2] at h; exact h.elim
        | some l =>
          rw [q2] at h
          intro W' H' σ' cls dd s1 r1 hx
          obtain ⟨l1, l2, l3, l4⟩ := lent_at r1 q2
          exact h W' H' cls dd s1 r1.sub r1.frn l2 l3 hx
      | ok fl e =>
        rw [q] at h
        cases fl with
        | nx =>
          simp only at h
          cases q2 : lentD e with
          | none => rw [q2] at h; exact h.elim
          | some l =>
            rw [q2] at h
            intro W' H' σ' s1 r1
            obtain ⟨l1, l2, l3, l4⟩ := lent_at r1 q2
            exact h W' H' .non s1 r1.sub r1.frn l2 l3 .non
        | bk => exact h.elim
        | ct => exact h.elim
        | rt a =>
          intro W' H' σ' v s1 r1 hv
          simp only at h
          cases q3 : outV e a with
          | none => rw [q3] at h; exact h.elim
          | some b =>
            cases q2 : lentD e with
            | none => rw [q3, q2] at h; exact h.elim
            | some l =>
              rw [q3, q2] at h
              obtain ⟨l1, l2, l3, l4⟩ := lent_at r1 q2
              exact h W' H' v s1 r1.sub r1.frn l2 l3 (out_ok r1 hv q3 (noP r1 q2))
end
end VS

/-! VH: exceptions raised; lists and dicts that a name owns changed by methods and stores. -/
namespace VS
open PySem PySem.Spec PyProof.Rows L2

/-! ### raise -/
def sRaise (x : Exn) : M Flw := fun e => .ex x e
section
variable {X : Cx} {Wx : WX}
/-- X(), X an own exception class without own __init__ -/
theorem pmk_own0 {C : Addr} {bmB : List Value} {B newId initId : String} {x : Str} {p pos : Pos} (F : ExcBaseFacts B newId initId bmB) (q : PySem.W.excIn X.K C bmB newId = true) (gC : X.mg x = some (.ref C))
    (kC : PySem.W.keepIn X.K (.ref C) = true) (r : Raises X (.ref C)) (hg : Gl X x) (hdb : (x == ("__debug__" : Str)) = false := by decide) : PMk X (.Call (.Name x p) [] [] pos) (fun _ H Q => Q (.ref C) none H) := by
  intro pins s σ H Q I h
  refine wpAny_Call_Name_kw (ld_glob I hg gC ?_ hdb)
  refine PySem.W.callWith_K0 I.kIn kC ?_
  obtain ⟨bm, N, nm, qn, bs, hdct, sn, sub, ab, col, dd, k0, k1, k2, k3, k5, mN, hC, hN, hni, T⟩ := exc_obj I.kIn q
  exact wpAny_call_exc_subT F T hC hN hni (fun h' e hm => mk_of I hm r h (I.hok.gone hm.new)) (Nat.zero_le _)
theorem ds_raise0 {C : Addr} {x : Str} {p pos pos' : Pos} (hc : X.calm = true) (tk : Takes X Wx) (q : PySem.W.excIn X.K C He.veBase "ValueError.__new__" = true) (gC : X.mg x = some (.ref C))
    (kC : PySem.W.keepIn X.K (.ref C) = true) (sC : PySem.W.subIn X.K (.ref C) (.type "BaseException") = some true) (tC : PySem.W.typeIn X.K (.ref C) = some (.type "type")) (hg : Gl X x) (hdb : (x == ("__debug__" : Str)) = false := by decide) :
    DS X Wx (.Raise (some (.Call (.Name x p) [] [] pos)) none pos') (sRaise ⟨x, []⟩) :=
  PS.wk (ps_raise hc tk (pmk_own0 PySem.F.excBase_ValueError q gC kC (raises_own sC tC) hg hdb)) (by
    rintro D σ H ⟨fg, la, W, e, rl, h⟩
    exact (show ∀ W' H' σ' cls d, Sub W W' → Rel X.K fg la W' H' σ' e → ExOk X.mg X.K W' H' cls d ⟨x, []⟩ → Wx cls d σ' H' from h) W H σ _ _ (.refl _) rl ⟨gC, trivial⟩)

/-! ### what a name owns is changed -/
theorem Rel.change {K : PySem.W.Frag} {fg : Hp} {la : Nat → Addr} {W H : Hp} {σ : L2.St} {e e' : Env} {i : Nat} {p : Addr} {c : Cell} {l : D} {o : HO} (r : Rel K fg la W H σ e) (h : e[i]? = some c) (oc : c.own = true) (hp : σ[i]? = some (some (V.ref p)))
    (ow : Own K W (upd H p o) p l) (hl : relent e i l = some e') : Rel K fg la W (upd H p o) σ e' := by
  obtain ⟨b, d, s1, w, _, _, _⟩ := (r.cell i c h).at_ oc
  rw [hp] at s1; cases s1
  refine r.lent h oc hp (.refl _) (fun a u q => ?_) (fun a u q => ?_) w ow hl
  · rw [upd_ne (fun z => by rw [z, w] at q; cases q)]; exact r.sub a u q
  · obtain ⟨k1, k2⟩ := rest1_frn a u q
    have : a ≠ p := fun z => by unfold rest1 at q; rw [if_pos (.inr z)] at q; cases q
    exact ⟨by rw [upd_ne this]; exact k1, k2⟩
def ownD : Option Cell → Option D
  | some (.ow d) => some d
  | some (.ln d) => some d
  | _ => none
theorem ownD_ok {K : PySem.W.Frag} {fg : Hp} {la : Nat → Addr} {W H : Hp} {σ : L2.St} {e : Env} {i : Nat} {d : D} (r : Rel K fg la W H σ e) (h : ownD e[i]? = some d) : ∃ c p, e[i]? = some c ∧ c.own = true ∧ σ[i]? = some (some (V.ref p)) ∧ W p = none ∧ Own K W H p d := by
  cases q : e[i]? with
  | none => rw [q] at h; cases h
  | some c =>
    rw [q] at h
    have k := r.cell i c q
    cases c with
    | un => cases h
    | sh d => cases h
    | ow d' => cases h; obtain ⟨p, h1, h2, h3, h4⟩ := k; exact ⟨_, p, rfl, rfl, h1, h2, h4⟩
    | ln d' => cases h; obtain ⟨h1, h2, h3, h4⟩ := k; exact ⟨_, _, rfl, rfl, h1, h2, h4⟩
/-- a method that changes its list: by its contents and the arguments the result and the new contents -/
def MutD (K : PySem.W.Frag) (r : V → List V → Hp → VK → Prop) (f : List D → List D → Option (D × List D)) : Prop := ∀ W H p xs vs ds a ds' (Q : VK), Sub W H → Own K W H p (.lst xs) → Reps K W vs ds → f xs ds = some (a, ds') →
  (∀ o v, Own K W (upd H p o) p (.lst ds') → Rep K W v a → Q v (upd H p o)) → r (.ref p) vs H Q
def isLst : Option D → Bool
  | some (.lst _) => true
  | _ => false
def mMut (i : Nat) (f : List D → List D → Option (D × List D)) (n : M (List Val)) : M Val := fun e => if isLst (ownD e[i]?) then M.bind n (fun as e1 => match escs e1 as with
  | some (ds, e2) => match ownD e2[i]? with
    | some (.lst xs) => match f xs ds with
      | some (a, ys) => match relent e2 i (.lst ys) with
        | some e3 => .ok (.sh a) e3
        | none => .no
      | none => .no
    | _ => .no
  | none => .no) e else .no
theorem de_mut {i : Nat} {x name : Str} {id : String} {r : V → List V → Hp → VK → Prop} {f : List D → List D → Option (D × List D)} {e : Expr} {es : List Expr} {n : M (List Val)} {px apos cpos : Pos} (slot : Slot "list" name id) (hty : typeOf (.builtin id) = pure (.type "method_descriptor"))
    (hm : MtR X id r) (hd : MutD X.K r f) (ho : PE X (.Name x px) (tVar i)) (ha : DA X Wx (e :: es) n)
    (hbase : attributeBase (.Name x px) name X.env (eval (.Name x px) X.env) = eval (.Name x px) X.env := by rfl)
    (hfew : ((backTo cpos (starEach (e :: es) X.env)).all (fun x => !x.1) && (backToKw cpos (keywordEach [] X.env)).all (fun x => x.1.isSome)
      && decide ((e :: es).length + ([] : List Keyword).length + (if ([] : List Keyword).isEmpty then 0 else 1) < 30)) = true := by rfl)
    (hline : (apos.endLine == cpos.line) = true := by rfl) (hs : starEach (e :: es) X.env = (false, eval e X.env) :: starEach es X.env := by rfl) (hplain : (backTo cpos (starEach es X.env)).any (·.1) = false := by rfl) :
    DE X Wx (.Call (.Attribute (.Name x px) name apos) (e :: es) [] cpos) (mMut i f n) :=
  PE.wk (pe_bm PySem.F.plainAttrs_list slot hty hm ho ha hbase hfew hline hs hplain) (by
    rintro σ H Q ⟨fg, la, W, e, rl, h⟩
    unfold mMut at h
    by_cases c : isLst (ownD e[i]?) = true
    · rw [if_pos c] at h
      cases q : ownD e[i]? with
      | none => rw [q] at c; cases c
      | some d =>
        rw [q] at c
        cases d with
        | lst xs0 =>
          obtain ⟨c0, p, h1, h2, h3, h4, h5⟩ := ownD_ok rl q
          obtain ⟨vs0, hp0, _⟩ := h5
          refine ⟨_, h3, .inl ⟨rfl, vs0, SqL.of hp0⟩, fg, la, W, e, rl, (Post.bind h).mono fun W1 H1 e1 as s1 r1 h1' vs hv => ?_⟩
          cases q1 : escs e1 as with
          | none => rw [q1] at h1'; exact (show False from h1').elim
          | some pr =>
            obtain ⟨ds, e2⟩ := pr
            rw [q1] at h1'
            simp only at h1'
            obtain ⟨W2, s2, r2, rp⟩ := escs_ok r1 hv q1
            cases q2 : ownD e2[i]? with
            | none => rw [q2] at h1'; exact (show False from h1').elim
            | some d2 =>
              rw [q2] at h1'
              cases d2 with
              | lst xs =>
                simp only at h1'
                obtain ⟨c2, p2, k1, k2, k3, k4, k5⟩ := ownD_ok r2 q2
                rw [h3] at k3
                cases k3
                cases q3 : f xs ds with
                | none => rw [q3] at h1'; exact (show False from h1').elim
                | some pr2 =>
                  obtain ⟨a, ys⟩ := pr2
                  rw [q3] at h1'
                  simp only at h1'
                  cases q4 : relent e2 i (.lst ys) with
                  | none => rw [q4] at h1'; exact (show False from h1').elim
                  | some e3 =>
                    rw [q4] at h1'
                    exact hd W2 H1 p xs vs ds a ys Q r2.sub k5 rp q3 fun o v ow rv =>
                      (show ∀ W' H', Sub W1 W' → Rel X.K fg la W' H' σ e3 → ∀ v, ValOk X.K fg W' H' σ e3 v (.sh a) → Q v H' from h1') W2 _ s2 (r2.change k1 k2 h3 ow q4) v rv
              | _ => exact (show False from h1').elim
        | _ => cases c
    · rw [if_neg c] at h; exact h.elim)
def mMut0 (i : Nat) (f : List D → List D → Option (D × List D)) : M Val := fun e => match ownD e[i]? with
  | some (.lst xs) => match f xs [] with
    | some (a, ys) => match relent e i (.lst ys) with
      | some e3 => .ok (.sh a) e3
      | none => .no
    | none => .no
  | _ => .no
theorem de_mut0 {i : Nat} {x name : Str} {id : String} {r : V → List V → Hp → VK → Prop} {f : List D → List D → Option (D × List D)} {px apos cpos : Pos} (slot : Slot "list" name id) (hty : typeOf (.builtin id) = pure (.type "method_descriptor"))
    (hm : MtR X id r) (hd : MutD X.K r f) (ho : PE X (.Name x px) (tVar i))
    (hbase : attributeBase (.Name x px) name X.env (eval (.Name x px) X.env) = eval (.Name x px) X.env := by rfl) (hline : (apos.endLine == cpos.line) = true := by rfl) :
    DE X Wx (.Call (.Attribute (.Name x px) name apos) [] [] cpos) (mMut0 i f) :=
  PE.wk (pe_bm0 PySem.F.plainAttrs_list slot hty hm ho hbase hline) (by
    rintro σ H Q ⟨fg, la, W, e, rl, h⟩
    unfold mMut0 at h
    cases q : ownD e[i]? with
    | none => rw [q] at h; exact h.elim
    | some d =>
      rw [q] at h
      cases d with
      | lst xs =>
        simp only at h
        obtain ⟨c0, p, h1, h2, h3, h4, h5⟩ := ownD_ok rl q
        have h5c := h5
        obtain ⟨vs0, hp0, _⟩ := h5c
        refine ⟨_, h3, .inl ⟨rfl, vs0, SqL.of hp0⟩, ?_⟩
        cases q3 : f xs [] with
        | none => rw [q3] at h; exact h.elim
        | some pr2 =>
          obtain ⟨a, ys⟩ := pr2
          rw [q3] at h
          simp only at h
          cases q4 : relent e i (.lst ys) with
          | none => rw [q4] at h; exact h.elim
          | some e3 =>
            rw [q4] at h
            exact hd W H p xs [] [] a ys Q rl.sub h5 .nil q3 fun o v ow rv =>
              (show ∀ W' H', Sub W W' → Rel X.K fg la W' H' σ e3 → ∀ v, ValOk X.K fg W' H' σ e3 v (.sh a) → Q v H' from h) W _ (.refl _) (rl.change h1 h2 h3 ow q4) v rv
      | _ => exact h.elim)
end
section
variable {K : PySem.W.Frag}
def fAppend (xs ds : List D) : Option (D × List D) := match ds with
  | [d] => if xs.length < 1000000 then some (.non, xs ++ [d]) else none
  | _ => none
theorem mut_append : MutD K rAppend fAppend := by
  intro W H p xs vs ds a ds' Q sw ow rp hf k
  obtain ⟨us, hp, ru⟩ := ow
  match vs, ds, rp with
  | [v], [d], .cons rv .nil =>
    unfold fAppend at hf
    simp only at hf
    split at hf
    · rename_i c
      cases hf
      exact ⟨p, us, v, rfl, rfl, hp, ltBig (by rw [ru.length]; exact c), k _ _ ⟨_, upd_same, ru.append (.one rv)⟩ .non⟩
    · cases hf
  | [], [], _ => cases hf
  | _ :: _ :: _, _ :: _ :: _, _ => cases hf
def fExtend (xs ds : List D) : Option (D × List D) := match ds with
  | [d] => (match d with
    | .lst ys => if xs.length + ys.length ≤ 1000000 then some (.non, xs ++ ys) else none
    | _ => none)
  | _ => none
theorem leBig {n : Nat} (h : n ≤ 1000000) : n ≤ sizeLine := Nat.le_trans h (by rw [sizeLine_eq]; decide)
theorem mut_extend : MutD K rExtend fExtend := by
  intro W H p xs vs ds a ds' Q sw ow rp hf k
  obtain ⟨us, hp, ru⟩ := ow
  match vs, ds, rp with
  | [v], [d], .cons rv .nil =>
    cases d with
    | lst ys =>
      unfold fExtend at hf
      simp only at hf
      split at hf
      · rename_i c
        cases hf
        cases rv with
        | lst hb rb => exact ⟨p, _, us, _, rfl, rfl, hp, sw _ _ hb, leBig (by rw [ru.length, rb.length]; exact c), k _ _ ⟨_, upd_same, ru.append rb⟩ .non⟩
      · cases hf
    | _ => cases hf
  | [], [], _ => cases hf
  | _ :: _ :: _, _ :: _ :: _, _ => cases hf
def fPop (xs ds : List D) : Option (D × List D) := match ds with
  | [] => (xs[xs.length - 1]?).map fun d => (d, xs.dropLast)
  | _ => none
theorem Reps.dropLast {H : Hp} : ∀ {vs : List V} {ds : List D}, Reps K H vs ds → Reps K H vs.dropLast ds.dropLast := fun {vs ds} h => by
  rw [List.dropLast_eq_take, List.dropLast_eq_take, h.length]
  exact h.take _
theorem mut_pop : MutD K rPop fPop := by
  intro W H p xs vs ds a ds' Q sw ow rp hf k
  obtain ⟨us, hp, ru⟩ := ow
  cases rp with
  | nil =>
    unfold fPop at hf
    simp only at hf
    cases q : xs[xs.length - 1]? with
    | none => rw [q] at hf; cases hf
    | some d =>
      rw [q] at hf
      cases hf
      obtain ⟨v, hv, rv⟩ := ru.get q
      exact ⟨p, us, v, rfl, rfl, hp, by rw [ru.length]; exact hv, k _ _ ⟨_, upd_same, ru.dropLast⟩ rv⟩
  | cons _ _ => cases hf
noncomputable def fPopAt (xs ds : List D) : Option (D × List D) := match ds with
  | [d] => (match d with
    | .int i => if dec (-(2 ^ 63) ≤ i ∧ i < 2 ^ 63) = true then (match seqIndex? i xs.length with
      | some k => (xs[k]?).map fun d => (d, xs.eraseIdx k)
      | none => none) else none
    | _ => none)
  | _ => none
theorem mut_popAt : MutD K rPopAt fPopAt := by
  intro W H p xs vs ds a ds' Q sw ow rp hf k
  obtain ⟨us, hp, ru⟩ := ow
  match vs, ds, rp with
  | [v], [d], .cons rv .nil =>
    cases d with
    | int i =>
      cases rv
      unfold fPopAt at hf
      simp only at hf
      split at hf
      · rename_i c
        have c := of_dec c
        cases q : seqIndex? i xs.length with
        | none => rw [q] at hf; cases hf
        | some j =>
          rw [q] at hf
          simp only at hf
          cases q2 : xs[j]? with
          | none => rw [q2] at hf; cases hf
          | some d =>
            rw [q2] at hf
            cases hf
            obtain ⟨v, hv, rv⟩ := ru.get q2
            exact ⟨p, us, i, j, v, rfl, rfl, hp, c.1, c.2, by rw [ru.length]; exact q, hv, k _ _ ⟨_, upd_same, ru.eraseIdx j⟩ rv⟩
      · cases hf
    | _ => cases hf
  | [], [], _ => cases hf
  | _ :: _ :: _, _ :: _ :: _, _ => cases hf
end

/-! ### keys of dicts -/
def keyK : D → Option Key
  | .int i => some (.inl i)
  | .str x => some (.inr x)
  | _ => none
def keysK : List D → Option (List Key)
  | [] => some []
  | d :: ds => match keyK d, keysK ds with
    | some k, some ks => some (k :: ks)
    | _, _ => none
def keyT : D → Option (List Key)
  | .tup ds => keysK ds
  | _ => none
theorem keyK_kD (k : Key) : keyK (kD k) = some k := by cases k <;> rfl
theorem keyK_some {d : D} {k : Key} (h : keyK d = some k) : d = kD k := by
  cases d with
  | int i => cases h; rfl
  | str x => cases h; rfl
  | _ => cases h
theorem keysK_kD : ∀ ks : List Key, keysK (ks.map kD) = some ks
  | [] => rfl
  | k :: ks => by simp only [List.map_cons, keysK, keyK_kD, keysK_kD ks]
theorem keysK_some : ∀ {ds : List D} {ks : List Key}, keysK ds = some ks → ds = ks.map kD
  | [], ks, h => by cases h; rfl
  | d :: ds, ks, h => by
    unfold keysK at h
    cases q : keyK d with
    | none => rw [q] at h; cases h
    | some k =>
      cases q2 : keysK ds with
      | none => rw [q, q2] at h; cases h
      | some ks2 =>
        rw [q, q2] at h
        cases h
        rw [List.map_cons, ← keyK_some q, ← keysK_some q2]
theorem keyT_tD (k : List Key) : keyT (tD k) = some k := keysK_kD k
theorem keyT_some {d : D} {k : List Key} (h : keyT d = some k) : d = tD k := by
  cases d with
  | tup ds => rw [tD, ← keysK_some h]
  | _ => cases h
theorem keys_vals {K : PySem.W.Frag} {H : Hp} : ∀ {kk : List Key} {vs : List V}, Reps K H vs (kk.map kD) → vs = kk.map kV
  | [], vs, h => by cases h; rfl
  | k :: kk, vs, h => by
    cases h with
    | cons r t =>
      rw [List.map_cons, keys_vals t]
      cases k with
      | inl z => cases (show Rep K H _ (.int z) from r); rfl
      | inr z => cases (show Rep K H _ (.str z) from r); rfl
/-- a dict's pairs by keys that are read by kf -/
def lookD {κ : Type} [DecidableEq κ] (kf : D → Option κ) (l : List (D × D)) (k : κ) : Option D := (l.find? fun p => decide (kf p.1 = some k)).map (·.2)
def putL {κ : Type} [DecidableEq κ] (kf : D → Option κ) (l : List (D × D)) (k : κ) (q v : D) : List (D × D) :=
  if (l.any fun p => decide (kf p.1 = some k)) = true then l.map (fun p => if kf p.1 = some k then (p.1, v) else p) else l ++ [(q, v)]
section
variable {K : PySem.W.Frag} {H : Hp}
theorem lookK_ok {kvs : List (Key × V)} {l : List (D × D)} (h : RepsK K H kvs l) (k : Key) : (valV kvs k = none ∧ lookD keyK l k = none) ∨ ∃ v d, valV kvs k = some v ∧ lookD keyK l k = some d ∧ Rep K H v d := by
  induction kvs generalizing l with
  | nil => cases h; exact .inl ⟨rfl, rfl⟩
  | cons p kvs ih =>
    cases h with
    | @cons k' v _ d l' r t =>
      by_cases e : k' = k
      · subst e
        refine .inr ⟨v, d, valV_pos rfl, ?_, r⟩
        unfold lookD
        rw [List.find?_cons, show decide (keyK (kD k', d).1 = some k') = true from decide_eq_true (keyK_kD k')]
        rfl
      · have e1 : valV ((k', v) :: kvs) k = valV kvs k := valV_neg e
        have e2 : lookD keyK ((kD k', d) :: l') k = lookD keyK l' k := by
          unfold lookD
          rw [List.find?_cons, show decide (keyK (kD k', d).1 = some k) = false from decide_eq_false (by rw [keyK_kD]; exact fun z => e (Option.some.inj z))]
        rw [e1, e2]
        exact ih t
theorem lookT_ok {kvs : List (List Key × V)} {l : List (D × D)} (h : RepsT K H kvs l) (k : List Key) : (valV kvs k = none ∧ lookD keyT l k = none) ∨ ∃ v d, valV kvs k = some v ∧ lookD keyT l k = some d ∧ Rep K H v d := by
  induction kvs generalizing l with
  | nil => cases h; exact .inl ⟨rfl, rfl⟩
  | cons p kvs ih =>
    cases h with
    | @cons k' v _ d l' r t =>
      by_cases e : k' = k
      · subst e
        refine .inr ⟨v, d, valV_pos rfl, ?_, r⟩
        unfold lookD
        rw [List.find?_cons, show decide (keyT (tD k', d).1 = some k') = true from decide_eq_true (keyT_tD k')]
        rfl
      · have e1 : valV ((k', v) :: kvs) k = valV kvs k := valV_neg e
        have e2 : lookD keyT ((tD k', d) :: l') k = lookD keyT l' k := by
          unfold lookD
          rw [List.find?_cons, show decide (keyT (tD k', d).1 = some k) = false from decide_eq_false (by rw [keyT_tD]; exact fun z => e (Option.some.inj z))]
        rw [e1, e2]
        exact ih t
theorem anyK {kvs : List (Key × V)} {l : List (D × D)} (h : RepsK K H kvs l) (k : Key) : (l.any fun p => decide (keyK p.1 = some k)) = (kvs.any fun kv => decide (kv.1 = k)) := by
  induction kvs generalizing l with
  | nil => cases h; rfl
  | cons p kvs ih =>
    cases h with
    | @cons k' v _ d l' r t =>
      rw [List.any_cons, List.any_cons, ih t]
      congr 1
      simp only [keyK_kD]
      exact decide_eq_decide.mpr ⟨Option.some.inj, fun z => by rw [z]⟩
theorem anyT {kvs : List (List Key × V)} {l : List (D × D)} (h : RepsT K H kvs l) (k : List Key) : (l.any fun p => decide (keyT p.1 = some k)) = (kvs.any fun kv => decide (kv.1 = k)) := by
  induction kvs generalizing l with
  | nil => cases h; rfl
  | cons p kvs ih =>
    cases h with
    | @cons k' v _ d l' r t =>
      rw [List.any_cons, List.any_cons, ih t]
      congr 1
      simp only [keyT_tD]
      exact decide_eq_decide.mpr ⟨Option.some.inj, fun z => by rw [z]⟩
theorem mapK {kvs : List (Key × V)} {l : List (D × D)} (h : RepsK K H kvs l) {k : Key} {v : V} {d : D} (rv : Rep K H v d) : RepsK K H (kvs.map fun kv => if kv.1 = k then (kv.1, v) else kv) (l.map fun p => if keyK p.1 = some k then (p.1, d) else p) := by
  induction kvs generalizing l with
  | nil => cases h; exact .nil
  | cons p kvs ih =>
    cases h with
    | @cons k' v' _ d' l' r t =>
      rw [List.map_cons, List.map_cons]
      by_cases e : k' = k
      · subst e
        rw [if_pos rfl, if_pos (keyK_kD k')]
        exact .cons rv (ih t)
      · rw [if_neg e, if_neg (by show ¬ keyK (kD k') = some k; rw [keyK_kD]; exact fun z => e (Option.some.inj z))]
        exact .cons r (ih t)
theorem mapT {kvs : List (List Key × V)} {l : List (D × D)} (h : RepsT K H kvs l) {k : List Key} {v : V} {d : D} (rv : Rep K H v d) : RepsT K H (kvs.map fun kv => if kv.1 = k then (kv.1, v) else kv) (l.map fun p => if keyT p.1 = some k then (p.1, d) else p) := by
  induction kvs generalizing l with
  | nil => cases h; exact .nil
  | cons p kvs ih =>
    cases h with
    | @cons k' v' _ d' l' r t =>
      rw [List.map_cons, List.map_cons]
      by_cases e : k' = k
      · subst e
        rw [if_pos rfl, if_pos (keyT_tD k')]
        exact .cons rv (ih t)
      · rw [if_neg e, if_neg (by show ¬ keyT (tD k') = some k; rw [keyT_tD]; exact fun z => e (Option.some.inj z))]
        exact .cons r (ih t)
theorem appK {kvs : List (Key × V)} {l : List (D × D)} (h : RepsK K H kvs l) {k : Key} {v : V} {d : D} (rv : Rep K H v d) : RepsK K H (kvs ++ [(k, v)]) (l ++ [(kD k, d)]) := by
  induction kvs generalizing l with
  | nil => cases h; exact .cons rv .nil
  | cons p kvs ih => cases h with
    | cons r t => exact .cons r (ih t)
theorem appT {kvs : List (List Key × V)} {l : List (D × D)} (h : RepsT K H kvs l) {k : List Key} {v : V} {d : D} (rv : Rep K H v d) : RepsT K H (kvs ++ [(k, v)]) (l ++ [(tD k, d)]) := by
  induction kvs generalizing l with
  | nil => cases h; exact .cons rv .nil
  | cons p kvs ih => cases h with
    | cons r t => exact .cons r (ih t)
theorem putK_ok {kvs : List (Key × V)} {l : List (D × D)} (h : RepsK K H kvs l) {k : Key} {v : V} {d : D} (rv : Rep K H v d) : RepsK K H (putK kvs k v) (putL keyK l k (kD k) d) := by
  unfold putK putL
  rw [anyK h]
  split
  · exact mapK h rv
  · exact appK h rv
theorem putT_ok {kvs : List (List Key × V)} {l : List (D × D)} (h : RepsT K H kvs l) {k : List Key} {v : V} {d : D} (rv : Rep K H v d) : RepsT K H (putK kvs k v) (putL keyT l k (tD k) d) := by
  unfold putK putL
  rw [anyT h]
  split
  · exact mapT h rv
  · exact appT h rv
end
/-! ### stores o[i] = v, o a name -/
def stD : D → D → D → Option D
  | .lst xs, .int i, v => (ixN xs.length i).map fun j => .lst (xs.set j v)
  | .dct false l, q, v => if l.length < 1000000 then (keyK q).map fun k => .dct false (putL keyK l k q v) else none
  | .dct true l, q, v => if l.length < 1000000 then (keyT q).map fun k => .dct true (putL keyT l k q v) else none
  | _, _, _ => none
def stTo (i : Nat) (v : D) : Val → M Flw := fun b e2 => match esc e2 b with
  | some (k, e3) => match ownD e3[i]? with
    | some c => match stD c k v with
      | some c' => match relent e3 i c' with
        | some e4 => .ok .nx e4
        | none => .no
      | none => .no
    | none => .no
  | none => .no
def sStore (i : Nat) (mk mv : M Val) : M Flw := M.bind mv fun a e => match esc e a with
  | some (v, e1) => if (ownD e1[i]?).isSome then M.bind mk (stTo i v) e1 else .no
  | none => .no
section
variable {X : Cx} {Wx : WX}
theorem PSet.or {r r' : TSet} (h : PSet X r) (h' : PSet X r') : PSet X (fun o i v H Q => r o i v H Q ∨ r' o i v H Q) := by
  intro pins s σ H o i v ov iv u Q I ro ri rv q
  rcases q with q | q
  · exact h pins s σ H o i v ov iv u Q I ro ri rv q
  · exact h' pins s σ H o i v ov iv u Q I ro ri rv q
theorem ds_store {i : Nat} {x : Str} {k v : Expr} {mk mv : M Val} {px p1 pos : Pos} (hu : X.A.units + 1 < cLine) (ho : PE X (.Name x px) (tVar i)) (hk : DE X Wx k mk) (hv : DE X Wx v mv)
    (ha : ∀ v, assign (.Subscript (.Name x px) k p1) X.env v = (do
      let ov ← holding [v] (eval (.Name x px) X.env)
      let iv ← holding [v, ov] (eval k X.env)
      standAt p1
      holding [v, ov, iv] (setItem ov iv v)
      release [v, ov, iv] []) := by intro _; rfl)
    (hs : swapsWithSole [.Subscript (.Name x px) k p1] v pos.line X.env = pure false := by rfl) (hw : swappedStores [.Subscript (.Name x px) k p1] v X.env = pure none := by rfl)
    (h1 : (assignEach [.Subscript (.Name x px) k p1] X.env).map (·.2) = [assign (.Subscript (.Name x px) k p1) X.env] := by rfl) : DS X Wx (.Assign [.Subscript (.Name x px) k p1] v pos) (sStore i mk mv) :=
  PS.wk (ps_asg hv (pg_sub ho hk (PSet.or set_list (set_dict hu)) ha) hs hw h1) (by
    rintro Dn σ H ⟨fg, la, W, e, rl, h⟩
    refine ⟨fg, la, W, e, rl, (PostS.bind h).mono fun W1 H1 e1 a s1 r1 h1 u hu => ?_⟩
    cases q : esc e1 a with
    | none => rw [q] at h1; exact (show False from h1).elim
    | some pr =>
      obtain ⟨d, e2⟩ := pr
      rw [q] at h1
      simp only at h1
      obtain ⟨W2, s2, r2, rv⟩ := esc_ok r1 hu q
      by_cases c : (ownD e2[i]?).isSome = true
      · rw [if_pos c] at h1
        obtain ⟨d0, q0⟩ := Option.isSome_iff_exists.mp c
        obtain ⟨c0, p, k1, k2, k3, k4, k5⟩ := ownD_ok r2 q0
        refine ⟨_, k3, fg, la, W2, e2, r2, (PostS.bind (PostS.wider h1 s2)).mono fun W3 H3 e3 b s3 r3 h3 y hy => ?_⟩
        unfold stTo at h3
        cases q1 : esc e3 b with
        | none => rw [q1] at h3; exact (show False from h3).elim
        | some pr2 =>
          obtain ⟨kd, e4⟩ := pr2
          rw [q1] at h3
          simp only at h3
          obtain ⟨W4, s4, r4, rk⟩ := esc_ok r3 hy q1
          have rv4 := rv.mono (s3.trans s4)
          cases q2 : ownD e4[i]? with
          | none => rw [q2] at h3; exact (show False from h3).elim
          | some cc =>
            rw [q2] at h3
            simp only at h3
            cases q3 : stD cc kd d with
            | none => rw [q3] at h3; exact (show False from h3).elim
            | some c' =>
              rw [q3] at h3
              simp only at h3
              cases q4 : relent e4 i c' with
              | none => rw [q4] at h3; exact (show False from h3).elim
              | some e5 =>
                rw [q4] at h3
                obtain ⟨c1, p1, j1, j2, j3, j4, j5⟩ := ownD_ok r4 q2
                rw [k3] at j3
                cases j3
                have fin : ∀ o, Own X.K W4 (upd H3 p o) p c' → Dn.nx σ (upd H3 p o) := fun o ow => (show ∀ W' H' σ', Sub W3 W' → Rel X.K fg la W' H' σ' e5 → Dn.nx σ' H' from h3) W4 _ σ s4 (r4.change j1 j2 k3 ow q4)
                cases cc with
                | lst xs =>
                  obtain ⟨us, hp, ru⟩ := j5
                  cases kd with
                  | int z =>
                    cases rk
                    unfold stD at q3
                    simp only at q3
                    cases q5 : ixN xs.length z with
                    | none => rw [q5] at q3; cases q3
                    | some j =>
                      rw [q5] at q3
                      cases q3
                      exact .inl ⟨p, us, z, j, rfl, rfl, hp, by rw [ru.length]; exact q5, fin _ ⟨_, upd_same, Reps.set rv4 j ru⟩⟩
                  | _ => cases q3
                | dct t l =>
                  cases t with
                  | false =>
                    obtain ⟨kvs, hp, rk2⟩ := j5
                    unfold stD at q3
                    simp only at q3
                    split at q3
                    · rename_i hl
                      cases q5 : keyK kd with
                      | none => rw [q5] at q3; cases q3
                      | some kk =>
                        rw [q5] at q3
                        cases q3
                        have ek := keyK_some q5
                        subst ek
                        have ey : y = kV kk := by
                          cases kk with
                          | inl z => cases (show Rep X.K W4 y (.int z) from rk); rfl
                          | inr z => cases (show Rep X.K W4 y (.str z) from rk); rfl
                        subst ey
                        exact .inr ⟨p, _, rfl, DPut.k hp (ltBig (by rw [rk2.length]; exact hl)), fin _ ⟨_, upd_same, putK_ok rk2 rv4⟩⟩
                    · cases q3
                  | true =>
                    obtain ⟨kvs, hp, rk2⟩ := j5
                    unfold stD at q3
                    simp only at q3
                    split at q3
                    · rename_i hl
                      cases q5 : keyT kd with
                      | none => rw [q5] at q3; cases q3
                      | some kk =>
                        rw [q5] at q3
                        cases q3
                        have ek := keyT_some q5
                        subst ek
                        cases (show Rep X.K W4 y (.tup (kk.map kD)) from rk) with
                        | tup ha rs =>
                          rename_i ad vs
                          have ev : vs = kk.map kV := keys_vals rs
                          subst ev
                          exact .inr ⟨p, _, rfl, DPut.t hp (r4.sub _ _ ha) (ltBig (by rw [rk2.length]; exact hl)), fin _ ⟨_, upd_same, putT_ok rk2 rv4⟩⟩
                    · cases q3
                | _ => cases q3
      · rw [if_neg c] at h1; exact (show False from h1).elim)
end
end VS

/-! VZ: a law's end: the law's def is called with the script, where nothing else is tracked. -/
namespace VS
open PySem PySem.Spec PyProof.Rows L2

section
variable {P : Program} {w : World} {K : PySem.W.Frag} {mg mb : Str → Option Value} {k : Nat} {fa a : Addr} {fd : FuncData} {x : Str} {F : List D → FR} {s : Shared} {vs : List Value} {ns : List Int}
theorem reps_ints {W : Hp} : ∀ ns : List Int, Reps K W (ns.map V.int) (ns.map D.int)
  | [] => .nil
  | n :: ns => .cons (.int n) (reps_ints ns)
/-- from a heap in which nothing but the script may be tracked -/
theorem ended {H : Hp} (KX : K.In s.heap) (hns : s.heap.Ns mainGlobals mg) (hb : s.heap.Ns builtinsNs mb) (hbb : ∀ x : Str, x ≠ "__name__" → mb x = bootBuiltins x) (hlim : s.heap.NoLimit) (hg : s.gens = #[]) (hr : Room k callerA)
    (Fn : ∀ base : Heap, K.In base → base.Ns mainGlobals mg → FnG P w K mg base k fa fd [x] (Prom0 K mg 1 F)) (hbind : ∀ (s : Shared) (u : Value), BindsTo s fd ⟨[u], []⟩ [(x, u)]) (hF : F [.fl (ns.map .int)] = .ok (.sh (.bl true)) .non)
    (hS : SqL K H a (ns.map V.int)) (ok : HOk P w H s.heap) (hd : ∀ b ob es ep, s.heap.get? b = some ob → ob.data = .dict es ep → H b = none) (hK : ∀ b o, K.lookup b = some o → H b = none) (hz : ∀ b o, H b = some o → ∃ ob u, o = .frz ob u) :
    codeAny (model P w) callerA (.call (.ref fa) ⟨[.ref a], []⟩) (fun r s' => r = .ok (.ret (.bool true)) ∧ OldK s.heap s'.heap ∧ s'.os = s.os ∧ AllBare s'.gens) s := by
  have under : ∀ {b : Addr} {o : Obj}, s.heap.get? b = some o → H b = none → (hidT s.heap H).get? b = some o := fun e n => hidT_get e n
  have ns' : ∀ {b : Addr} {m : Str → Option Value}, s.heap.Ns b m → (hidT s.heap H).Ns b m := fun {b m} h => by
    obtain ⟨o, es, ep, e, d, r⟩ := h
    exact ⟨o, es, ep, under e (hd b o es ep e d), d, r⟩
  have hKb : K.In (hidT s.heap H) := fun b o e => under (KX b o e) (hK b o e)
  have md : Mod K mg (hidT s.heap H) := by
    obtain ⟨mc, l1, l2⟩ := hlim
    exact ⟨hKb, ns' hns, ⟨mb, ns' hb, hbb⟩, ⟨mc, ns' l1, l2⟩⟩
  have e0 : Env0 P w K mg (hidT s.heap H) callerA [] s H := ⟨rfl, md, fun b o e => of_hidT e, Nat.le_of_eq (hidT_size _ _), trivial, (fun b hb => nomatch hb), ok, .of_eq hg⟩
  have pr : Prom0 K mg 1 F [V.ref a] H (fun v _ => v = .bl true) (fun _ _ _ => False) := by
    refine ⟨fun _ => none, H, [.fl (ns.map .int)], .refl _, (fun b o z => by cases z), .cons (.fl hS (reps_ints ns)) .nil, rfl, ?_⟩
    rw [hF]
    intro W' H' v _ _ _ hv
    cases (show Rep K W' v (.bl true) from hv)
    rfl
  refine codeAny_mono ((Fn _ hKb (ns' hns)).go callerA [] s H ⟨[.ref a], []⟩ [.ref a] [.ref a] _ _ hr rfl e0 (hbind s (.ref a)) (.cons rfl .nil) pr) fun r s' h => ?_
  match r, h with
  | .error e, h => obtain ⟨_, _, _, _, _, _, _, _, _, _, _, _, z⟩ := h; exact z.elim
  | .ok .next, h => exact False.elim h
  | .ok .brk, h => exact False.elim h
  | .ok .cont, h => exact False.elim h
  | .ok (.ret u), h =>
    obtain ⟨v, H', os, bare, un, hok', r', q⟩ := h
    subst q
    cases r'
    refine ⟨rfl, OldK.of_keep fun b o e => ?_, os, bare⟩
    cases q : H b with
    | none => exact un.keep b o e q (fun z => (nomatch z)) (fun z => (nomatch z))
    | some u =>
      obtain ⟨ob, y, rfl⟩ := hz b u q
      have z1 := (ok b _ q).1
      rw [e] at z1
      cases z1
      exact (hok' b _ (un.frzs b _ _ q)).1
end
/-- the script's own object, or one of the module's -/
theorem law_end {l : PySem.W.OpenLaw} {n k : Nat} {q : Program} {loose : List Str} {XP : (Str → Option Value) → Heap → Prop} {YP : World → Heap → Prop} {d : DefRec} {x : Str} {F : List D → FR}
    (hn : l.most = some n) (hn2 : n ≤ sizeLine) (hdf : d.params.defaults = []) (hr : Room k callerA) (hF : ∀ ns : List Int, ns.length ≤ n → F [.fl (ns.map .int)] = .ok (.sh (.bl true)) .non)
    (Fn : ∀ (w : World) (mg : Str → Option Value) (fa : Addr) (h : Heap), YP w h → h.Ns mainGlobals mg → mg d.name = some (.ref fa) →
      ∃ (K : PySem.W.Frag) (fd : FuncData), K.In h ∧ (∀ (s : Shared) (u : Value), BindsTo s fd ⟨[u], []⟩ [(x, u)]) ∧
        ∀ base : Heap, K.In base → base.Ns mainGlobals mg → FnG l.prog w K mg base k fa fd [x] (Prom0 K mg 1 F)) :
    PySem.W.WalkO q loose XP YP l.row.toRowW d [] (fun f vs => PySem.call f vs) := by
  refine Att.attach_call hn hdf fun w s₀ s mg mb fa o pm cd doc a vs ns G Y ho hd hcd hmg hobj hints hlen hg => ?_
  obtain ⟨K, fd, KX, hb, hfn⟩ := Fn w mg fa _ Y G.T.g hmg
  have rv := vals_ints hints
  have hl : ns.length ≤ sizeLine := Nat.le_trans hlen hn2
  cases hk : K.lookup a with
  | some ob =>
    have e := KX a ob hk
    rw [hobj] at e
    cases e
    exact ended (H := fun _ => none) KX G.T.g G.T.b G.T.builtins G.T.nolimit hg hr hfn hb (hF ns hlen) (.inr ⟨_, vs.toArray, _, hk, rfl, rfl, rfl, by rw [List.size_toArray, hints.length]; exact hl, by simpa using rv⟩) (fun b u z => by cases z)
      (fun _ _ _ _ _ _ => rfl) (fun _ _ _ => rfl) (fun b u z => by cases z)
  | none =>
    have hS : ∀ b o, (fun b : Addr => if b = a then some (HO.frz { cls := .type "list", data := .seq vs.toArray } (.lst (ns.map V.int))) else none) b = some o → b = a ∧ o = HO.frz { cls := .type "list", data := .seq vs.toArray } (.lst (ns.map V.int)) := fun b o z => by
      simp only at z
      split at z
      · rename_i c; cases z; exact ⟨c, rfl⟩
      · cases z
    refine ended (H := fun b => if b = a then some (.frz { cls := .type "list", data := .seq vs.toArray } (.lst (ns.map V.int))) else none) KX G.T.g G.T.b G.T.builtins G.T.nolimit hg hr hfn hb (hF ns hlen) (.inl (.inr ⟨{ cls := .type "list", data := .seq vs.toArray }, if_pos rfl⟩))
      (fun b u z => ?_) (fun b ob es ep e dd => ?_) (fun b u e => ?_) (fun b u z => ⟨_, _, (hS b u z).2⟩)
    · obtain ⟨rfl, rfl⟩ := hS b u z
      exact ⟨hobj, by rw [List.length_map]; exact hl, vs, _, rv, hobj⟩
    · refine if_neg fun z => ?_
      subst z
      rw [hobj] at e; cases e
      cases (show Data.seq vs.toArray _ = Data.dict es ep from dd)
    · exact if_neg fun z => by rw [z, hk] at e; cases e
end VS

/-! VI: operators and built-ins by data. -/
namespace VS
open PySem PySem.Spec PyProof.Rows L2

/-! ### data as the model's plain data -/
mutual
def D.py : D → PyData
  | .non => .none
  | .bl b => .bool b
  | .int i => .int i
  | .str x => .str x
  | .lst xs => .list (pys xs)
  | .tup xs => .tuple (pys xs)
  | .fl xs => .list (pys xs)
  | .dct _ _ => .none
  | .op _ => .none
def pys : List D → List PyData
  | [] => []
  | x :: xs => x.py :: pys xs
end
mutual
def D.plain : D → Bool
  | .non => true
  | .bl _ => true
  | .int _ => true
  | .str _ => true
  | .lst xs => plains xs
  | .tup xs => plains xs
  | .fl xs => plains xs
  | .dct _ _ => false
  | .op _ => false
def plains : List D → Bool
  | [] => true
  | x :: xs => x.plain && plains xs
end
section
variable {K : PySem.W.Frag} {H W : Hp}
theorem sqL_of {a : Addr} {vs : List V} (h : H a = some (.lst vs)) : SqL K H a vs := .inl (.inl h)
theorem sqT_of {a : Addr} {vs : List V} (h : H a = some (.tup vs)) : SqT K H a vs := .inl (.inl h)
mutual
theorem dp_of : ∀ {v : V} {d : D}, Rep K H v d → d.plain = true → Dp K H v d.py
  | _, _, .non, _ => .non
  | _, _, .bl b, _ => .bl b
  | _, _, .int i, _ => .int i
  | _, _, .str x, _ => .str x
  | _, _, .lst h r, p => .lst (sqL_of h) (dps_of r p)
  | _, _, .fl h r, p => .lst h (dps_of r p)
  | _, _, .tup h r, p => .tup (sqT_of h) (dps_of r p)
  | _, _, .dK _ _, p => nomatch p
  | _, _, .dT _ _, p => nomatch p
  | _, _, .op _, p => nomatch p
theorem dps_of : ∀ {vs : List V} {ds : List D}, Reps K H vs ds → plains ds = true → DpAll K H vs (pys ds)
  | _, _, .nil, _ => .nil
  | _, _, .cons r t, p => .cons (dp_of r (Bool.and_eq_true_iff.mp p).1) (dps_of t (Bool.and_eq_true_iff.mp p).2)
end

/-! ### numbers -/
def cAll (_ _ : Int) : Bool := true
def fI (c : Int → Int → Bool) (g : Int → Int → Int) : D → D → Option Val
  | .int i, .int j => if c i j = true then some (.sh (.int (g i j))) else none
  | _, _ => none
theorem newV_int {W H : Hp} {i : Int} : NewV K W H H (.int i) (.sh (.int i)) := .int i
theorem newV_bl {W H : Hp} {i : Bool} : NewV K W H H (.bl i) (.sh (.bl i)) := .bl i
theorem repO_int {x : V} {i : Int} (s : Sub W H) (h : RepO K W H x (.int i)) : x = .int i := by cases h.rep s; rfl
theorem repO_str {x : V} {i : Str} (s : Sub W H) (h : RepO K W H x (.str i)) : x = .str i := by cases h.rep s; rfl
theorem repO_bl {x : V} {i : Bool} (s : Sub W H) (h : RepO K W H x (.bl i)) : x = .bl i := by cases h.rep s; rfl
theorem opd_I {C : Int → Int → Prop} {v : Int → Int → V} {c : Int → Int → Bool} {g : Int → Int → Int} (hC : ∀ i j, c i j = true → C i j) (hv : ∀ i j, c i j = true → v i j = .int (g i j)) : OpD K (rI C v) (fI c g) := by
  intro W H x y d1 d2 a Q s h1 h2 h q
  unfold fI at h
  split at h
  · split at h
    · rename_i i j c
      cases h
      cases repO_int s h1
      cases repO_int s h2
      exact ⟨i, j, rfl, rfl, hC i j c, by rw [hv i j c]; exact q W H _ (.refl s) newV_int⟩
    · cases h
  · cases h
theorem opd_I0 {g : Int → Int → Int} : OpD K (rI0 fun i j => V.int (g i j)) (fI cAll g) := by
  intro W H x y d1 d2 a Q s h1 h2 h q
  unfold fI at h
  split at h
  · split at h
    · rename_i i j c
      cases h
      cases repO_int s h1
      cases repO_int s h2
      exact ⟨i, j, rfl, rfl, q W H _ (.refl s) newV_int⟩
    · cases h
  · cases h
end
theorem OpR.or {X : Cx} {f : Value → Value → Sem Value} {r r' : R2} (h : OpR X f r) (h' : OpR X f r') : OpR X f (fun x y H Q => r x y H Q ∨ r' x y H Q) := by
  intro pins s σ H x y v u Q I rx ry q
  rcases q with q | q
  · exact h pins s σ H x y v u Q I rx ry q
  · exact h' pins s σ H x y v u Q I rx ry q
def fSub : D → D → Option Val := fI cAll (· - ·)
noncomputable def cMul (i j : Int) : Bool := dec ((-18446744073709551616 < i ∧ i < 18446744073709551616) ∨ (-18446744073709551616 < j ∧ j < 18446744073709551616) ∨ (i.natAbs.log2 + j.natAbs.log2 < 1000000))
noncomputable def fMulI : D → D → Option Val := fI cMul (· * ·)
noncomputable def cDiv (_ j : Int) : Bool := dec ((0 < j ∧ j < 1073741824) ∨ (0 < j ∧ j.natAbs.log2 < 9000) ∨ (j ≠ 0 ∧ j.natAbs < 1073741824))
noncomputable def fDiv : D → D → Option Val := fI cDiv Int.fdiv
def cMod (_ j : Int) : Bool := decide (j ≠ 0)
def fMod : D → D → Option Val := fI cMod Int.fmod
noncomputable def cPow (i j : Int) : Bool := dec (0 ≤ j ∧ j ≤ 1000000 ∧ i.natAbs < 18446744073709551616)
noncomputable def fPow : D → D → Option Val := fI cPow fun i j => i ^ j.toNat
def fAdd : D → D → Option Val
  | .int i, .int j => some (.sh (.int (i + j)))
  | .str x, .str y => if x.length + y.length ≤ sizeLine then some (.sh (.str (x ++ y))) else none
  | .lst xs, .lst ys => if xs.length + ys.length ≤ 1000000 then some (.ow (.lst (xs ++ ys))) else none
  | .tup xs, .tup ys => if xs.length + ys.length ≤ 1000000 then some (.sh (.tup (xs ++ ys))) else none
  | _, _ => none
theorem repO_lst {K : PySem.W.Frag} {W H : Hp} {x : V} {ds : List D} (h : RepO K W H x (.lst ds)) : ∃ p vs, x = .ref p ∧ (H p = some (.lst vs) ∨ W p = some (.lst vs)) ∧ Reps K W vs ds := by
  rcases h with h | ⟨p, rfl, vs, h1, h2⟩
  · cases h with
    | lst h r => exact ⟨_, _, rfl, .inr h, r⟩
  · exact ⟨p, vs, rfl, .inl h1, h2⟩
theorem repO_lst' {K : PySem.W.Frag} {W H : Hp} {x : V} {ds : List D} (s : Sub W H) (h : RepO K W H x (.lst ds)) : ∃ p vs, x = .ref p ∧ H p = some (.lst vs) ∧ Reps K W vs ds := by
  obtain ⟨p, vs, h1, h2, h3⟩ := repO_lst h
  refine ⟨p, vs, h1, ?_, h3⟩
  rcases h2 with h2 | h2
  · exact h2
  · exact s p _ h2
theorem repO_tup {K : PySem.W.Frag} {W H : Hp} {x : V} {ds : List D} (h : RepO K W H x (.tup ds)) : ∃ p vs, x = .ref p ∧ W p = some (.tup vs) ∧ Reps K W vs ds := by
  rcases h with h | ⟨p, rfl, h1⟩
  · cases h with
    | tup h r => exact ⟨_, _, rfl, h, r⟩
  · exact h1.elim
theorem repO_fl {K : PySem.W.Frag} {W H : Hp} {x : V} {ds : List D} (h : RepO K W H x (.fl ds)) : ∃ p vs, x = .ref p ∧ SqL K W p vs ∧ Reps K W vs ds := by
  rcases h with h | ⟨p, rfl, h1⟩
  · cases h with
    | fl h r => exact ⟨_, _, rfl, h, r⟩
  · exact h1.elim
/-- a new shared object, a new owned one -/
theorem newV_sh {K : PySem.W.Frag} {W H : Hp} {p : Addr} {vs : List V} {ds : List D} (s : Sub W H) (hp : H p = none) (r : Reps K W vs ds) : Step W H (upd W p (.tup vs)) (upd H p (.tup vs)) ∧ NewV K (upd W p (.tup vs)) H (upd H p (.tup vs)) (.ref p) (.sh (.tup ds)) :=
  ⟨.new s hp, .tup upd_same (r.mono (.new (s.none hp)))⟩
theorem newV_ow {K : PySem.W.Frag} {W H : Hp} {p : Addr} {vs : List V} {ds : List D} (s : Sub W H) (hp : H p = none) (r : Reps K W vs ds) : Step W H W (upd H p (.lst vs)) ∧ NewV K W H (upd H p (.lst vs)) (.ref p) (.ow (.lst ds)) :=
  ⟨.newH s hp, p, rfl, hp, s.none hp, vs, upd_same, r⟩
section
variable {X : Cx}
theorem opr_add : OpR X (binaryOp .Add) (fun x y H Q => rI0 (fun i j => V.int (i + j)) x y H Q ∨ (∃ i j, x = V.str i ∧ y = V.str j ∧ i.length + j.length ≤ sizeLine ∧ Q (V.str (i ++ j)) H) ∨ rCat x y H Q ∨ rCatA X.K x y H Q) :=
  OpR.or op_add (OpR.or op_add_str (OpR.or op_cat op_catA))
theorem opd_add {K : PySem.W.Frag} : OpD K (fun x y H Q => rI0 (fun i j => V.int (i + j)) x y H Q ∨ (∃ i j, x = V.str i ∧ y = V.str j ∧ i.length + j.length ≤ sizeLine ∧ Q (V.str (i ++ j)) H) ∨ rCat x y H Q ∨ rCatA K x y H Q) fAdd := by
  intro W H x y d1 d2 a Q s h1 h2 h q
  unfold fAdd at h
  split at h
  · cases h
    cases repO_int s h1
    cases repO_int s h2
    exact .inl ⟨_, _, rfl, rfl, q W H _ (.refl s) newV_int⟩
  · split at h
    · cases h
      cases repO_str s h1
      cases repO_str s h2
      exact .inr (.inl ⟨_, _, rfl, rfl, by assumption, q W H _ (.refl s) (.str _)⟩)
    · cases h
  · split at h
    · rename_i hl
      cases h
      obtain ⟨p, vs, rfl, hp, r1⟩ := repO_lst' s h1
      obtain ⟨p2, vs2, rfl, hp2, r2⟩ := repO_lst' s h2
      refine .inr (.inr (.inl ⟨p, p2, vs, vs2, rfl, rfl, hp, hp2, by rw [r1.length, r2.length]; exact leBig hl, fun n hn => ?_⟩))
      obtain ⟨t, nv⟩ := newV_ow s hn (r1.append r2)
      exact q _ _ _ t nv
    · cases h
  · split at h
    · rename_i xs ys hl
      cases h
      obtain ⟨p, vs, rfl, hp, r1⟩ := repO_tup h1
      obtain ⟨p2, vs2, rfl, hp2, r2⟩ := repO_tup h2
      refine .inr (.inr (.inr ⟨p, p2, vs, vs2, rfl, rfl, sqT_of (s _ _ hp), sqT_of (s _ _ hp2), by rw [r1.length, r2.length]; exact leBig hl, fun e => ?_, fun _ e => ?_, fun _ _ n hn => ?_⟩))
      · subst e
        cases r1
        exact q W H _ (.refl s) (.tup hp2 r2)
      · subst e
        cases r2
        exact q W H _ (.refl s) (by rw [List.append_nil]; exact .tup hp r1)
      · obtain ⟨t, nv⟩ := newV_sh s hn (r1.append r2)
        exact q _ _ _ t nv
    · cases h
  · cases h
theorem opd_sub {K : PySem.W.Frag} : OpD K (rI0 fun i j => V.int (i - j)) fSub := opd_I0
theorem opr_mul : OpR X (binaryOp .Mult) (fun x y H Q => rI CMul (fun i j => V.int (i * j)) x y H Q ∨ rI CMulW (fun i j => V.int (i * j)) x y H Q) := OpR.or op_mul op_mulW
theorem opd_mul {K : PySem.W.Frag} : OpD K (fun x y H Q => rI CMul (fun i j => V.int (i * j)) x y H Q ∨ rI CMulW (fun i j => V.int (i * j)) x y H Q) fMulI := by
  intro W H x y d1 d2 a Q s h1 h2 h q
  unfold fMulI fI at h
  split at h
  · split at h
    · rename_i i j c
      cases h
      cases repO_int s h1
      cases repO_int s h2
      have k := q W H _ (.refl s) newV_int
      rcases of_dec c with c | c | c
      · exact .inl ⟨_, _, rfl, rfl, .inl ⟨c.1, c.2⟩, k⟩
      · exact .inl ⟨_, _, rfl, rfl, .inr ⟨c.1, c.2⟩, k⟩
      · exact .inr ⟨_, _, rfl, rfl, c, k⟩
    · cases h
  · cases h
theorem opr_div : OpR X (binaryOp .FloorDiv) (fun x y H Q => rI CDiv (fun i j => V.int (i / j)) x y H Q ∨ rI CDivN (fun i j => V.int (i.fdiv j)) x y H Q ∨ rI CDivW (fun i j => V.int (i / j)) x y H Q) := OpR.or op_fdiv (OpR.or op_fdivN op_fdivW)
theorem opd_div {K : PySem.W.Frag} : OpD K (fun x y H Q => rI CDiv (fun i j => V.int (i / j)) x y H Q ∨ rI CDivN (fun i j => V.int (i.fdiv j)) x y H Q ∨ rI CDivW (fun i j => V.int (i / j)) x y H Q) fDiv := by
  intro W H x y d1 d2 a Q s h1 h2 h q
  unfold fDiv fI at h
  split at h
  · split at h
    · rename_i i j c
      cases h
      cases repO_int s h1
      cases repO_int s h2
      have k := q W H _ (.refl s) newV_int
      rcases of_dec c with c | c | c
      · exact .inl ⟨_, _, rfl, rfl, c, by rw [Int.fdiv_eq_ediv_of_nonneg _ (by omega)] at k; exact k⟩
      · exact .inr (.inr ⟨_, _, rfl, rfl, c, by rw [Int.fdiv_eq_ediv_of_nonneg _ (by omega)] at k; exact k⟩)
      · exact .inr (.inl ⟨_, _, rfl, rfl, c, k⟩)
    · cases h
  · cases h
theorem opr_mod : OpR X (binaryOp .Mod) (rI (fun _ j => j ≠ 0) fun i j => V.int (i.fmod j)) := op_modN
theorem opd_mod {K : PySem.W.Frag} : OpD K (rI (fun _ j => j ≠ 0) fun i j => V.int (i.fmod j)) fMod := opd_I (fun _ _ c => of_decide_eq_true c) fun _ _ _ => rfl
theorem opd_pow {K : PySem.W.Frag} : OpD K (rI CPow fun i j => V.int (i ^ j.toNat)) fPow := opd_I (fun i j c => by
  unfold cPow at c
  have c := of_dec c
  exact ⟨c.1, c.2.1, c.2.2⟩) fun _ _ _ => rfl
def fNeg : D → Option Val
  | .int i => some (.sh (.int (-i)))
  | _ => none
theorem und_neg {K : PySem.W.Frag} : UnD K (rU fun i => V.int (-i)) fNeg := by
  intro W H x d a Q s h1 h q
  unfold fNeg at h
  split at h
  · cases h
    cases repO_int s h1
    exact ⟨_, rfl, q W H _ (.refl s) newV_int⟩
  · cases h

/-! ### comparisons -/
def fC (g : Int → Int → Bool) : D → D → Option Val
  | .int i, .int j => some (.sh (.bl (g i j)))
  | _, _ => none
theorem opd_C {K : PySem.W.Frag} {g : Int → Int → Bool} : OpD K (rI0 fun i j => V.bl (g i j)) (fC g) := by
  intro W H x y d1 d2 a Q s h1 h2 h q
  unfold fC at h
  split at h
  · cases h
    cases repO_int s h1
    cases repO_int s h2
    exact ⟨_, _, rfl, rfl, q W H _ (.refl s) newV_bl⟩
  · cases h
noncomputable def fLt : D → D → Option Val := fC fun i j => dec (i < j)
noncomputable def fLe : D → D → Option Val := fC fun i j => dec (i ≤ j)
noncomputable def fGt : D → D → Option Val := fC fun i j => dec (j < i)
noncomputable def fGe : D → D → Option Val := fC fun i j => dec (j ≤ i)
theorem opd_Cd {K : PySem.W.Frag} {g : Int → Int → Bool} {g' : Int → Int → Bool} (h : ∀ i j, g i j = g' i j) : OpD K (rI0 fun i j => V.bl (g i j)) (fC g') := by
  have : g = g' := funext fun i => funext fun j => h i j
  subst this
  exact opd_C
theorem opd_lt {K : PySem.W.Frag} : OpD K (rI0 fun i j => V.bl (decide (i < j))) fLt := opd_Cd fun _ _ => (dec_eq _).symm
theorem opd_le {K : PySem.W.Frag} : OpD K (rI0 fun i j => V.bl (decide (i ≤ j))) fLe := opd_Cd fun _ _ => (dec_eq _).symm
theorem opd_gt {K : PySem.W.Frag} : OpD K (rI0 fun i j => V.bl (decide (j < i))) fGt := opd_Cd fun _ _ => (dec_eq _).symm
theorem opd_ge {K : PySem.W.Frag} : OpD K (rI0 fun i j => V.bl (decide (j ≤ i))) fGe := opd_Cd fun _ _ => (dec_eq _).symm
/-- data that can be compared -/
def D.ok (d : D) : Bool := d.plain && SeqAt.shaped d.py
def fEq (d1 d2 : D) : Option Val := if d1.ok = true ∧ d2.ok = true then some (.sh (.bl (d1.py.eqv d2.py))) else none
def fNe (d1 d2 : D) : Option Val := if d1.ok = true ∧ d2.ok = true then some (.sh (.bl !(d1.py.eqv d2.py))) else none
theorem opd_eq {K : PySem.W.Frag} : OpD K (rEqD K) fEq := by
  intro W H x y d1 d2 a Q s h1 h2 h q
  unfold fEq at h
  split at h
  · rename_i c
    cases h
    obtain ⟨c1, c2⟩ := c
    obtain ⟨a1, b1⟩ := Bool.and_eq_true_iff.mp c1
    obtain ⟨a2, b2⟩ := Bool.and_eq_true_iff.mp c2
    exact ⟨_, _, dp_of (h1.rep s) a1, dp_of (h2.rep s) a2, b1, b2, q W H _ (.refl s) newV_bl⟩
  · cases h
theorem opd_ne {K : PySem.W.Frag} : OpD K (rNeD K) fNe := by
  intro W H x y d1 d2 a Q s h1 h2 h q
  unfold fNe at h
  split at h
  · rename_i c
    cases h
    obtain ⟨c1, c2⟩ := c
    obtain ⟨a1, b1⟩ := Bool.and_eq_true_iff.mp c1
    obtain ⟨a2, b2⟩ := Bool.and_eq_true_iff.mp c2
    exact ⟨_, _, dp_of (h1.rep s) a1, dp_of (h2.rep s) a2, b1, b2, q W H _ (.refl s) newV_bl⟩
  · cases h
def D.isNon : D → Bool
  | .non => true
  | _ => false
def D.noOp : D → Bool
  | .op _ => false
  | _ => true
theorem isN_of {K : PySem.W.Frag} {H : Hp} {v : V} {d : D} (h : Rep K H v d) (n : d.noOp = true) : decide (v = .non) = d.isNon := by
  cases h <;> first | rfl | cases n | simp [D.isNon]
def fIsN (d1 d2 : D) : Option Val := if d1.noOp = true ∧ d2.isNon = true then some (.sh (.bl d1.isNon)) else none
def fNotN (d1 d2 : D) : Option Val := if d1.noOp = true ∧ d2.isNon = true then some (.sh (.bl !d1.isNon)) else none
theorem non_of {K : PySem.W.Frag} {H : Hp} {v : V} {d : D} (h : Rep K H v d) (n : d.isNon = true) : v = .non := by
  cases h <;> first | rfl | cases n
theorem opd_isN {K : PySem.W.Frag} : OpD K (fun x y H Q => y = V.non ∧ Q (V.bl (decide (x = V.non))) H) fIsN := by
  intro W H x y d1 d2 a Q s h1 h2 h q
  unfold fIsN at h
  split at h
  · rename_i c
    cases h
    refine ⟨non_of (h2.rep s) c.2, ?_⟩
    rw [isN_of (h1.rep s) c.1]
    exact q W H _ (.refl s) newV_bl
  · cases h
theorem opd_notN {K : PySem.W.Frag} : OpD K (fun x y H Q => y = V.non ∧ Q (V.bl !(decide (x = V.non))) H) fNotN := by
  intro W H x y d1 d2 a Q s h1 h2 h q
  unfold fNotN at h
  split at h
  · rename_i c
    cases h
    refine ⟨non_of (h2.rep s) c.2, ?_⟩
    rw [isN_of (h1.rep s) c.1]
    exact q W H _ (.refl s) newV_bl
  · cases h
end
end VS

/-! VJ: in, not in, subscripts, slices, built-ins by data. -/
namespace VS
open PySem PySem.Spec PyProof.Rows L2

theorem not_in {P : Program} {w : World} {A : Around} {c x : Value} {Q : Value → Shared → Prop} {E : Value → Shared → Prop} {s : Shared} (h : wpAny (model P w) A (compareOp .In x c) (fun v s' => ∃ b, v = .bool b ∧ Q (.bool !b) s') E s) : wpAny (model P w) A (compareOp .NotIn x c) Q E s := by
  intro Γ p hg
  have h2 : Sem.wp (model P w) Γ (Sem.bind (contains c x) fun r => .pure (Value.bool r)) (fun v _ s' => ∃ b, v = Value.bool b ∧ Q (.bool !b) s') (fun e _ s' => E e s') p s := h Γ p hg
  show Sem.wp (model P w) Γ (Sem.bind (contains c x) fun r => .pure (Value.bool !r)) (fun v _ s' => Q v s') (fun e _ s' => E e s') p s
  rw [Sem.wp_bind] at h2 ⊢
  refine Sem.wp_mono _ _ _ ?_ (fun _ _ _ h => h) _ _ h2
  intro a p' s' h3
  have h3 : ∃ b, Value.bool a = Value.bool b ∧ Q (.bool !b) s' := h3
  obtain ⟨b, e, q⟩ := h3
  cases e
  exact q
section
variable {X : Cx}
/-! ### in, not in -/
def rInT (K : PySem.W.Frag) : R2 := fun x y H Q => ∃ d ds, Dp K H x d ∧ Dp K H y (.tuple ds) ∧ SeqAt.shaped d = true ∧ SeqAt.shaped (.tuple ds) = true ∧ Q (.bl (ds.any fun z => z.eqv d)) H
theorem shaped_of {d : PyData} (h : SeqAt.shaped d = true) : d.canLay0 = true ∧ d.depth ≤ 64 := by
  obtain ⟨a, b⟩ := Bool.and_eq_true_iff.mp h
  exact ⟨a, of_decide_eq_true b⟩
theorem op_inT (hu : X.A.units + 65 < cLine) : OpR X (compareOp .In) (rInT X.K) := by
  rintro pins s σ H x y v u Q I rx ry ⟨d, ds, h1, h2, s1, s2, q⟩
  obtain ⟨as, r1⟩ := Dp.reads I d x v h1 rx
  obtain ⟨bs, r2⟩ := Dp.reads I _ y u h2 ry
  refine SeqAt.in_tuple_reads r2 r1 (shaped_of s2).1 (shaped_of s1).1 ?_ ⟨.bl _, H, I, rfl, q⟩
  have := (shaped_of s1).2
  have := Nat.min_le_right (PyData.depthAll ds) d.depth
  omega
def rNotInT (K : PySem.W.Frag) : R2 := fun x y H Q => ∃ d ds, Dp K H x d ∧ Dp K H y (.tuple ds) ∧ SeqAt.shaped d = true ∧ SeqAt.shaped (.tuple ds) = true ∧ Q (.bl !(ds.any fun z => z.eqv d)) H
theorem op_notInT (hu : X.A.units + 65 < cLine) : OpR X (compareOp .NotIn) (rNotInT X.K) := by
  rintro pins s σ H x y v u Q I rx ry ⟨d, ds, h1, h2, s1, s2, q⟩
  refine not_in ?_
  refine wpAny_mono (op_inT hu pins s σ H x y v u (fun v' H' => ∃ b, v' = .bl b ∧ Q (.bl !b) H') I rx ry ⟨d, ds, h1, h2, s1, s2, _, rfl, q⟩) (fun a s' h => ?_) fun _ _ h => h
  obtain ⟨v', H', I', r', b, e, q⟩ := h
  subst e
  exact ⟨b, r', .bl _, H', I', rfl, q⟩
def rInK : R2 := fun x y H Q => ∃ a o, y = .ref a ∧ DGet H a x o ∧ Q (.bl o.isSome) H
def rNotInK : R2 := fun x y H Q => ∃ a o, y = .ref a ∧ DGet H a x o ∧ Q (.bl !o.isSome) H
theorem op_inK (hu : X.A.units + 65 < cLine) : OpR X (compareOp .In) rInK := by
  rintro pins s σ H x y v u Q I rx ry ⟨a, o, rfl, g, q⟩
  cases (show u = .ref a from ry)
  exact d_in (by omega) I g rx fun s' I' => ⟨.bl _, H, I', rfl, q⟩
theorem op_notInK (hu : X.A.units + 65 < cLine) : OpR X (compareOp .NotIn) rNotInK := by
  rintro pins s σ H x y v u Q I rx ry ⟨a, o, rfl, g, q⟩
  cases (show u = .ref a from ry)
  exact d_notIn (by omega) I g rx fun s' I' => ⟨.bl _, H, I', rfl, q⟩
abbrev rInStr (neg : Bool) : R2 := fun x y H Q => ∃ i j, x = V.str i ∧ y = V.str j ∧ Q (V.bl (if neg then !(!(Builtin.Str.occurrences j i 0 j.length 1).isEmpty) else !(Builtin.Str.occurrences j i 0 j.length 1).isEmpty)) H
/-- a key looked up -/
def keyOf (d k : D) : Option (Option D) := match d with
  | .dct false l => (keyK k).map fun q => lookD keyK l q
  | .dct true l => (keyT k).map fun q => lookD keyT l q
  | _ => none
theorem get_ok {K : PySem.W.Frag} {W H : Hp} {x y : V} {d k : D} {o : Option D} (s : Sub W H) (h1 : RepO K W H x d) (h2 : RepO K W H y k) (h : keyOf d k = some o) : ∃ a r, x = .ref a ∧ DGet H a y r ∧ IsD H a ∧
    ((r = none ∧ o = none) ∨ ∃ v q, r = some v ∧ o = some q ∧ Rep K W v q) := by
  have ry := h2.rep s
  have base : ∀ {t l}, d = .dct t l → ∃ a, x = .ref a ∧ ((t = false ∧ ∃ kvs, Rd H a (.dK kvs) ∧ RepsK K W kvs l) ∨ (t = true ∧ ∃ kvs, Rd H a (.dT kvs) ∧ RepsT K W kvs l)) := by
    rintro t l rfl
    rcases h1 with h1 | ⟨p, rfl, h1⟩
    · cases h1 with
      | dK hr r => exact ⟨_, rfl, .inl ⟨rfl, _, s.rd hr, r⟩⟩
      | dT hr r => exact ⟨_, rfl, .inr ⟨rfl, _, s.rd hr, r⟩⟩
    · cases t
      · obtain ⟨kvs, a, b⟩ := h1; exact ⟨_, rfl, .inl ⟨rfl, kvs, .inl a, b⟩⟩
      · obtain ⟨kvs, a, b⟩ := h1; exact ⟨_, rfl, .inr ⟨rfl, kvs, .inl a, b⟩⟩
  unfold keyOf at h
  split at h
  · rename_i l
    obtain ⟨a, rfl, c⟩ := base rfl
    rcases c with ⟨_, kvs, hr, rk⟩ | ⟨z, _⟩
    · cases q : keyK k with
      | none => rw [q] at h; cases h
      | some kk =>
        rw [q] at h
        cases h
        have ek := keyK_some q
        subst ek
        have ey : y = kV kk := by
          cases kk with
          | inl z => cases (show Rep K H y (.int z) from ry); rfl
          | inr z => cases (show Rep K H y (.str z) from ry); rfl
        refine ⟨a, _, rfl, .inl ⟨kvs, kk, hr, ey, rfl⟩, .inl ⟨kvs, hr⟩, ?_⟩
        rcases lookK_ok rk kk with ⟨z1, z2⟩ | ⟨v, dd, z1, z2, z3⟩
        · exact .inl ⟨z1, z2⟩
        · exact .inr ⟨v, dd, z1, z2, z3⟩
    · cases z
  · rename_i l
    obtain ⟨a, rfl, c⟩ := base rfl
    rcases c with ⟨z, _⟩ | ⟨_, kvs, hr, rk⟩
    · cases z
    · cases q : keyT k with
      | none => rw [q] at h; cases h
      | some kk =>
        rw [q] at h
        cases h
        have ek := keyT_some q
        subst ek
        cases (show Rep K H y (.tup (kk.map kD)) from ry) with
        | tup ha rs =>
          rename_i ad vs
          have ev : vs = kk.map kV := keys_vals rs
          subst ev
          refine ⟨a, _, rfl, .inr ⟨kvs, kk, ad, hr, rfl, ha, rfl⟩, .inr ⟨kvs, hr⟩, ?_⟩
          rcases lookT_ok rk kk with ⟨z1, z2⟩ | ⟨v, dd, z1, z2, z3⟩
          · exact .inl ⟨z1, z2⟩
          · exact .inr ⟨v, dd, z1, z2, z3⟩
  · cases h
/-- is it in? -/
def isIn : D → D → Option Bool
  | d, .lst ds => if d.ok = true ∧ (D.lst ds).ok = true then some ((pys ds).any fun z => z.eqv d.py) else none
  | d, .fl ds => if d.ok = true ∧ (D.lst ds).ok = true then some ((pys ds).any fun z => z.eqv d.py) else none
  | d, .tup ds => if d.ok = true ∧ (D.tup ds).ok = true then some ((pys ds).any fun z => z.eqv d.py) else none
  | .str x, .str y => some !(Builtin.Str.occurrences y x 0 y.length 1).isEmpty
  | d, .dct t l => (keyOf (.dct t l) d).map Option.isSome
  | _, _ => none
def fIn (d1 d2 : D) : Option Val := (isIn d1 d2).map fun b => .sh (.bl b)
def fNotIn (d1 d2 : D) : Option Val := (isIn d1 d2).map fun b => .sh (.bl !b)
abbrev rInA (K : PySem.W.Frag) : R2 := fun x y H Q => rInD K x y H Q ∨ rInT K x y H Q ∨ rInK x y H Q ∨ (∃ i j, x = V.str i ∧ y = V.str j ∧ Q (V.bl !(Builtin.Str.occurrences j i 0 j.length 1).isEmpty) H)
abbrev rNotInA (K : PySem.W.Frag) : R2 := fun x y H Q => rNotInD K x y H Q ∨ rNotInT K x y H Q ∨ rNotInK x y H Q ∨ (∃ i j, x = V.str i ∧ y = V.str j ∧ Q (V.bl !!(Builtin.Str.occurrences j i 0 j.length 1).isEmpty) H)
theorem opr_in (hu : X.A.units + 65 < cLine) : OpR X (compareOp .In) (rInA X.K) := OpR.or (op_inD hu) (OpR.or (op_inT hu) (OpR.or (op_inK hu) op_in_str))
theorem opr_notIn (hu : X.A.units + 65 < cLine) : OpR X (compareOp .NotIn) (rNotInA X.K) := OpR.or (op_notInD hu) (OpR.or (op_notInT hu) (OpR.or (op_notInK hu) op_notin_str))
theorem ok_of {d : D} (h : d.ok = true) : d.plain = true ∧ SeqAt.shaped d.py = true := Bool.and_eq_true_iff.mp h
theorem isIn_ok {K : PySem.W.Frag} {W H : Hp} {x y : V} {d1 d2 : D} {b : Bool} {Q : VK} {g : Bool → Bool} (s : Sub W H) (h1 : RepO K W H x d1) (h2 : RepO K W H y d2) (h : isIn d1 d2 = some b) (q : Q (.bl (g b)) H) :
    (∃ d ds, Dp K H x d ∧ Dp K H y (.list ds) ∧ SeqAt.shaped d = true ∧ SeqAt.shaped (.list ds) = true ∧ Q (.bl (g (ds.any fun z => z.eqv d))) H) ∨
    (∃ d ds, Dp K H x d ∧ Dp K H y (.tuple ds) ∧ SeqAt.shaped d = true ∧ SeqAt.shaped (.tuple ds) = true ∧ Q (.bl (g (ds.any fun z => z.eqv d))) H) ∨
    (∃ a o, y = .ref a ∧ DGet H a x o ∧ Q (.bl (g o.isSome)) H) ∨ (∃ i j, x = V.str i ∧ y = V.str j ∧ Q (V.bl (g !(Builtin.Str.occurrences j i 0 j.length 1).isEmpty)) H) := by
  unfold isIn at h
  split at h
  · split at h
    · rename_i c
      cases h
      obtain ⟨c1, c2⟩ := c
      exact .inl ⟨_, _, dp_of (h1.rep s) (ok_of c1).1, dp_of (h2.rep s) (ok_of c2).1, (ok_of c1).2, (ok_of c2).2, q⟩
    · cases h
  · split at h
    · rename_i c
      cases h
      obtain ⟨c1, c2⟩ := c
      exact .inl ⟨_, _, dp_of (h1.rep s) (ok_of c1).1, dp_of (h2.rep s) (ok_of c2).1, (ok_of c1).2, (ok_of c2).2, q⟩
    · cases h
  · split at h
    · rename_i c
      cases h
      obtain ⟨c1, c2⟩ := c
      exact .inr (.inl ⟨_, _, dp_of (h1.rep s) (ok_of c1).1, dp_of (h2.rep s) (ok_of c2).1, (ok_of c1).2, (ok_of c2).2, q⟩)
    · cases h
  · cases h
    exact .inr (.inr (.inr ⟨_, _, repO_str s h1, repO_str s h2, q⟩))
  · cases q0 : keyOf (.dct _ _) d1 with
    | none => rw [q0] at h; cases h
    | some o =>
      rw [q0] at h
      cases h
      obtain ⟨a, r, e, g1, _, c⟩ := get_ok s h2 h1 q0
      refine .inr (.inr (.inl ⟨a, r, e, g1, ?_⟩))
      have : r.isSome = o.isSome := by
        rcases c with ⟨rfl, rfl⟩ | ⟨_, _, rfl, rfl, _⟩ <;> rfl
      rw [this]
      exact q
  · cases h
theorem opd_in {K : PySem.W.Frag} : OpD K (rInA K) fIn := by
  intro W H x y d1 d2 a Q s h1 h2 h q
  unfold fIn at h
  cases q0 : isIn d1 d2 with
  | none => rw [q0] at h; cases h
  | some b =>
    rw [q0] at h
    cases h
    exact isIn_ok (g := fun b => b) s h1 h2 q0 (q W H _ (.refl s) newV_bl)
theorem opd_notIn {K : PySem.W.Frag} : OpD K (rNotInA K) fNotIn := by
  intro W H x y d1 d2 a Q s h1 h2 h q
  unfold fNotIn at h
  cases q0 : isIn d1 d2 with
  | none => rw [q0] at h; cases h
  | some b =>
    rw [q0] at h
    cases h
    exact isIn_ok (g := fun b => !b) s h1 h2 q0 (q W H _ (.refl s) newV_bl)

/-! ### subscripts -/
def fIxS : D → D → Option Val
  | .lst ds, .int i => (atI ds i).map .sh
  | .fl ds, .int i => (atI ds i).map .sh
  | .tup ds, .int i => (atI ds i).map .sh
  | .str z, .int i => if z.length ≤ sizeLine then (atI z.cps.toList i).map fun c => .sh (.str { cps := #[c] }) else none
  | _, _ => none
def fIxD (d k : D) : Option Val := match keyOf d k with
  | some (some q) => some (.sh q)
  | _ => none
def D.isDct : D → Bool
  | .dct _ _ => true
  | _ => false
def fIx (d k : D) : Option Val := if d.isDct then fIxD d k else fIxS d k
theorem atI_reps {K : PySem.W.Frag} {H : Hp} {vs : List V} {ds : List D} {i : Int} {d : D} (r : Reps K H vs ds) (h : atI ds i = some d) : ∃ v, atI vs i = some v ∧ Rep K H v d := by
  unfold atI at h ⊢
  rw [r.length]
  cases q : ixN ds.length i with
  | none => rw [q] at h; cases h
  | some j =>
    rw [q, Option.bind_some] at h
    exact r.get h
theorem opd_ixS {K : PySem.W.Frag} : OpD K (rIx K) fIxS := by
  intro W H x y d1 d2 a Q s h1 h2 h q
  unfold fIxS at h
  split at h
  · rename_i ds i
    cases q0 : atI ds i with
    | none => rw [q0] at h; cases h
    | some d =>
      rw [q0] at h
      cases h
      obtain ⟨p, vs, rfl, hp, r⟩ := repO_lst' s h1
      obtain ⟨v, hv, rv⟩ := atI_reps r q0
      exact .inl ⟨p, vs, i, v, rfl, repO_int s h2, sqL_of hp, hv, q W H v (.refl s) rv⟩
  · rename_i ds i
    cases q0 : atI ds i with
    | none => rw [q0] at h; cases h
    | some d =>
      rw [q0] at h
      cases h
      obtain ⟨p, vs, rfl, hp, r⟩ := repO_fl h1
      obtain ⟨v, hv, rv⟩ := atI_reps r q0
      exact .inl ⟨p, vs, i, v, rfl, repO_int s h2, s.sqL hp, hv, q W H v (.refl s) rv⟩
  · rename_i ds i
    cases q0 : atI ds i with
    | none => rw [q0] at h; cases h
    | some d =>
      rw [q0] at h
      cases h
      obtain ⟨p, vs, rfl, hp, r⟩ := repO_tup h1
      obtain ⟨v, hv, rv⟩ := atI_reps r q0
      exact .inr (.inl ⟨p, vs, i, v, rfl, repO_int s h2, sqT_of (s _ _ hp), hv, q W H v (.refl s) rv⟩)
  · rename_i z i
    split at h
    · rename_i c
      cases q0 : atI z.cps.toList i with
      | none => rw [q0] at h; cases h
      | some d =>
        rw [q0] at h
        cases h
        exact .inr (.inr ⟨z, i, d, repO_str s h1, repO_int s h2, c, q0, q W H _ (.refl s) (.str _)⟩)
    · cases h
  · cases h
def rGet : R2 := fun x y H Q => ∃ a v, x = V.ref a ∧ DGet H a y (some v) ∧ Q v H
theorem opd_ixD {K : PySem.W.Frag} : OpD K rGet fIxD := by
  intro W H x y d1 d2 a Q s h1 h2 h q
  unfold fIxD at h
  split at h
  · rename_i qd q0
    cases h
    obtain ⟨a, r, e, g, _, c⟩ := get_ok s h1 h2 q0
    rcases c with ⟨_, z⟩ | ⟨v, qd', e1, e2, rv⟩
    · cases z
    · cases e2
      subst e1
      exact ⟨a, v, e, g, q W H v (.refl s) rv⟩
  · cases h
theorem m2_split {f f1 f2 : D → D → Option Val} {k : D → D → Bool} (h1 : ∀ a b, k a b = true → f a b = f1 a b) (h2 : ∀ a b, k a b = false → f a b = f2 a b) (ma mb : M Val) (e : Env) : m2 f ma mb e = m2 f1 ma mb e ∨ m2 f ma mb e = m2 f2 ma mb e := by
  unfold m2 M.bind
  cases ma e with
  | no => exact .inl rfl
  | ex x e' => exact .inl rfl
  | ok a e1 =>
    simp only
    cases mb e1 with
    | no => exact .inl rfl
    | ex x e' => exact .inl rfl
    | ok b e2 =>
      simp only
      cases look e2 (hold a) with
      | none => exact .inl rfl
      | some d1 =>
        cases look e2 b with
        | none => exact .inl rfl
        | some d2 =>
          simp only
          cases z : k d1 d2 with
          | true => rw [h1 d1 d2 z]; exact .inl rfl
          | false => rw [h2 d1 d2 z]; exact .inr rfl
theorem rdE_at {m m1 m2 : M Val} {Wx : WX} {σ : L2.St} {H : Hp} {Q : VK} (h : rdE X Wx m σ H Q) (k : ∀ e, m e = m1 e ∨ m e = m2 e) : rdE X Wx m1 σ H Q ∨ rdE X Wx m2 σ H Q := by
  obtain ⟨fg, la, W, e, rl, h⟩ := h
  rcases k e with z | z
  · exact .inl ⟨fg, la, W, e, rl, by rw [← z]; exact h⟩
  · exact .inr ⟨fg, la, W, e, rl, by rw [← z]; exact h⟩
theorem PE.or {e : Expr} {t t' : TE} (h : PE X e t) (h' : PE X e t') : PE X e (fun σ H Q => t σ H Q ∨ t' σ H Q) := ⟨fun pins s σ H Q I q => by
  rcases q with q | q
  · exact h.run pins s σ H Q I q
  · exact h'.run pins s σ H Q I q⟩
theorem de_sub {Wx : WX} {a b : Expr} {ma mb : M Val} {pos : Pos} (hu : X.A.units + 1 < cLine) (ha : DE X Wx a ma) (hb : DE X Wx b mb) (hs : PlainIx b := by intro _ _; rfl) : DE X Wx (.Subscript a b pos) (m2 fIx ma mb) :=
  PE.wk (PE.or (pe_dget hu ha hb hs) (pe_ix ix_seq ha hb hs)) fun σ H Q h => by
    rcases rdE_at h (m2_split (f1 := fIxD) (f2 := fIxS) (k := fun a _ => a.isDct) (fun a b z => by unfold fIx; rw [if_pos z]) (fun a b z => by unfold fIx; rw [if_neg (by rw [z]; exact Bool.false_ne_true)]) ma mb) with h | h
    · exact .inl (rd2 (r := rGet) opd_ixD h)
    · exact .inr (rd2 opd_ixS h)

/-! ### slices -/
def cutD (xs : List D) (lo hi : Option Int) : List D := List.take (HT.sIx xs.length xs.length hi - HT.sIx xs.length 0 lo) (List.drop (HT.sIx xs.length 0 lo) xs)
theorem cut_reps {K : PySem.W.Frag} {H : Hp} {vs : List V} {ds : List D} (r : Reps K H vs ds) (lo hi : Option Int) : Reps K H (cutV vs lo hi) (cutD ds lo hi) := by
  unfold cutV cutD
  rw [r.length]
  exact (r.drop _).take _
def fSl : D → Option Int → Option Int → Option Val
  | .lst ds, lo, hi => some (.ow (.lst (cutD ds lo hi)))
  | .fl ds, lo, hi => some (.ow (.lst (cutD ds lo hi)))
  | .tup ds, lo, hi => some (.sh (.tup (cutD ds lo hi)))
  | .str z, lo, hi => if z.length ≤ sizeLine then some (.sh (.str (cutS z lo hi))) else none
  | _, _, _ => none
theorem SlR.or {r r' : V → Option Int → Option Int → Hp → VK → Prop} (h : SlR X r) (h' : SlR X r') : SlR X (fun x lo hi H Q => r x lo hi H Q ∨ r' x lo hi H Q) := by
  intro pins s σ H x v vl vu lo hi sl Q I rx a b c q
  rcases q with q | q
  · exact h pins s σ H x v vl vu lo hi sl Q I rx a b c q
  · exact h' pins s σ H x v vl vu lo hi sl Q I rx a b c q
abbrev rSl (K : PySem.W.Frag) : V → Option Int → Option Int → Hp → VK → Prop := fun x lo hi H Q => rSlL K x lo hi H Q ∨ rSlA K x lo hi H Q ∨ rSlS x lo hi H Q
theorem slr_all : SlR X (rSl X.K) := SlR.or sl_list (SlR.or sl_tupA sl_str)
theorem cutD_whole {ds : List D} {lo hi : Option Int} (h : HT.sIx ds.length 0 lo = 0 ∧ HT.sIx ds.length ds.length hi = ds.length) : cutD ds lo hi = ds := by
  unfold cutD
  rw [h.1, h.2, List.drop_zero, Nat.sub_zero, List.take_length]
theorem sld_all {K : PySem.W.Frag} : SlD K (rSl K) fSl := by
  intro W H x d lo hi a Q s h1 h q
  unfold fSl at h
  split at h
  · cases h
    obtain ⟨p, vs, rfl, hp, r⟩ := repO_lst' s h1
    refine .inl ⟨p, vs, rfl, sqL_of hp, fun n hn => ?_⟩
    obtain ⟨t, nv⟩ := newV_ow s hn (cut_reps r _ _)
    exact q _ _ _ t nv
  · cases h
    obtain ⟨p, vs, rfl, hp, r⟩ := repO_fl h1
    refine .inl ⟨p, vs, rfl, s.sqL hp, fun n hn => ?_⟩
    obtain ⟨t, nv⟩ := newV_ow s hn (cut_reps r _ _)
    exact q _ _ _ t nv
  · cases h
    obtain ⟨p, vs, rfl, hp, r⟩ := repO_tup h1
    refine .inr (.inl ⟨p, vs, rfl, sqT_of (s _ _ hp), fun e => ?_, fun _ n hn => ?_⟩)
    · rw [r.length] at e
      exact q W H _ (.refl s) (by rw [cutD_whole e]; exact .tup hp r)
    · obtain ⟨t, nv⟩ := newV_sh s hn (cut_reps r _ _)
      exact q _ _ _ t nv
  · split at h
    · rename_i c
      cases h
      exact .inr (.inr ⟨_, repO_str s h1, c, q W H _ (.refl s) (.str _)⟩)
    · cases h
  · cases h
theorem de_sl {Wx : WX} {e : Expr} {lo hi : Option Expr} {m : M Val} {ml mh : Option (M Val)} {p2 pos : Pos} (he : DE X Wx e m) (hl : DO X Wx lo ml) (hh : DO X Wx hi mh) : DE X Wx (.Subscript e (.Slice lo hi none p2) pos) (mSl fSl m ml mh) := de_slice slr_all sld_all he hl hh
end
end VS

/-! VK: built-ins by data. -/
namespace VS
open PySem PySem.Spec PyProof.Rows L2

section
variable {K : PySem.W.Frag} {W H : Hp}
/-! ### len -/
def seqD : D → Option (List D)
  | .lst ds => some ds
  | .fl ds => some ds
  | .tup ds => some ds
  | _ => none
theorem seq_ok {x : V} {d : D} {ds : List D} (s : Sub W H) (h : RepO K W H x d) (e : seqD d = some ds) : ∃ p vs, x = .ref p ∧ (SqL K H p vs ∨ SqT K H p vs) ∧ Reps K W vs ds := by
  cases d with
  | lst _ => cases e; obtain ⟨p, vs, h1, h2, h3⟩ := repO_lst' s h; exact ⟨p, vs, h1, .inl (sqL_of h2), h3⟩
  | fl _ => cases e; obtain ⟨p, vs, h1, h2, h3⟩ := repO_fl h; exact ⟨p, vs, h1, .inl (s.sqL h2), h3⟩
  | tup _ => cases e; obtain ⟨p, vs, h1, h2, h3⟩ := repO_tup h; exact ⟨p, vs, h1, .inr (sqT_of (s _ _ h2)), h3⟩
  | _ => cases e
def lstD : D → Option (List D)
  | .lst ds => some ds
  | .fl ds => some ds
  | _ => none
theorem lst_ok {x : V} {d : D} {ds : List D} (s : Sub W H) (h : RepO K W H x d) (e : lstD d = some ds) : ∃ p vs, x = .ref p ∧ SqL K H p vs ∧ Reps K W vs ds := by
  cases d with
  | lst _ => cases e; obtain ⟨p, vs, h1, h2, h3⟩ := repO_lst' s h; exact ⟨p, vs, h1, sqL_of h2, h3⟩
  | fl _ => cases e; obtain ⟨p, vs, h1, h2, h3⟩ := repO_fl h; exact ⟨p, vs, h1, s.sqL h2, h3⟩
  | _ => cases e
theorem repO_dct {x : V} {t : Bool} {l : List (D × D)} (s : Sub W H) (h : RepO K W H x (.dct t l)) : ∃ p, x = .ref p ∧ ((t = false ∧ ∃ kvs, Rd H p (.dK kvs) ∧ RepsK K W kvs l) ∨ (t = true ∧ ∃ kvs, Rd H p (.dT kvs) ∧ RepsT K W kvs l)) := by
  rcases h with h1 | ⟨p, rfl, h1⟩
  · cases h1 with
    | dK hr r => exact ⟨_, rfl, .inl ⟨rfl, _, s.rd hr, r⟩⟩
    | dT hr r => exact ⟨_, rfl, .inr ⟨rfl, _, s.rd hr, r⟩⟩
  · cases t
    · obtain ⟨kvs, a, b⟩ := h1; exact ⟨_, rfl, .inl ⟨rfl, kvs, .inl a, b⟩⟩
    · obtain ⟨kvs, a, b⟩ := h1; exact ⟨_, rfl, .inr ⟨rfl, kvs, .inl a, b⟩⟩
def lenD : D → Option Nat
  | .lst ds => some ds.length
  | .fl ds => some ds.length
  | .tup ds => some ds.length
  | .str z => if z.length ≤ sizeLine then some z.length else none
  | .dct _ l => some l.length
  | _ => none
def fLen (ds : List D) : Option Val := match ds with
  | [d] => (lenD d).map fun n => .sh (.int n)
  | _ => none
abbrev rLenA (K : PySem.W.Frag) : List V → Hp → VK → Prop := fun xs H Q => (∃ p ys, xs = [V.ref p] ∧ (SqL K H p ys ∨ SqT K H p ys) ∧ Q (V.int ys.length) H) ∨ (∃ z : Str, xs = [V.str z] ∧ z.length ≤ sizeLine ∧ Q (V.int z.length) H) ∨
  (∃ a kvs, xs = [V.ref a] ∧ Rd H a (.dK kvs) ∧ Q (V.int kvs.length) H) ∨ (∃ a kvs, xs = [V.ref a] ∧ Rd H a (.dT kvs) ∧ Q (V.int kvs.length) H)
end
section
variable {X : Cx}
theorem rd_lenK : CallR X (.builtin "len") fun xs H Q => ∃ a kvs, xs = [V.ref a] ∧ Rd H a (.dK kvs) ∧ Q (V.int kvs.length) H := by
  rintro pins s σ H xs us Q I r ⟨a, kvs, rfl, h, q⟩
  obtain ⟨u, rfl, ru⟩ := L2.vals1 r
  cases (show u = .ref a from ru)
  exact d_len I h fun t s' I' => ⟨.int _, H, I', ⟨t, rfl⟩, q⟩
theorem KT.len {H : Hp} : ∀ {kvs : List (List Key × V)} {xs : List (List Key × Addr × Value)}, KT H kvs xs → kvs.length = xs.length := by
  intro kvs xs h
  induction h with
  | nil => rfl
  | cons _ _ ih => rw [List.length_cons, List.length_cons, ih]
/-- a dict's length, whatever its keys are -/
theorem len_raw {P : Program} {w : World} {A : Around} {E : Value → Shared → Prop} {s : Shared} {d : Addr} {o : Obj} {es : Array DictEntry} {ep : Nat} {Q : Value → Shared → Prop} (hd : (d == sysModules) = false) (ho : s.heap.get? d = some o) (hc : o.ExactDict) (hdat : o.data = .dict es ep)
    (hf : (es.size : Int) < 2 ^ 63) (h : Q (.int es.size (s.toks + 1)) { s with toks := s.toks + 1 + 1 }) : wpAny (model P w) A (call (.builtin "len") [.ref d]) Q E s := by
  have ty : s.TypeIs (.ref d) "dict" := ⟨o, ho, hc.1⟩
  have meets : MeetsIn P w (Builtin.«dict.__len__» { pos := [Value.ref d] }) fun _ R s1 => s1.heap.get? d = some o ∧ R (.ok (.ret (.int es.size s1.toks))) { s1 with toks := s1.toks + 1 } :=
    MeetsIn.of_wp fun A' R s1 z => by
      obtain ⟨ho1, z⟩ := z
      show wpAny (model P w) A'.in1 (dictSize d >>= fun n => Builtin.Dict.pendingCount d >>= fun p => retInt ((n : Int) + (p : Int))) _ _ s1
      refine wpAny_bind (wpAny_bind (wpAny_dictEntries ho1 hdat (wpAny_pure (wpAny_bind (wpAny_pendingCount_other hd (wpAny_ret_mkInt ?_))))))
      rw [show ((es.size : Int) + ((0 : Nat) : Int)) = es.size by omega]
      exact z
  refine Calls.call_function_entry kind_len plain_len entry_len (args_len1 (.ref d)) ?_
  refine wpAny_bind (wpAny_pure (wpAny_bind ?_))
  refine wpAny_callSpecial?_slot ty F.slot_dict_len (call_meetsIn F.slot_dict_len ty F.entry_dict_len (F.args_dict_len_1 (.ref d)) meets ⟨ho, ?_⟩)
  refine wpAny_bind (wpAny_holding (wpAny_pure (wpAny_bind (wpAny_letGo ?_))))
  show wpAny _ _ (if _ then _ else _) _ _ _
  rw [if_neg (by omega), if_neg (by omega)]
  exact wpAny_bind (wpAny_mkInt (wpAny_pure ⟨_, rfl, h⟩))
theorem rd_lenT : CallR X (.builtin "len") fun xs H Q => ∃ a kvs, xs = [V.ref a] ∧ Rd H a (.dT kvs) ∧ Q (V.int kvs.length) H := by
  rintro pins s σ H xs us Q I r ⟨a, kvs, rfl, h, q⟩
  obtain ⟨u, rfl, ru⟩ := L2.vals1 r
  cases (show u = .ref a from ru)
  obtain ⟨hl, hm, ys, kt, o, es, ep, ho, hc, hdat, hes, _, _⟩ := dt_rd I.hok h
  have hz : es.size = kvs.length := by
    rw [KT.len kt, ← Array.length_toList, hes, List.length_map]
  rw [sizeLine_eq] at hl
  refine len_raw hm ho hc hdat (by omega) ⟨.int _, H, I.tok _, ⟨_, rfl⟩, ?_⟩
  rw [hz]; exact q
theorem cr_lenA : CallR X (.builtin "len") (rLenA X.K) := CallR.or call_len_seq (CallR.or call_len_str (CallR.or rd_lenK rd_lenT))
theorem RepOs.one {K : PySem.W.Frag} {W H : Hp} {vs : List V} {d : D} (h : RepOs K W H vs [d]) : ∃ v, vs = [v] ∧ RepO K W H v d := by
  cases h with
  | cons r t => cases t; exact ⟨_, rfl, r⟩
theorem RepOs.two {K : PySem.W.Frag} {W H : Hp} {vs : List V} {d d2 : D} (h : RepOs K W H vs [d, d2]) : ∃ v v2, vs = [v, v2] ∧ RepO K W H v d ∧ RepO K W H v2 d2 := by
  cases h with
  | cons r t => cases t with
    | cons r2 t => cases t; exact ⟨_, _, rfl, r, r2⟩
theorem cd_len {K : PySem.W.Frag} : CallD K (rLenA K) fLen := by
  intro W H vs ds a Q s h e q
  unfold fLen at e
  split at e
  · rename_i d
    obtain ⟨v, rfl, r⟩ := h.one
    have fin : ∀ {n : Nat}, lenD d = some n → Q (V.int n) H := fun z => by
      rw [z] at e; cases e; exact q W H _ (.refl s) newV_int
    cases d with
    | lst ds => obtain ⟨p, vs, rfl, h2, h3⟩ := seq_ok (ds := ds) s r rfl; exact .inl ⟨p, vs, rfl, h2, by rw [h3.length]; exact fin rfl⟩
    | fl ds => obtain ⟨p, vs, rfl, h2, h3⟩ := seq_ok (ds := ds) s r rfl; exact .inl ⟨p, vs, rfl, h2, by rw [h3.length]; exact fin rfl⟩
    | tup ds => obtain ⟨p, vs, rfl, h2, h3⟩ := seq_ok (ds := ds) s r rfl; exact .inl ⟨p, vs, rfl, h2, by rw [h3.length]; exact fin rfl⟩
    | str z =>
      cases repO_str s r
      by_cases c : z.length ≤ sizeLine
      · exact .inr (.inl ⟨z, rfl, c, fin (show (if z.length ≤ sizeLine then some z.length else none) = _ from if_pos c)⟩)
      · rw [show lenD (.str z) = none from if_neg c] at e; cases e
    | dct t l =>
      obtain ⟨p, rfl, c⟩ := repO_dct s r
      rcases c with ⟨rfl, kvs, h1, h2⟩ | ⟨rfl, kvs, h1, h2⟩
      · exact .inr (.inr (.inl ⟨p, kvs, rfl, h1, by rw [h2.length]; exact fin rfl⟩))
      · exact .inr (.inr (.inr ⟨p, kvs, rfl, h1, by rw [h2.length]; exact fin rfl⟩))
    | _ => cases e
  · cases e
/-! ### list, tuple, int, abs, str -/
def fList (ds : List D) : Option Val := match ds with
  | [d] => (seqD d).map fun xs => .ow (.lst xs)
  | _ => none
theorem cd_list {K : PySem.W.Frag} : CallD K (fun xs H Q => ∃ p ys, xs = [V.ref p] ∧ (SqL K H p ys ∨ SqT K H p ys) ∧ ∀ (l : Addr), H l = none → Q (V.ref l) (upd H l (HO.lst ys))) fList := by
  intro W H vs ds a Q s h e q
  unfold fList at e
  split at e
  · rename_i d
    obtain ⟨v, rfl, r⟩ := h.one
    cases z : seqD d with
    | none => rw [z] at e; cases e
    | some xs =>
      rw [z] at e; cases e
      obtain ⟨p, vs, rfl, h2, h3⟩ := seq_ok s r z
      refine ⟨p, vs, rfl, h2, fun n hn => ?_⟩
      obtain ⟨t, nv⟩ := newV_ow s hn h3
      exact q _ _ _ t nv
  · cases e
def fTuple (ds : List D) : Option Val := match ds with
  | [d] => (seqD d).map fun xs => .sh (.tup xs)
  | _ => none
theorem cd_tuple {K : PySem.W.Frag} : CallD K (fun xs H Q => ∃ p ys, xs = [V.ref p] ∧ ((SqL K H p ys ∧ ∀ (l : Addr), H l = none → Q (V.ref l) (upd H l (HO.tup ys))) ∨ SqT K H p ys ∧ Q (V.ref p) H)) fTuple := by
  intro W H vs ds a Q s h e q
  unfold fTuple at e
  split at e
  · rename_i d
    obtain ⟨v, rfl, r⟩ := h.one
    cases d with
    | tup xs =>
      cases e
      obtain ⟨p, vs, rfl, hp, r⟩ := repO_tup r
      exact ⟨p, vs, rfl, .inr ⟨sqT_of (s _ _ hp), q W H _ (.refl s) (.tup hp r)⟩⟩
    | lst xs =>
      cases e
      obtain ⟨p, vs, rfl, h2, h3⟩ := lst_ok s r rfl
      refine ⟨p, vs, rfl, .inl ⟨h2, fun n hn => ?_⟩⟩
      obtain ⟨t, nv⟩ := newV_sh s hn h3
      exact q _ _ _ t nv
    | fl xs =>
      cases e
      obtain ⟨p, vs, rfl, h2, h3⟩ := lst_ok s r rfl
      refine ⟨p, vs, rfl, .inl ⟨h2, fun n hn => ?_⟩⟩
      obtain ⟨t, nv⟩ := newV_sh s hn h3
      exact q _ _ _ t nv
    | _ => cases e
  · cases e
def fInt (ds : List D) : Option Val := match ds with
  | [.int i] => some (.sh (.int i))
  | [.bl b] => some (.sh (.int (if b = true then 1 else 0)))
  | _ => none
theorem cd_int {K : PySem.W.Frag} : CallD K (fun xs H Q => (∃ i, xs = [V.int i] ∧ Q (V.int i) H) ∨ ∃ k, xs = [V.bl k] ∧ Q (V.int (if k = true then 1 else 0)) H) fInt := by
  intro W H vs ds a Q s h e q
  unfold fInt at e
  split at e
  · obtain ⟨v, rfl, r⟩ := h.one
    cases e
    exact .inl ⟨_, by rw [repO_int s r], q W H _ (.refl s) newV_int⟩
  · obtain ⟨v, rfl, r⟩ := h.one
    cases e
    exact .inr ⟨_, by rw [repO_bl s r], q W H _ (.refl s) newV_int⟩
  · cases e
def fAbs (ds : List D) : Option Val := match ds with
  | [.int i] => some (.sh (.int (if i < 0 then -i else i)))
  | _ => none
theorem cd_abs {K : PySem.W.Frag} : CallD K (fun xs H Q => ∃ i, xs = [V.int i] ∧ Q (V.int (if i < 0 then -i else i)) H) fAbs := by
  intro W H vs ds a Q s h e q
  unfold fAbs at e
  split at e
  · obtain ⟨v, rfl, r⟩ := h.one
    cases e
    exact ⟨_, by rw [repO_int s r], q W H _ (.refl s) newV_int⟩
  · cases e
def fStr (ds : List D) : Option Val := match ds with
  | [.int i] => if i.natAbs.log2 < 1920 then some (.sh (.str (Str.ofString (toString i)))) else none
  | _ => none
theorem cd_str {K : PySem.W.Frag} : CallD K (fun xs H Q => ∃ i : Int, xs = [V.int i] ∧ i.natAbs.log2 < 1920 ∧ Q (V.str (Str.ofString (toString i))) H) fStr := by
  intro W H vs ds a Q s h e q
  unfold fStr at e
  split at e
  · obtain ⟨v, rfl, r⟩ := h.one
    split at e
    · rename_i c
      cases e
      exact ⟨_, by rw [repO_int s r], c, q W H _ (.refl s) (.str _)⟩
    · cases e
  · cases e
/-! ### max, min, sum, any, all -/
def intsOf : List D → Option (List Int)
  | [] => some []
  | .int i :: ds => (intsOf ds).map (i :: ·)
  | _ => none
theorem intsOf_ok : ∀ {ds : List D} {ns : List Int}, intsOf ds = some ns → ds = ns.map .int
  | [], ns, h => by cases h; rfl
  | d :: ds, ns, h => by
    cases d with
    | int i =>
      unfold intsOf at h
      cases q : intsOf ds with
      | none => rw [q] at h; cases h
      | some ms => rw [q] at h; cases h; rw [List.map_cons, ← intsOf_ok q]
    | _ => cases h
theorem intsOf_map : ∀ ns : List Int, intsOf (ns.map .int) = some ns
  | [] => rfl
  | n :: ns => by rw [List.map_cons, intsOf, intsOf_map ns]; rfl
def blsOf : List D → Option (List Bool)
  | [] => some []
  | .bl i :: ds => (blsOf ds).map (i :: ·)
  | _ => none
theorem blsOf_ok : ∀ {ds : List D} {ns : List Bool}, blsOf ds = some ns → ds = ns.map .bl
  | [], ns, h => by cases h; rfl
  | d :: ds, ns, h => by
    cases d with
    | bl i =>
      unfold blsOf at h
      cases q : blsOf ds with
      | none => rw [q] at h; cases h
      | some ms => rw [q] at h; cases h; rw [List.map_cons, ← blsOf_ok q]
    | _ => cases h
theorem blsOf_map : ∀ ns : List Bool, blsOf (ns.map .bl) = some ns
  | [] => rfl
  | n :: ns => by rw [List.map_cons, blsOf, blsOf_map ns]; rfl
theorem reps_int {K : PySem.W.Frag} {W : Hp} : ∀ {ns : List Int} {vs : List V}, Reps K W vs (ns.map .int) → vs = ns.map .int
  | [], _, h => by cases h; rfl
  | n :: ns, _, h => by
    cases h with
    | cons r t => cases r; rw [List.map_cons, reps_int t]
theorem reps_bl {K : PySem.W.Frag} {W : Hp} : ∀ {ns : List Bool} {vs : List V}, Reps K W vs (ns.map .bl) → vs = ns.map .bl
  | [], _, h => by cases h; rfl
  | n :: ns, _, h => by
    cases h with
    | cons r t => cases r; rw [List.map_cons, reps_bl t]
/-- one list of whole numbers -/
def oneInts (ds : List D) : Option (List Int) := match ds with
  | [d] => (lstD d).bind intsOf
  | _ => none
def oneBls (ds : List D) : Option (List Bool) := match ds with
  | [d] => (lstD d).bind blsOf
  | _ => none
theorem oneInts_ok {K : PySem.W.Frag} {W H : Hp} {vs : List V} {ds : List D} {ns : List Int} (s : Sub W H) (h : RepOs K W H vs ds) (e : oneInts ds = some ns) : ∃ a, vs = [V.ref a] ∧ SqL K H a (ns.map .int) := by
  unfold oneInts at e
  split at e
  · rename_i d
    obtain ⟨v, rfl, r⟩ := h.one
    cases z : lstD d with
    | none => rw [z] at e; cases e
    | some xs =>
      rw [z, Option.bind_some] at e
      obtain ⟨p, vs, rfl, h2, h3⟩ := lst_ok s r z
      rw [intsOf_ok e] at h3
      rw [reps_int h3] at h2
      exact ⟨p, rfl, h2⟩
  · cases e
theorem oneBls_ok {K : PySem.W.Frag} {W H : Hp} {vs : List V} {ds : List D} {ns : List Bool} (s : Sub W H) (h : RepOs K W H vs ds) (e : oneBls ds = some ns) : ∃ a, vs = [V.ref a] ∧ SqL K H a (ns.map .bl) := by
  unfold oneBls at e
  split at e
  · rename_i d
    obtain ⟨v, rfl, r⟩ := h.one
    cases z : lstD d with
    | none => rw [z] at e; cases e
    | some xs =>
      rw [z, Option.bind_some] at e
      obtain ⟨p, vs, rfl, h2, h3⟩ := lst_ok s r z
      rw [blsOf_ok e] at h3
      rw [reps_bl h3] at h2
      exact ⟨p, rfl, h2⟩
  · cases e
def maxI : List Int → Option Int
  | [] => none
  | n :: ns => some (ns.foldl max n)
def minI : List Int → Option Int
  | [] => none
  | n :: ns => some (ns.foldl min n)
theorem foldmax_ge : ∀ (ns : List Int) (n : Int), n ≤ ns.foldl max n ∧ (∀ y ∈ ns, y ≤ ns.foldl max n) ∧ (ns.foldl max n = n ∨ ns.foldl max n ∈ ns)
  | [], n => ⟨Int.le_refl _, (fun y h => nomatch h), .inl rfl⟩
  | m :: ns, n => by
    obtain ⟨a, b, c⟩ := foldmax_ge ns (max n m)
    rw [List.foldl_cons]
    refine ⟨by omega, fun y h => ?_, ?_⟩
    · rcases List.mem_cons.mp h with rfl | h
      · omega
      · exact b y h
    · rcases c with c | c
      · by_cases z : n ≤ m
        · right; rw [c, show max n m = m by omega]; exact List.mem_cons_self
        · left; rw [c]; omega
      · exact .inr (List.mem_cons_of_mem _ c)
theorem foldmin_le : ∀ (ns : List Int) (n : Int), ns.foldl min n ≤ n ∧ (∀ y ∈ ns, ns.foldl min n ≤ y) ∧ (ns.foldl min n = n ∨ ns.foldl min n ∈ ns)
  | [], n => ⟨Int.le_refl _, (fun y h => nomatch h), .inl rfl⟩
  | m :: ns, n => by
    obtain ⟨a, b, c⟩ := foldmin_le ns (min n m)
    rw [List.foldl_cons]
    refine ⟨by omega, fun y h => ?_, ?_⟩
    · rcases List.mem_cons.mp h with rfl | h
      · omega
      · exact b y h
    · rcases c with c | c
      · by_cases z : m ≤ n
        · right; rw [c, show min n m = m by omega]; exact List.mem_cons_self
        · left; rw [c]; omega
      · exact .inr (List.mem_cons_of_mem _ c)
theorem maxI_ok {ns : List Int} {m : Int} (h : maxI ns = some m) : 0 < ns.length ∧ m ∈ ns ∧ ∀ y ∈ ns, y ≤ m := by
  cases ns with
  | nil => cases h
  | cons n ns =>
    cases h
    obtain ⟨a, b, c⟩ := foldmax_ge ns n
    refine ⟨Nat.succ_pos _, ?_, fun y h => ?_⟩
    · rcases c with c | c
      · rw [c]; exact List.mem_cons_self
      · exact List.mem_cons_of_mem _ c
    · rcases List.mem_cons.mp h with rfl | h
      · exact a
      · exact b y h
theorem minI_ok {ns : List Int} {m : Int} (h : minI ns = some m) : 0 < ns.length ∧ m ∈ ns ∧ ∀ y ∈ ns, m ≤ y := by
  cases ns with
  | nil => cases h
  | cons n ns =>
    cases h
    obtain ⟨a, b, c⟩ := foldmin_le ns n
    refine ⟨Nat.succ_pos _, ?_, fun y h => ?_⟩
    · rcases c with c | c
      · rw [c]; exact List.mem_cons_self
      · exact List.mem_cons_of_mem _ c
    · rcases List.mem_cons.mp h with rfl | h
      · exact a
      · exact b y h
def fMax1 (ds : List D) : Option Val := ((oneInts ds).bind maxI).map fun i => .sh (.int i)
def fMin1 (ds : List D) : Option Val := ((oneInts ds).bind minI).map fun i => .sh (.int i)
theorem cd_max1 {K : PySem.W.Frag} : CallD K (rMax K) fMax1 := by
  intro W H vs ds a Q s h e q
  unfold fMax1 at e
  cases z : oneInts ds with
  | none => rw [z] at e; cases e
  | some ns =>
    rw [z, Option.bind_some] at e
    cases z2 : maxI ns with
    | none => rw [z2] at e; cases e
    | some m =>
      rw [z2] at e; cases e
      obtain ⟨p, rfl, hs⟩ := oneInts_ok s h z
      obtain ⟨h1, h2, h3⟩ := maxI_ok z2
      refine ⟨p, ns, rfl, hs, h1, fun m' hm hy => ?_⟩
      rw [Int.le_antisymm (h3 m' hm) (hy m h2)]
      exact q W H _ (.refl s) newV_int
theorem cd_min1 {K : PySem.W.Frag} : CallD K (rMin K) fMin1 := by
  intro W H vs ds a Q s h e q
  unfold fMin1 at e
  cases z : oneInts ds with
  | none => rw [z] at e; cases e
  | some ns =>
    rw [z, Option.bind_some] at e
    cases z2 : minI ns with
    | none => rw [z2] at e; cases e
    | some m =>
      rw [z2] at e; cases e
      obtain ⟨p, rfl, hs⟩ := oneInts_ok s h z
      obtain ⟨h1, h2, h3⟩ := minI_ok z2
      refine ⟨p, ns, rfl, hs, h1, fun m' hm hy => ?_⟩
      rw [Int.le_antisymm (hy m h2) (h3 m' hm)]
      exact q W H _ (.refl s) newV_int
def fMax2 (ds : List D) : Option Val := match ds with
  | [.int i, .int j] => some (.sh (.int (if j > i then j else i)))
  | _ => none
def fMin2 (ds : List D) : Option Val := match ds with
  | [.int i, .int j] => some (.sh (.int (if j < i then j else i)))
  | _ => none
theorem cd_max2 {K : PySem.W.Frag} : CallD K (fun xs H Q => ∃ i j, xs = [V.int i, V.int j] ∧ Q (V.int (if j > i then j else i)) H) fMax2 := by
  intro W H vs ds a Q s h e q
  unfold fMax2 at e
  split at e
  · obtain ⟨v, v2, rfl, r, r2⟩ := h.two
    cases e
    exact ⟨_, _, by rw [repO_int s r, repO_int s r2], q W H _ (.refl s) newV_int⟩
  · cases e
theorem cd_min2 {K : PySem.W.Frag} : CallD K (fun xs H Q => ∃ i j, xs = [V.int i, V.int j] ∧ Q (V.int (if j < i then j else i)) H) fMin2 := by
  intro W H vs ds a Q s h e q
  unfold fMin2 at e
  split at e
  · obtain ⟨v, v2, rfl, r, r2⟩ := h.two
    cases e
    exact ⟨_, _, by rw [repO_int s r, repO_int s r2], q W H _ (.refl s) newV_int⟩
  · cases e
def fSum (ds : List D) : Option Val := (oneInts ds).map fun ns => .sh (.int ns.sum)
theorem cd_sum {K : PySem.W.Frag} : CallD K (rSum K) fSum := by
  intro W H vs ds a Q s h e q
  unfold fSum at e
  cases z : oneInts ds with
  | none => rw [z] at e; cases e
  | some ns =>
    rw [z] at e; cases e
    obtain ⟨p, rfl, hs⟩ := oneInts_ok s h z
    exact ⟨p, ns, rfl, hs, q W H _ (.refl s) newV_int⟩
def fAny (ds : List D) : Option Val := (oneBls ds).map fun ns => .sh (.bl (ns.any id))
def fAll (ds : List D) : Option Val := (oneBls ds).map fun ns => .sh (.bl (ns.all id))
theorem cd_any {K : PySem.W.Frag} : CallD K (rAny K) fAny := by
  intro W H vs ds a Q s h e q
  unfold fAny at e
  cases z : oneBls ds with
  | none => rw [z] at e; cases e
  | some ns =>
    rw [z] at e; cases e
    obtain ⟨p, rfl, hs⟩ := oneBls_ok s h z
    exact ⟨p, ns, rfl, hs, q W H _ (.refl s) newV_bl⟩
theorem cd_all {K : PySem.W.Frag} : CallD K (rAll K) fAll := by
  intro W H vs ds a Q s h e q
  unfold fAll at e
  cases z : oneBls ds with
  | none => rw [z] at e; cases e
  | some ns =>
    rw [z] at e; cases e
    obtain ⟨p, rfl, hs⟩ := oneBls_ok s h z
    exact ⟨p, ns, rfl, hs, q W H _ (.refl s) newV_bl⟩
end
end VS

/-! VL: isinstance, repr, sorted, get of dicts. -/
namespace VS
open PySem PySem.Spec PyProof.Rows L2
/-! ### isinstance -/
def tys : List String := ["NoneType", "bool", "int", "str", "list", "tuple", "dict"]
def isTab (t T : String) : Bool := t == T || (t == "bool" && T == "int")
theorem kit_tab {K : PySem.W.Frag} : ∀ t ∈ tys, ∀ T ∈ tys, PySem.W.kitOne K (.type t) (.type T) = some (isTab t T) := by
  intro t ht T hT
  simp only [tys, List.mem_cons, List.not_mem_nil, or_false] at ht hT
  rcases ht with rfl | rfl | rfl | rfl | rfl | rfl | rfl <;> rcases hT with rfl | rfl | rfl | rfl | rfl | rfl | rfl <;> (with_unfolding_all rfl)
def D.ty : D → Option String
  | .non => some "NoneType"
  | .bl _ => some "bool"
  | .int _ => some "int"
  | .str _ => some "str"
  | .lst _ => some "list"
  | .fl _ => some "list"
  | .tup _ => some "tuple"
  | .dct false _ => some "dict"
  | _ => none
theorem ty_ok {K : PySem.W.Frag} {H : Hp} {v : V} {d : D} {t : String} (h : Rep K H v d) (e : d.ty = some t) : TyX K H v (.type t) ∧ t ∈ tys := by
  cases h with
  | non => cases e; exact ⟨.base .non, by decide⟩
  | bl b => cases e; exact ⟨.base (.bl b), by decide⟩
  | int i => cases e; exact ⟨.base (.int i), by decide⟩
  | str i => cases e; exact ⟨.base (.str i), by decide⟩
  | lst h _ => cases e; exact ⟨.base (.lst h), by decide⟩
  | tup h _ => cases e; exact ⟨.base (.tup h), by decide⟩
  | dK h _ =>
    cases e
    rcases h with h | ⟨o, h⟩
    · exact ⟨.base (.dK h), by decide⟩
    · exact ⟨.fDict h, by decide⟩
  | dT h _ => cases e
  | op v => cases e
  | fl h _ =>
    cases e
    rcases h with (h | ⟨o, h⟩) | ⟨o, its, n, h, c, _⟩
    · exact ⟨.base (.lst h), by decide⟩
    · exact ⟨.base (.frz h), by decide⟩
    · exact ⟨.kList h c, by decide⟩
def fIsi (ds : List D) : Option Val := match ds with
  | [d, .op (.ty T)] => if T ∈ tys then d.ty.map fun t => .sh (.bl (isTab t T)) else none
  | _ => none
/-- a closed value, as it is -/
theorem repO_op {K : PySem.W.Frag} {W H : Hp} {x v : V} (h : RepO K W H x (.op v)) : x = v := by
  rcases h with h | ⟨p, rfl, h1⟩
  · cases h; rfl
  · exact h1.elim
theorem cd_isi {K : PySem.W.Frag} : CallD K (rIsi K) fIsi := by
  intro W H vs ds a Q s h e q
  unfold fIsi at e
  split at e
  · rename_i d T
    split at e
    · rename_i hT
      cases z : d.ty with
      | none => rw [z] at e; cases e
      | some t =>
        rw [z] at e; cases e
        obtain ⟨v, v2, rfl, r, r2⟩ := h.two
        obtain ⟨k1, k2⟩ := ty_ok (r.rep s) z
        exact ⟨v, .ty T, .type t, .type T, _, by rw [repO_op r2], .ty T, k1, kit_tab t k2 T hT, q W H _ (.refl s) newV_bl⟩
    · cases e
  · cases e
section
variable {X : Cx}
/-! ### repr -/
def rRepr (K : PySem.W.Frag) : List V → Hp → VK → Prop := fun xs H Q => ∃ a d, xs = [V.ref a] ∧ Dp K H (.ref a) d ∧ d.showable = true ∧ d.hasDict = false ∧ d.depth ≤ 100 ∧ d.shown.length ≤ sizeLine ∧ Q (.str d.shown) H
theorem cr_repr (hg : X.A.guards = some []) (hu : X.A.units + 101 < cLine) : CallR X (.builtin "repr") (rRepr X.K) := by
  rintro pins s σ H xs us Q I r ⟨a, d, rfl, hd, h1, h2, h3, h4, q⟩
  obtain ⟨u, rfl, ru⟩ := L2.vals1 r
  cases (show u = .ref a from ru)
  obtain ⟨as, rd⟩ := Dp.reads I d _ _ hd ru
  exact repr_of_reads' rd h1 (by rw [h2]; intro z; cases z) hg (by omega) (fun b o e => e) (fun h' u tk k => ⟨.str _, H, I.kept k, ⟨u, rfl⟩, q⟩) h4
def D.isSeq : D → Bool
  | .lst _ => true
  | .tup _ => true
  | .fl _ => true
  | _ => false
def fRepr (ds : List D) : Option Val := match ds with
  | [d] => if d.isSeq = true ∧ d.plain = true ∧ d.py.showable = true ∧ d.py.hasDict = false ∧ d.py.depth ≤ 100 ∧ d.py.shown.length ≤ sizeLine then some (.sh (.str d.py.shown)) else none
  | _ => none
theorem cd_repr {K : PySem.W.Frag} : CallD K (rRepr K) fRepr := by
  intro W H vs ds a Q s h e q
  unfold fRepr at e
  split at e
  · rename_i d
    split at e
    · rename_i c
      cases e
      obtain ⟨c0, c1, c2, c3, c4, c5⟩ := c
      obtain ⟨v, rfl, r⟩ := h.one
      have dp := dp_of (r.rep s) c1
      have : ∃ p, v = .ref p := by
        cases d with
        | lst _ => obtain ⟨p, _, h, _⟩ := repO_lst' s r; exact ⟨p, h⟩
        | tup _ => obtain ⟨p, _, h, _⟩ := repO_tup r; exact ⟨p, h⟩
        | fl _ => obtain ⟨p, _, h, _⟩ := repO_fl r; exact ⟨p, h⟩
        | _ => cases c0
      obtain ⟨p, rfl⟩ := this
      exact ⟨p, _, rfl, dp, c2, c3, c4, c5, q W H _ (.refl s) (.str _)⟩
    · cases e
  · cases e
/-! ### sorted -/
theorem vals_map {vs : List V} {us : List Value} (h : Vals vs us) : ∀ (bs : List (V × D)), bs.map (·.1) = vs → PySem.W.EachIs (fun u (b : V × D) => RelV b.1 u) us bs := by
  induction h with
  | nil => intro bs e; cases bs with
    | nil => exact .nil
    | cons _ _ => cases e
  | cons r t ih =>
    intro bs e
    cases bs with
    | nil => cases e
    | cons b bs =>
      rw [List.map_cons] at e
      injection e with e1 e2
      exact .cons (by rw [e1]; exact r) (ih bs e2)
theorem vals_back {us : List Value} {bs : List (V × D)} (h : PySem.W.EachIs (fun u (b : V × D) => RelV b.1 u) us bs) : Vals (bs.map (·.1)) us := by
  induction h with
  | nil => exact .nil
  | cons r t ih => exact .cons r ih
def rSortD (K : PySem.W.Frag) : List V → Hp → VK → Prop := fun xs H Q => ∃ a vs, ∃ bs : List (V × D), xs = [V.ref a] ∧ SqL K H a vs ∧ bs.map (·.1) = vs ∧ (∀ b ∈ bs, Dp K H b.1 b.2.py) ∧ PySem.W.AllAlike (bs.map fun b => b.2.py) ∧ PySem.W.Sortable (bs.map fun b => b.2.py) ∧
  (∀ b ∈ bs, b.2.py.depth ≤ 64) ∧ bs.length ≤ sizeLine ∧ ∀ p : Addr, H p = none → Q (.ref p) (upd H p (.lst ((bs.mergeSort (PySem.W.dataLe false fun b : V × D => b.2.py)).map (·.1))))
theorem eachIs_of {α β : Type} {R : α → β → Prop} : ∀ {as : List α} {bs : List β}, as.length = bs.length → (∀ (i : Nat) (a : α) (b : β), as[i]? = some a → bs[i]? = some b → R a b) → PySem.W.EachIs R as bs
  | [], [], _, _ => .nil
  | [], _ :: _, h, _ => by cases h
  | _ :: _, [], h, _ => by cases h
  | a :: as, b :: bs, h, k => .cons (k 0 a b rfl rfl) (eachIs_of (by simpa using h) fun i x y h1 h2 => k (i + 1) x y (by simpa using h1) (by simpa using h2))
theorem eachIs_imp {α β : Type} {R S : α → β → Prop} {as : List α} {bs : List β} (h : PySem.W.EachIs R as bs) (k : ∀ a b, b ∈ bs → R a b → S a b) : PySem.W.EachIs S as bs := by
  induction h with
  | nil => exact .nil
  | cons r t ih => exact .cons (k _ _ List.mem_cons_self r) (ih fun a b m => k a b (List.mem_cons_of_mem _ m))
theorem cr_sortD (hu : X.A.units + 70 < cLine) : CallR X (.builtin "sorted") (rSortD X.K) := by
  rintro pins s σ H xs us Q I r ⟨a, vs, bs, rfl, hx, hb, hd, al, so, dp, hl, q⟩
  obtain ⟨u, rfl, ru⟩ := L2.vals1 r
  cases (show u = .ref a from ru)
  obtain ⟨its, rv, ht, hz⟩ := Inv.list I hx
  have e1 := vals_map rv bs hb
  obtain ⟨ob, n, ho, hcl, _, hda⟩ := ht
  refine PySem.W.sorted_data (bs := bs) (enc := fun b => b.2.py) (R := fun u b => RelV b.1 u) ⟨ob, ho, hcl, n, hda⟩ e1 (eachIs_imp e1 fun u b m rb => Dp.reads I _ _ _ (hd b m) rb) al so hl (fun b m => ?_) fun out ol he => ?_
  · have := dp b m; omega
  · obtain ⟨ep, hat⟩ := sortedAll_at s.heap its out.toArray
    refine ⟨.ref (s.heap.objs.size + 1), _, Inv.laid I (fun b o e => sortedAll_old e) (Nat.le_succ _) ?_, rfl, q _ (I.hok.fresh (Nat.le_succ _))⟩
    have len : ((bs.mergeSort (PySem.W.dataLe false fun b : V × D => b.2.py)).map (·.1)).length = bs.length := by rw [List.length_map, List.length_mergeSort]
    exact ⟨by rw [len]; exact hl, out, ep, vals_back he, hat⟩
/-- the data of a list, sorted; a class's sorts are alike -/
def sortable (ds : List D) : Prop := (∀ d ∈ ds, d.plain = true ∧ d.py.depth ≤ 64) ∧ PySem.W.AllAlike (ds.map D.py) ∧ PySem.W.Sortable (ds.map D.py) ∧ ds.length ≤ 1000000
def dLe (a b : D) : Bool := PySem.W.dataLe false D.py a b
open Classical in
noncomputable def fSort (ds : List D) : Option Val := match ds with
  | [d] => (lstD d).bind fun xs => if sortable xs then some (.ow (.lst (xs.mergeSort dLe))) else none
  | _ => none
theorem zip_fst {K : PySem.W.Frag} {H : Hp} {vs : List V} {ds : List D} (r : Reps K H vs ds) : (vs.zip ds).map (·.1) = vs ∧ (vs.zip ds).map (·.2) = ds := by
  have h1 : ∀ {vs : List V} {ds : List D}, Reps K H vs ds → (vs.zip ds).map (·.1) = vs ∧ (vs.zip ds).map (·.2) = ds := by
    intro vs
    induction vs with
    | nil => intro ds h; cases h; exact ⟨rfl, rfl⟩
    | cons v vs ih =>
      intro ds h
      cases h with
      | cons r t =>
        obtain ⟨a, b⟩ := ih t
        exact ⟨by rw [List.zip_cons_cons, List.map_cons, a], by rw [List.zip_cons_cons, List.map_cons, b]⟩
  exact h1 r
theorem zip_rep {K : PySem.W.Frag} {H : Hp} : ∀ {vs : List V} {ds : List D}, Reps K H vs ds → ∀ b ∈ vs.zip ds, Rep K H b.1 b.2 ∧ b.2 ∈ ds
  | _, _, .nil, b, h => by cases h
  | v :: vs, d :: ds, .cons r t, b, h => by
    rw [List.zip_cons_cons] at h
    rcases List.mem_cons.mp h with rfl | h
    · exact ⟨r, List.mem_cons_self⟩
    · obtain ⟨h1, h2⟩ := zip_rep t b h
      exact ⟨h1, List.mem_cons_of_mem _ h2⟩
theorem reps_zip {K : PySem.W.Frag} {H : Hp} : ∀ {bs : List (V × D)}, (∀ b ∈ bs, Rep K H b.1 b.2) → Reps K H (bs.map (·.1)) (bs.map (·.2))
  | [], _ => .nil
  | b :: bs, h => .cons (h b List.mem_cons_self) (reps_zip fun c m => h c (List.mem_cons_of_mem _ m))
theorem cd_sort {K : PySem.W.Frag} : CallD K (rSortD K) fSort := by
  intro W H vs ds a Q s h e q
  unfold fSort at e
  split at e
  · rename_i d
    cases z : lstD d with
    | none => rw [z] at e; cases e
    | some xs =>
      rw [z, Option.bind_some] at e
      split at e
      · rename_i c
        cases e
        obtain ⟨c1, c2, c3, c4⟩ := c
        obtain ⟨v, rfl, r⟩ := h.one
        obtain ⟨p, us, rfl, h2, h3⟩ := lst_ok s r z
        obtain ⟨z1, z2⟩ := zip_fst h3
        have zr := zip_rep h3
        have e1 : (us.zip xs).map (fun b => b.2.py) = xs.map D.py := by rw [← z2, List.map_map]; rw [z2]; rfl
        have hl : (us.zip xs).length = xs.length := by rw [← List.length_map (f := (·.2)), z2]
        refine ⟨p, us, us.zip xs, rfl, h2, z1, fun b m => dp_of ((zr b m).1.mono s) (c1 _ (zr b m).2).1, by rw [e1]; exact c2, by rw [e1]; exact c3, fun b m => (c1 _ (zr b m).2).2, by rw [hl]; exact leBig c4, fun n hn => ?_⟩
        have rp : Reps K W (((us.zip xs).mergeSort (PySem.W.dataLe false fun b : V × D => b.2.py)).map (·.1)) (((us.zip xs).mergeSort (PySem.W.dataLe false fun b : V × D => b.2.py)).map (·.2)) :=
          reps_zip fun b m => (zr b (List.mem_mergeSort.mp m)).1
        have e2 : ((us.zip xs).mergeSort (PySem.W.dataLe false fun b : V × D => b.2.py)).map (·.2) = xs.mergeSort dLe := by
          exact (List.map_mergeSort (r := PySem.W.dataLe false fun b : V × D => b.2.py) (s := dLe) (f := (·.2)) fun a _ b _ => rfl).trans (by rw [z2])
        rw [e2] at rp
        obtain ⟨t, nv⟩ := newV_ow s hn rp
        exact q _ _ _ t nv
      · cases e
  · cases e
/-! ### d.get(k, v) -/
def fGet2 : D → D → D → Option D := fun d k v => (keyOf d k).map fun o => o.getD v
def mGet2 (ma mb mc : M Val) : M Val := M.bind ma fun a e => if ((look e (hold a)).map D.isDct).getD false = true then M.bind mb (fun b => M.bind mc fun c e3 => match look e3 (hold a), look e3 (hold b), esc e3 c with
  | some d, some k, some (v, e4) => (match fGet2 d k v with
    | some o => .ok (.sh o) e4
    | none => .no)
  | _, _, _ => .no) e else .no
theorem isD_of {K : PySem.W.Frag} {W H : Hp} {x : V} {d : D} (s : Sub W H) (h : RepO K W H x d) (e : d.isDct = true) : ∃ a, x = .ref a ∧ IsD H a := by
  cases d with
  | dct t l =>
    obtain ⟨p, h1, c⟩ := repO_dct s h
    rcases c with ⟨_, kvs, h2, _⟩ | ⟨_, kvs, h2, _⟩
    · exact ⟨p, h1, .inl ⟨kvs, h2⟩⟩
    · exact ⟨p, h1, .inr ⟨kvs, h2⟩⟩
  | _ => cases e
theorem rd_get2 {Wx : WX} {ma mb mc : M Val} {σ : L2.St} {H : Hp} {Q : VK} (h : rdE X Wx (mGet2 ma mb mc) σ H Q) : tDGet2 (rdE X Wx ma) (rdE X Wx mb) (rdE X Wx mc) σ H Q := by
  obtain ⟨fg, la, W, e, rl, h⟩ := h
  refine ⟨fg, la, W, e, rl, (Post.bind h).mono fun W1 H1 e1 a s1 r1 h1 x hx => ?_⟩
  obtain ⟨W2, s2, r2, hx2⟩ := hold_ok r1 hx
  split at h1
  · rename_i c
    cases q : look e1 (hold a) with
    | none => rw [q] at c; cases c
    | some d =>
      rw [q] at c
      have c : d.isDct = true := c
      obtain ⟨ad, rfl, hd⟩ := isD_of r2.sub (look_ok r2 hx2 q) c
      refine ⟨ad, rfl, hd, fg, la, W2, e1, r2, ((Post.bind h1).wider s2).mono fun W3 H3 e3 b s3 r3 h3 y hy => ?_⟩
      obtain ⟨W4, s4, r4, hy4⟩ := hold_ok r3 hy
      refine ⟨fg, la, W4, e3, r4, ((Post.bind h3).wider s4).mono fun W5 H5 e5 c s5 r5 h5 z hz => ?_⟩
      have hx5 := held_mono (H' := H5) (e' := e5) hx2 ((s3.trans s4).trans s5)
      have hy5 := held_mono (H' := H5) (e' := e5) hy4 s5
      cases q1 : look e5 (hold a) with
      | none => rw [q1] at h5; exact (show False from h5).elim
      | some d1 =>
        cases q2 : look e5 (hold b) with
        | none => rw [q1, q2] at h5; exact (show False from h5).elim
        | some d2 =>
          cases q3 : esc e5 c with
          | none => rw [q1, q2, q3] at h5; exact (show False from h5).elim
          | some pr =>
            obtain ⟨dv, e6⟩ := pr
            rw [q1, q2, q3] at h5
            simp only at h5
            cases q4 : fGet2 d1 d2 dv with
            | none => rw [q4] at h5; exact (show False from h5).elim
            | some o =>
              rw [q4] at h5
              have L1 := look_ok r5 hx5 q1
              have L2' := look_ok r5 hy5 q2
              unfold fGet2 at q4
              cases q5 : keyOf d1 d2 with
              | none => rw [q5] at q4; cases q4
              | some oo =>
                rw [q5] at q4
                cases q4
                obtain ⟨a', r', ea, g, _, cc⟩ := get_ok r5.sub L1 L2' q5
                cases ea
                obtain ⟨W6, s6, r6, rv⟩ := esc_ok r5 hz q3
                refine ⟨r', g, (show ∀ W' H', Sub W5 W' → Rel X.K fg la W' H' σ e6 → ∀ v, ValOk X.K fg W' H' σ e6 v (.sh (oo.getD dv)) → Q v H' from h5) W6 H5 s6 r6 _ ?_⟩
                rcases cc with ⟨rfl, rfl⟩ | ⟨v, qd, rfl, rfl, rr⟩
                · exact rv
                · exact rr.mono s6
  · exact (show False from h1).elim
theorem de_get2 {Wx : WX} {o e f : Expr} {ma mb mc : M Val} {apos cpos : Pos} (hu : X.A.units + 1 < cLine) (ho : DE X Wx o ma) (he : DE X Wx e mb) (hf : DE X Wx f mc) (hm : M2 X o "get" apos e f cpos) : DE X Wx (.Call (.Attribute o "get" apos) [e, f] [] cpos) (mGet2 ma mb mc) :=
  PE.wk (pe_dget2 hu ho he hf hm) fun _ _ _ h => rd_get2 h
end
end VS

/-! VM: dict comprehensions, keys ints and texts or tuples of these. -/
namespace VS
open PySem PySem.Spec PyProof.Rows L2

/-- D[y] = z within a comprehension -/
def DSet (t : Bool) (H : Hp) (p : Addr) (y z : V) (H' : Hp) : Prop := match t with
  | false => ∃ kvs k, y = kV k ∧ H p = some (.dK kvs) ∧ kvs.length < sizeLine ∧ H' = upd H p (.dK (putK kvs k z))
  | true => ∃ kvs k b, y = .ref b ∧ H b = some (.tup (k.map kV)) ∧ H p = some (.dT kvs) ∧ kvs.length < sizeLine ∧ H' = upd H p (.dT (putK kvs k z))
def nwD : Bool → HO
  | false => .dK []
  | true => .dT []
section
variable {X : Cx}
theorem dset_ok {t : Bool} {pins : List (Addr × Obj)} {σ : L2.St} {H H' : Hp} {s : Shared} {E : Value → Shared → Prop} {p : Addr} {y z : V} {u r : Value} {Q : Unit → Shared → Prop} (hu : X.A.units < cLine) (I : L2.Inv X pins σ H s) (hd : DSet t H p y z H') (ry : RelV y u) (rz : RelV z r)
    (q : ∀ s', L2.Inv X pins σ H' s' → Q () s') : wpAny (model X.prog X.w) X.A (dictSet p u r) Q E s := by
  cases t with
  | false =>
    obtain ⟨kvs, k, rfl, hp, hl, rfl⟩ := hd
    exact d_dictSet I hp hl ry rz q
  | true =>
    obtain ⟨kvs, k, b, rfl, hb, hp, hl, rfl⟩ := hd
    cases (show u = .ref b from ry)
    obtain ⟨_, hm, xs, kt, hx⟩ := dt_of I.hok hp
    have hlx : xs.length ≤ sizeLine := by rw [← KT.len kt]; omega
    refine wpAny_dictSet_heap (knd := tupleKind (mixKind X.prog X.w)) hu (key_of I.hok hb) hx (fun h' hx' sb => q _ ?_) hlx
    have hne : ∀ (c : Addr) (ys : List V), H c = some (.tup ys) → (upd H p (.dT (putK kvs k z))) c = some (.tup ys) := fun c ys hc => by
      rw [upd_ne (ne_of hc hp (by intro w; cases w))]
      exact hc
    obtain ⟨o, es, ep, ho, j1, j2, j3, _, j5⟩ := hx'
    refine d_write I (by rw [hp]; exact trivial) sb ⟨o, ho⟩ ⟨?_, hm, storedH xs k b r, ?_, o, es, ep, ho, j1, j2, j3, j5⟩
    · have := length_putK kvs k z
      omega
    · exact (KT.put kt k hb rz).keeps hne
def tDcG (t : Bool) (wi : TI) (g : TG) (tt : TT) (tk tv : TE) (vs : List Nat) : TE := fun σ H Q => wi σ H fun J H1 => ∀ p : Addr, H1 p = none → ∃ W : Nat → Nat → Hp → Prop, (∃ m, W 0 m (upd H1 p (nwD t))) ∧ ∀ (i m : Nat) (H : Hp), W i m H →
  (J.stop i H ∧ Q (.ref p) H) ∨ (J.go i H ∧ ∃ Nx : Hp → Prop, (∀ H', Nx H' → ∃ m', m' < m ∧ W (i + 1) m' H') ∧ ∀ (x : V) (H' : Hp), J.yld i H x H' →
    g x (wipe σ vs) H' fun σ2 H2 => wipe σ2 vs = wipe σ vs ∧ tt σ2 H2 fun b H3 => if b = true then tk σ2 H3 (fun y H4 => tv σ2 H4 fun z H5 => ∃ H6, DSet t H5 p y z H6 ∧ Nx H6) else Nx H3)
theorem nw_ok {t : Bool} {P : Program} {w : World} {H : Hp} (h : Heap) (hb : sysModules < h.objs.size) : ObjOk P w H (h.push { cls := .type "dict", data := .dict #[] }) h.objs.size (nwD t) := by
  cases t with
  | false => exact dk_empty h hb
  | true => exact dt_empty h hb
abbrev BY (X : Cx) (s3 : Shared) (H3 : Hp) (scope : Scope) (cl : List (Str × Addr)) (fp : List Addr) : Cx := X.blk s3 H3 scope (compEnvC scope cl s3.heap.objs.size X.env) fp
theorem dc_loop {t : Bool} {kx vx tg iter : Expr} {ifs : List Expr} {scope : Scope} {pos : Pos} {g : TG} {tt : TT} {tk tv : TE} {vs : List Nat} {s3 s5 : Shared} {H3 : Hp} {cl : List (Str × Addr)} {fp : List Addr} {J : It} {it p : Addr} {tn : Nat → Heap → Prop} {σ : L2.St} {W : Nat → Nat → Hp → Prop} {Q : VK}
    {R : Result → Shared → Prop} (hu : X.A.units < cLine) (hc : X.calm = true) (T : Turn X.prog X.w X.K tg J fp it tn)
    (pg : PG (BY X s3 H3 scope cl fp) tg g) (pt : PTs (BY X s3 H3 scope cl fp) ifs tt) (pk : PE (BY X s3 H3 scope cl fp) kx tk) (pe : PE (BY X s3 H3 scope cl fp) vx tv)
    (turn : ∀ (i m : Nat) (H : Hp), W i m H → (J.stop i H ∧ Q (.ref p) H) ∨ (J.go i H ∧ ∃ Nx : Hp → Prop, (∀ H', Nx H' → ∃ m', m' < m ∧ W (i + 1) m' H') ∧ ∀ (x : V) (H' : Hp), J.yld i H x H' →
      g x (wipe σ vs) H' fun σ2 H2 => wipe σ2 vs = wipe σ vs ∧ tt σ2 H2 fun b H3 => if b = true then tk σ2 H3 (fun y H4 => tv σ2 H4 fun z H5 => ∃ H6, DSet t H5 p y z H6 ∧ Nx H6) else Nx H3))
    (done : ∀ s6 H6, L2.Inv (BY X s3 H3 scope cl fp) [] (wipe σ vs) H6 s6 → Q (.ref p) H6 → R (.ok .next) s6)
    {i n : Nat} {H5 : Hp} (I5 : L2.Inv (BY X s3 H3 scope cl fp) [] (wipe σ vs) H5 s5) (st5 : tn i s5.heap) (n5 : ∀ b ∈ fp, H5 b = none) (w5 : W i n H5) :
    codeAny (model X.prog X.w) X.A (.compLoop (.DictComp kx vx [⟨tg, iter, ifs, 0⟩] scope pos) 0 (.ref it) (.ref p) (compEnvC scope cl s3.heap.objs.size X.env)) R s5 := by
  have stat : ∀ {H' : Hp} {s' : Shared}, L2.Inv (BY X s3 H3 scope cl fp) [] (wipe σ vs) H' s' → (∀ b ∈ fp, H' b = none) → ∀ b ∈ fp, FpOk (BY X s3 H3 scope cl fp) [] H' b := fun I' hn b hb =>
    ⟨hn b hb, (I'.ok.exf b hb).1, I'.ok.exfs b hb, .inl hb, fun x c e => (I'.ok.exf b hb).2 x c e, fun q hq => nomatch hq⟩
  refine compLoop_anyD (fun n s' => ∃ i H', L2.Inv (BY X s3 H3 scope cl fp) [] (wipe σ vs) H' s' ∧ tn i s'.heap ∧ (∀ b ∈ fp, H' b = none) ∧ W i n H') ?_ n ⟨i, H5, I5, st5, n5, w5⟩
  clear I5 st5 n5 w5
  rintro n s5 ⟨i, H5, I5, st5, n5, w5⟩
  rcases turn i n H5 w5 with ⟨stop, qq⟩ | ⟨go, Nx, hNx, step⟩
  · refine thnF (T.done (BY X s3 H3 scope cl fp) rfl rfl rfl hc i [] s5 (wipe σ vs) H5 (fun _ _ => False) I5 (stat I5 n5) st5 stop) fun r s6 h => ?_
    obtain ⟨rfl, I6⟩ := h
    exact done s6 H5 I6 qq
  · refine thnF (T.item (BY X s3 H3 scope cl fp) rfl rfl rfl hc i [] s5 (wipe σ vs) H5 (fun _ _ => False) I5 (stat I5 n5) st5 go) fun r s6 h => ?_
    obtain ⟨u, rfl, h6⟩ := h
    refine thnF h6 fun _ s7 h7 => ?_
    obtain ⟨x, H7, I7, r7, y7, st7, n7⟩ := h7
    have I7p := Inv.pinned I7 (stat I7 n7) (T.obj (i + 1) s7.heap st7)
    refine thnF (pg.run _ s7 (wipe σ vs) H7 x u _ I7p r7 (step x H7 y7)) fun _ s8 h8 => ?_
    obtain ⟨σ8, H8, I8, hw8, q8⟩ := h8
    refine thnF (pt.run _ s8 σ8 H8 _ I8 q8) fun b s9 h9 => ?_
    obtain ⟨H9, I9, q9⟩ := h9
    have fin : ∀ {s' : Shared} {H' : Hp}, L2.Inv (BY X s3 H3 scope cl fp) ([] ++ pinsAt fp s7.heap) σ8 H' s' → Nx H' → ∃ m, m < n ∧ ∃ i H', L2.Inv (BY X s3 H3 scope cl fp) [] (wipe σ vs) H' s' ∧ tn i s'.heap ∧ (∀ b ∈ fp, H' b = none) ∧ W i m H' := fun {s' H'} I' nx => by
      obtain ⟨m', hm, w'⟩ := hNx H' nx
      have pin' : ∀ b ∈ fp, ∀ o, s7.heap.get? b = some o → s'.heap.get? b = some o ∧ H' b = none := fun b hb o e => by
        have z := I'.pin (b, o) (List.mem_append_right _ (List.mem_append_right _ (mem_pinsAt hb e)))
        exact ⟨z.1, z.2.1⟩
      refine ⟨m', hm, i + 1, H', (I'.unpinned).weak (by rw [← hw8, wipe_length]) (fun j v e => ?_), T.keep (i + 1) _ _ st7 fun b hb o e => (pin' b hb o e).1, fun b hb => ?_, w'⟩
      · rw [← hw8] at e
        exact (wipe_some e).1
      · obtain ⟨o, e, _⟩ := T.obj (i + 1) s7.heap st7 b hb
        exact (pin' b hb o e).2
    cases b with
    | false => exact fin I9 q9
    | true =>
      refine thnF (pk.run _ s9 σ8 H9 _ I9 q9) fun kv s10 h10 => ?_
      obtain ⟨y, H10, I10, r10, q10⟩ := h10
      refine thnF (pe.run _ s10 σ8 H10 _ I10 q10) fun vv s11 h11 => ?_
      obtain ⟨z, H11, I11, r11, H12, ds, nx⟩ := h11
      exact dset_ok (X := BY X s3 H3 scope cl fp) hu I11 ds r10 r11 fun s' I' => fin I' nx
theorem pe_dcG {t : Bool} {kx vx tg iter : Expr} {ifs : List Expr} {scope : Scope} {own : List (Str × Nat)} {pos : Pos} {wi : TI} {g : TG} {tt : TT} {tk tv : TE} (hu : X.A.units < cLine) (hc : X.calm = true) (hN : X.N.Nodup) (hi : PI X tg iter wi) (ok : BlkOk X.N X.env.scope scope own)
    (hg : ∀ (s : Shared) (H : Hp) (C : Addr) (cl : List (Str × Addr)) (fp : List Addr), PG (X.blk s H scope (compEnvC scope cl C X.env) fp) tg g)
    (ht : ∀ (s : Shared) (H : Hp) (C : Addr) (cl : List (Str × Addr)) (fp : List Addr), PTs (X.blk s H scope (compEnvC scope cl C X.env) fp) ifs tt)
    (hk : ∀ (s : Shared) (H : Hp) (C : Addr) (cl : List (Str × Addr)) (fp : List Addr), PE (X.blk s H scope (compEnvC scope cl C X.env) fp) kx tk)
    (he : ∀ (s : Shared) (H : Hp) (C : Addr) (cl : List (Str × Addr)) (fp : List Addr), PE (X.blk s H scope (compEnvC scope cl C X.env) fp) vx tv)
    (hs : ∀ x, foldedSetIterable iter X.env x = pure x) : PE X (.DictComp kx vx [⟨tg, iter, ifs, 0⟩] scope pos) (tDcG t wi g tt tk tv (own.map (·.2))) := by
  refine ⟨fun pins s σ H Q I h => ?_⟩
  rw [arm_eval_DictComp]
  refine wpAny_comprehension_free (cl := cloFrom X.env.cells scope.names []) rfl hs (closure_ok fun y hy hf => ?_) ok.kind (fun y hy hl => by rw [ok.uniq y hy, hl]) ?_
  · rcases ok.free y hy hf with z | z
    · exact I.ok.has _ (.inl z)
    · exact I.ok.has _ (.inr z)
  refine thn (hi.run pins s σ H _ I h) fun xv s1 hx => thn hx fun itv s2 h2 => ?_
  obtain ⟨it, fp, tn, J, H2, rfl, I2, T, st2, f2, q⟩ := h2
  refine wpAny_newObj_type ?_ (by rw [sizeOk]; exact Nat.zero_le _)
  refine newEnv_comp ?_
  have hDn : H2 s2.heap.objs.size = none := I2.hok.fresh (Nat.le_refl _)
  obtain ⟨W, ⟨m0, w0⟩, turn⟩ := q s2.heap.objs.size hDn
  generalize hs3 : ({ heap := s2.heap.push { cls := .type "dict", data := .dict #[] }, gens := s2.gens, drawn := s2.drawn, toks := s2.toks, os := s2.os } : Shared) = s3
  have h3 : s3.heap = s2.heap.push { cls := .type "dict", data := .dict #[] } := by subst hs3; rfl
  have old3 : ∀ b o, s2.heap.get? b = some o → s3.heap.get? b = some o := fun b o e => by rw [h3]; exact Heap.get?_push_of_some _ e
  have I3 : L2.Inv X pins σ (upd H2 s2.heap.objs.size (nwD t)) s3 := by
    subst hs3
    exact Inv.laid I2 (fun b o e => Heap.get?_push_of_some _ e) (Nat.le_refl _) (nw_ok s2.heap I2.big)
  have sz : ∀ b ∈ fp, b < s2.heap.objs.size := fun b hb => by
    obtain ⟨o, e, _⟩ := T.obj 0 _ st2 b hb
    exact Heap.lt_size e
  have f3 : ∀ b ∈ fp, FpOk X pins (upd H2 s2.heap.objs.size (nwD t)) b ∧ b < s3.heap.objs.size := fun b hb => by
    have hlt := sz b hb
    refine ⟨⟨by rw [upd_ne (Nat.ne_of_lt hlt)]; exact (f2 b hb).1, (f2 b hb).2⟩, ?_⟩
    rw [h3, Heap.size_push]
    exact Nat.lt_succ_of_lt hlt
  have st3 : tn 0 s3.heap := T.keep 0 _ _ st2 fun b _ o e => old3 b o e
  have I4 := block_start I3 ok hN f3
  generalize hcl : cellsFrom (s3.heap.objs.size + 1) scope.names (cloFrom X.env.cells scope.names []) = cl at I4 ⊢
  have pg := hg s3 (upd H2 s2.heap.objs.size (nwD t)) s3.heap.objs.size cl fp
  have pt := ht s3 (upd H2 s2.heap.objs.size (nwD t)) s3.heap.objs.size cl fp
  have pk := hk s3 (upd H2 s2.heap.objs.size (nwD t)) s3.heap.objs.size cl fp
  have pe := he s3 (upd H2 s2.heap.objs.size (nwD t)) s3.heap.objs.size cl fp
  have I4' : L2.Inv (BY X s3 (upd H2 s2.heap.objs.size (nwD t)) scope cl fp) [] (wipe σ (own.map (·.2))) (upd H2 s2.heap.objs.size (nwD t)) { heap := pushCells (s3.heap.push { cls := .type "dict", data := .dict #[] }) scope.names, gens := s3.gens, drawn := s3.drawn, toks := s3.toks, os := s3.os } := I4
  have st4 : tn 0 (pushCells (s3.heap.push { cls := .type "dict", data := .dict #[] }) scope.names) := T.keep 0 _ _ st3 fun b _ o e => pushCells_keeps _ _ b o (Heap.get?_push_of_some _ e)
  have fn4 : ∀ b ∈ fp, (upd H2 s2.heap.objs.size (nwD t)) b = none := fun b hb => (f3 b hb).1.1
  have loop := dc_loop (pos := pos) (iter := iter) (p := s2.heap.objs.size) (R := compPost (model X.prog X.w) X.A X.xe none (EP X pins σ Q) (.ref s2.heap.objs.size) s3.heap.objs.size) hu hc T pg pt pk pe turn (fun s6 H6 I6 qq => by
    have I7 : L2.Inv X pins σ H6 s6 := Inv.call' I3 I6.os I6.base I6.hok I6.bare fun b hb =>
      ⟨(f3 b hb).1.2.2.2.1, (f3 b hb).1.2.1, (f3 b hb).1.2.2.2.2.1, (f3 b hb).1.2.2.2.2.2⟩
    have nC : H6 s3.heap.objs.size = none := I6.free
    obtain ⟨mm, hn, _⟩ := I6.loc
    have fo : FpOk X pins H6 s3.heap.objs.size := Inv.fpOk I3 (Nat.le_refl _) nC
    exact ⟨mm, hn, fun h' sb => ⟨.ref s2.heap.objs.size, H6, Inv.turned I7 (fun b o nb e => (sb.2 b nb).trans e) nC fo.2.1 fo.2.2.2.1 fo.2.2.2.2.1 fo.2.2.2.2.2, rfl, qq⟩⟩) I4' st4 fn4 w0
  exact codeAny_compStart_dict loop (T.self _ 0 _ _ _ st4 loop)

/-! ### by data -/
def keyD (t : Bool) (k : D) : Bool := match t with
  | false => (keyK k).isSome
  | true => (keyT k).isSome
def putD2 (t : Bool) (l : List (D × D)) (k v : D) : Option (List (D × D)) := match t with
  | false => (keyK k).map fun q => putL keyK l q k v
  | true => (keyT k).map fun q => putL keyT l q k v
def dcL (t : Bool) (vs : List Nat) (g : D → Env → Option Env) (mt : M Bool) (mk me : M Val) : List D → List (D × D) → Env → Option (List (D × D) × Env)
  | [], acc, e => some (acc, e)
  | d :: ds, acc, e => match g d e with
    | none => none
    | some e1 => match mt e1 with
      | .ok true e2 => match mk e2 with
        | .ok a e3 => match esc e3 a with
          | some (k, e4) => match me e4 with
            | .ok b e5 => match esc e5 b with
              | some (x, e6) => if acc.length < 1000000 then (match putD2 t acc k x with
                | some acc' => dcL t vs g mt mk me ds acc' (wipeE e6 vs)
                | none => none) else none
              | none => none
            | _ => none
          | none => none
        | _ => none
      | .ok false e2 => dcL t vs g mt mk me ds acc (wipeE e2 vs)
      | _ => none
def mDc (t : Bool) (vs : List Nat) (mi : M (List D)) (g : D → Env → Option Env) (mt : M Bool) (mk me : M Val) : M Val := M.bind mi fun ds e => match dcL t vs g mt mk me ds [] (wipeE e vs) with
  | some (acc, e') => .ok (.ow (.dct t acc)) (back e e' vs)
  | none => .no
theorem own_dct {K : PySem.W.Frag} {W H : Hp} {p : Addr} {t : Bool} {l : List (D × D)} (h : Own K W H p (.dct t l)) : ∃ o, H p = some o ∧ Mut (some o) := by
  cases t
  · obtain ⟨kvs, h, _⟩ := h; exact ⟨_, h, trivial⟩
  · obtain ⟨kvs, h, _⟩ := h; exact ⟨_, h, trivial⟩
/-- an entry set by data -/
theorem dput_ok {K : PySem.W.Frag} {W H : Hp} {t : Bool} {p : Addr} {l l' : List (D × D)} {y z : V} {k x : D} (s : Sub W H) (ow : Own K W H p (.dct t l)) (ry : Rep K W y k) (rz : Rep K W z x) (hl : l.length < 1000000) (h : putD2 t l k x = some l') :
    ∃ o, DSet t H p y z (upd H p o) ∧ Own K W (upd H p o) p (.dct t l') := by
  cases t with
  | false =>
    obtain ⟨kvs, hp, rk⟩ := ow
    unfold putD2 at h
    simp only at h
    cases q : keyK k with
    | none => rw [q] at h; cases h
    | some kk =>
      rw [q] at h
      cases h
      have ek := keyK_some q
      subst ek
      have ey : y = kV kk := by
        cases kk with
        | inl z => cases (show Rep K W y (.int z) from ry); rfl
        | inr z => cases (show Rep K W y (.str z) from ry); rfl
      exact ⟨_, ⟨kvs, kk, ey, hp, ltBig (by rw [rk.length]; exact hl), rfl⟩, _, upd_same, putK_ok rk rz⟩
  | true =>
    obtain ⟨kvs, hp, rk⟩ := ow
    unfold putD2 at h
    simp only at h
    cases q : keyT k with
    | none => rw [q] at h; cases h
    | some kk =>
      rw [q] at h
      cases h
      have ek := keyT_some q
      subst ek
      cases (show Rep K W y (.tup (kk.map kD)) from ry) with
      | tup ha rs =>
        have ev := keys_vals rs
        subst ev
        exact ⟨_, ⟨kvs, kk, _, rfl, s _ _ ha, hp, ltBig (by rw [rk.length]; exact hl), rfl⟩, _, upd_same, putT_ok rk rz⟩
theorem own_keep {K : PySem.W.Frag} {W W' H H' : Hp} {p : Addr} {d : D} {o : HO} (h : Own K W H p d) (hp : H p = some o) (s : Sub W W') (hp' : H' p = some o) : Own K W' H' p d := h.mono s fun u hu => by rw [hp] at hu; cases hu; exact hp'
theorem rd_dcB {t : Bool} {Wx : WX} {vs is : List Nat} {g : D → Env → Option Env} {mt : M Bool} {mk me : M Val} (hi : ∀ j ∈ is, j ∈ vs) {σ : L2.St} {H1 W1 fg : Hp} {la : Nat → Addr} {e1 : Env} {ds : List D} {J : It} {Q : VK} (r1 : Rel X.K fg la W1 H1 σ e1)
    (h1 : Post X Wx fg la W1 σ (fun W' H' e' a => ∀ v, ValOk X.K fg W' H' σ e' v a → Q v H') (match dcL t vs g mt mk me ds [] (wipeE e1 vs) with
  | some (acc, e') => .ok (.ow (.dct t acc)) (back e1 e' vs)
  | none => .no)) (hJ : ItOk X.K W1 J ds) : tDcG t (fun _ H R => R J H) (rdG X.K is g) (rdT X WF mt) (rdE X WF mk) (rdE X WF me) vs σ H1 Q := by
  intro Dl hD
  cases q0 : dcL t vs g mt mk me ds [] (wipeE e1 vs) with
  | none => rw [q0] at h1; exact (show False from h1).elim
  | some p0 =>
    obtain ⟨accF, eF⟩ := p0
    rw [q0] at h1
    have h1 : ∀ W' H', Sub W1 W' → Rel X.K fg la W' H' σ (back e1 eF vs) → ∀ v, ValOk X.K fg W' H' σ (back e1 eF vs) v (.ow (.dct t accF)) → Q v H' := h1
    have fD : fg Dl = none := by
      cases z : fg Dl with
      | none => rfl
      | some u => have := (r1.frn Dl u z).1; rw [hD] at this; cases this
    have start : Rel X.K (upd fg Dl (nwD t)) la W1 (upd H1 Dl (nwD t)) (wipe σ vs) (wipeE e1 vs) := by
      have st : Step W1 H1 W1 (upd H1 Dl (nwD t)) := .newH r1.sub hD
      refine ((r1.step st).wiped vs).keep upd_same (r1.sub.none hD) fun i c qc o s => ?_
      obtain ⟨p, d, s', w, f, ow, _⟩ := ((r1.wiped vs).cell i c qc).at_ o
      rw [s] at s'; cases s'
      obtain ⟨u, hu⟩ := ow.some
      rw [hD] at hu; cases hu
    have own0 : Own X.K W1 (upd H1 Dl (nwD t)) Dl (.dct t []) := by
      cases t
      · exact ⟨[], upd_same, .nil⟩
      · exact ⟨[], upd_same, .nil⟩
    refine ⟨fun i m H => m = ds.length - i ∧ ∃ W2 e2 acc o, Sub W1 W2 ∧ H Dl = some o ∧ Own X.K W2 H Dl (.dct t acc) ∧ Rel X.K (upd fg Dl o) la W2 H (wipe σ vs) e2 ∧ dcL t vs g mt mk me (ds.drop i) acc e2 = some (accF, eF),
      ⟨_, rfl, W1, wipeE e1 vs, [], nwD t, .refl _, upd_same, own0, start, q0⟩, ?_⟩
    rintro i m H2 ⟨rfl, W2, e2, acc, od, s2, hd2, ra, r2, p2⟩
    obtain ⟨go, st⟩ := hJ i W2 H2 s2 r2.sub
    by_cases hlt : i < ds.length
    · have hd : ds[i]? = some ds[i] := List.getElem?_eq_getElem hlt
      obtain ⟨g1, y⟩ := go _ hd
      have ed : ds.drop i = ds[i] :: ds.drop (i + 1) := List.drop_eq_getElem_cons hlt
      rw [ed] at p2
      refine .inr ⟨g1, fun H => ∃ W2 e2 acc o, Sub W1 W2 ∧ H Dl = some o ∧ Own X.K W2 H Dl (.dct t acc) ∧ Rel X.K (upd fg Dl o) la W2 H (wipe σ vs) e2 ∧ dcL t vs g mt mk me (ds.drop (i + 1)) acc e2 = some (accF, eF),
        fun H' n => ⟨ds.length - (i + 1), by omega, rfl, n⟩, fun x H' yx => ?_⟩
      obtain ⟨W3, t3, rp⟩ := y x H' yx
      unfold dcL at p2
      cases q : g ds[i] e2 with
      | none => rw [q] at p2; cases p2
      | some e3 =>
        rw [q] at p2
        simp only at p2
        refine ⟨upd fg Dl od, la, W3, e2, ds[i], e3, r2.step t3, rp, q, fun σ4 l4 o4 r4 => ?_⟩
        have w4 : wipe σ4 vs = wipe σ vs := by
          have e1 := wipe_ext (σ := wipe σ vs) (σ' := σ4) (vs := vs) l4 fun j hj => o4 j fun m => hj (hi j m)
          have e2 := wipe_ext (σ := σ) (σ' := wipe σ vs) (vs := vs) (wipe_length σ vs) fun j hj => wipe_get hj
          exact e1.trans e2
        refine ⟨w4, upd fg Dl od, la, W3, e3, r4, ?_⟩
        cases q2 : mt e3 with
        | no => rw [q2] at p2; cases p2
        | ex z e4 => rw [q2] at p2; cases p2
        | ok b e4 =>
          rw [q2] at p2
          intro W5 H5 s5 r5
          cases b with
          | false =>
            simp only at p2
            rw [if_neg Bool.false_ne_true]
            have h5 := (r5.frn Dl _ upd_same).1
            refine ⟨W5, wipeE e4 vs, acc, od, (s2.trans t3.w).trans s5, h5, own_keep ra hd2 (t3.w.trans s5) h5, ?_, p2⟩
            have := r5.wiped vs
            rw [w4] at this
            exact this
          | true =>
            simp only at p2
            rw [if_pos rfl]
            refine ⟨upd fg Dl od, la, W5, e4, r5, ?_⟩
            cases q3 : mk e4 with
            | no => rw [q3] at p2; cases p2
            | ex z e5 => rw [q3] at p2; cases p2
            | ok a e5 =>
              rw [q3] at p2
              simp only at p2
              intro W6 H6 s6 r6 v hv
              cases q4 : esc e5 a with
              | none => rw [q4] at p2; cases p2
              | some pp =>
                obtain ⟨kd, e6⟩ := pp
                rw [q4] at p2
                simp only at p2
                obtain ⟨W7, s7, r7, rv⟩ := esc_ok r6 hv q4
                refine ⟨upd fg Dl od, la, W7, e6, r7, ?_⟩
                cases q5 : me e6 with
                | no => rw [q5] at p2; cases p2
                | ex z e5 => rw [q5] at p2; cases p2
                | ok b e7 =>
                  rw [q5] at p2
                  simp only at p2
                  intro W8 H8 s8 r8 w hw
                  cases q6 : esc e7 b with
                  | none => rw [q6] at p2; cases p2
                  | some pp =>
                    obtain ⟨xd, e8⟩ := pp
                    rw [q6] at p2
                    simp only at p2
                    obtain ⟨W9, s9, r9, rw9⟩ := esc_ok r8 hw q6
                    by_cases hl : acc.length < 1000000
                    · rw [if_pos hl] at p2
                      cases q7 : putD2 t acc kd xd with
                      | none => rw [q7] at p2; cases p2
                      | some acc' =>
                        rw [q7] at p2
                        simp only at p2
                        have s39 : Sub W2 W9 := ((((t3.w.trans s5).trans s6).trans s7).trans s8).trans s9
                        have hd9 := (r9.frn Dl _ upd_same)
                        have ow9 : Own X.K W9 H8 Dl (.dct t acc) := own_keep ra hd2 s39 hd9.1
                        obtain ⟨o, ds9, ow'⟩ := dput_ok r9.sub ow9 (rv.mono (s8.trans s9)) rw9 hl q7
                        have rr := r9.wiped vs
                        rw [w4] at rr
                        exact ⟨_, ds9, W9, wipeE e8 vs, acc', o, s2.trans s39, upd_same, ow', rr.write fD (ra.nt hd2), p2⟩
                    · rw [if_neg hl] at p2; cases p2
    · have ed : ds.drop i = [] := List.drop_eq_nil_of_le (by omega)
      rw [ed] at p2
      obtain ⟨rfl, rfl⟩ : acc = accF ∧ e2 = eF := by
        have z := Option.some.inj p2
        exact ⟨congrArg Prod.fst z, congrArg Prod.snd z⟩
      have hd2' := r2.frn Dl _ upd_same
      have rb : Rel X.K fg la W2 H2 σ (back e1 e2 vs) := Rel.backed r1 s2 (r2.less (.new fD))
      refine .inl ⟨st (by omega), h1 W2 H2 s2 rb _ ⟨Dl, rfl, hd2'.2 (ra.nt hd2), fD, ra, fun j c qc o s => ?_⟩⟩
      rw [back_get] at qc
      by_cases mm : j ∈ vs ∧ j < e2.length
      · rw [if_pos mm] at qc
        cases qc
        split at o <;> cases o
      · rw [if_neg mm] at qc
        obtain ⟨p, d, s', w, f, ow, _⟩ := (r2.cell j c qc).at_ o
        rw [wipe_get (fun h => mm ⟨h, (List.getElem?_eq_some_iff.mp qc).1⟩), s] at s'
        cases s'
        rw [upd_same] at f; cases f
theorem rd_dc {t : Bool} {Wx : WX} {vs is : List Nat} {mi : M (List D)} {g : D → Env → Option Env} {mt : M Bool} {mk me : M Val} (hi : ∀ j ∈ is, j ∈ vs) {σ : L2.St} {H : Hp} {Q : VK} (h : rdE X Wx (mDc t vs mi g mt mk me) σ H Q) :
    tDcG t (rdI X Wx mi) (rdG X.K is g) (rdT X WF mt) (rdE X WF mk) (rdE X WF me) vs σ H Q := by
  obtain ⟨fg, la, W, e, rl, h⟩ := h
  exact ⟨fg, la, W, e, rl, (Post.bind h).mono fun W1 H1 e1 ds s1 r1 h1 J hJ => rd_dcB hi r1 h1 hJ⟩
theorem de_dc {t : Bool} {Wx : WX} {kx vx tg iter : Expr} {ifs : List Expr} {scope : Scope} {own : List (Str × Nat)} {is : List Nat} {pos : Pos} {mi : M (List D)} {g : D → Env → Option Env} {mt : M Bool} {mk me : M Val} (hu : X.A.units < cLine) (hc : X.calm = true) (hN : X.N.Nodup) (hi : DI X Wx tg iter mi)
    (ok : BlkOk X.N X.env.scope scope own) (hg : Blk X scope fun Y => DG Y tg is g) (ht : Blk X scope fun Y => DTs Y WF ifs mt) (hk : Blk X scope fun Y => DE Y WF kx mk) (he : Blk X scope fun Y => DE Y WF vx me) (hv : ∀ j ∈ is, j ∈ own.map (·.2)) (hs : ∀ x, foldedSetIterable iter X.env x = pure x := by intro _; rfl) :
    DE X Wx (.DictComp kx vx [⟨tg, iter, ifs, 0⟩] scope pos) (mDc t (own.map (·.2)) mi g mt mk me) :=
  PE.wk (pe_dcG (t := t) (g := rdG X.K is g) (tt := rdT X WF mt) (tk := rdE X WF mk) (tv := rdE X WF me) hu hc hN hi ok (fun s H C cl fp => hg s H C cl fp) (fun s H C cl fp => ht s H C cl fp) (fun s H C cl fp => hk s H C cl fp) (fun s H C cl fp => he s H C cl fp) hs) fun _ _ _ h => rd_dc hv h
/-! ### {} -/
def mNewD (t : Bool) : M Val := fun e => .ok (.ow (.dct t [])) e
theorem de_newD {Wx : WX} {pos : Pos} (t : Bool) : DE X Wx (.Dict [] [] pos) (mNewD t) := by
  have go : ∀ (p : Addr) {fg la W e σ H} {Q : VK}, Rel X.K fg la W H σ e → Post X Wx fg la W σ (fun W' H' e' a => ∀ v, ValOk X.K fg W' H' σ e' v a → Q v H') (mNewD t e) → H p = none → Q (.ref p) (upd H p (nwD t)) := fun p {fg la W e σ H Q} rl h hp => by
    have st : Step W H W (upd H p (nwD t)) := .newH rl.sub hp
    refine (show ∀ W' H', Sub W W' → Rel X.K fg la W' H' σ e → ∀ v, ValOk X.K fg W' H' σ e v (.ow (.dct t [])) → Q v H' from h) W _ (.refl _) (rl.step st) _ (NewV.ok (W := W) (H := H) rl st ⟨p, rfl, hp, rl.sub.none hp, ?_⟩)
    cases t
    · exact ⟨[], upd_same, .nil⟩
    · exact ⟨[], upd_same, .nil⟩
  cases t with
  | false => exact PE.wk pe_dnewK fun σ H Q h p hp => by obtain ⟨fg, la, W, e, rl, h⟩ := h; exact go p rl h hp
  | true => exact PE.wk pe_dnewT fun σ H Q h p hp => by obtain ⟨fg, la, W, e, rl, h⟩ := h; exact go p rl h hp
end
end VS

/-! VN: what is walked: dicts (locked), enumerate, zip; two clauses. -/
namespace VS
open PySem PySem.Spec PyProof.Rows L2

/-- a dict is locked, or no longer -/
structure Sw (x y : HO) : Prop where
  l : ∀ xs, x ≠ .lst xs ∧ x ≠ .tup xs ∧ ∀ o, x ≠ .frz o (.lst xs)
  k : ∀ kvs, (x = .dK kvs ∨ ∃ o, x = .frz o (.dK kvs)) → (y = .dK kvs ∨ ∃ o, y = .frz o (.dK kvs))
  t : ∀ kvs, (x = .dT kvs ∨ ∃ o, x = .frz o (.dT kvs)) → (y = .dT kvs ∨ ∃ o, y = .frz o (.dT kvs))
def isDo : HO → Prop
  | .dK _ => True
  | .dT _ => True
  | _ => False
theorem Sw.lock {u : HO} (h : isDo u) (od : Obj) : Sw u (.frz od u) := by
  cases u with
  | dK kvs => exact ⟨fun xs => ⟨by simp, by simp, by simp⟩, (fun k z => by rcases z with z | ⟨o, z⟩ <;> cases z; exact .inr ⟨od, rfl⟩), (fun k z => by rcases z with z | ⟨o, z⟩ <;> cases z)⟩
  | dT kvs => exact ⟨fun xs => ⟨by simp, by simp, by simp⟩, (fun k z => by rcases z with z | ⟨o, z⟩ <;> cases z), (fun k z => by rcases z with z | ⟨o, z⟩ <;> cases z; exact .inr ⟨od, rfl⟩)⟩
  | _ => exact h.elim
theorem Sw.unlock {u : HO} (h : isDo u) (od : Obj) : Sw (.frz od u) u := by
  cases u with
  | dK kvs => exact ⟨fun xs => ⟨by simp, by simp, by simp⟩, (fun k z => by rcases z with z | ⟨o, z⟩ <;> cases z; exact .inl rfl), (fun k z => by rcases z with z | ⟨o, z⟩ <;> cases z)⟩
  | dT kvs => exact ⟨fun xs => ⟨by simp, by simp, by simp⟩, (fun k z => by rcases z with z | ⟨o, z⟩ <;> cases z), (fun k z => by rcases z with z | ⟨o, z⟩ <;> cases z; exact .inl rfl)⟩
  | _ => exact h.elim
section
variable {K : PySem.W.Frag} {W H : Hp} {a : Addr} {x y : HO}
theorem Sw.rdK (s : Sw x y) (h : W a = some x) {b : Addr} {kvs : List (Key × V)} (r : Rd W b (.dK kvs)) : Rd (upd W a y) b (.dK kvs) := by
  by_cases z : b = a
  · subst z
    rcases s.k kvs (by
      rcases r with r | ⟨o, r⟩
      · rw [h] at r; cases r; exact .inl rfl
      · rw [h] at r; cases r; exact .inr ⟨o, rfl⟩) with e | ⟨o, e⟩
    · exact .inl (by rw [upd_same, e])
    · exact .inr ⟨o, by rw [upd_same, e]⟩
  · rcases r with r | ⟨o, r⟩
    · exact .inl (by rw [upd_ne z]; exact r)
    · exact .inr ⟨o, by rw [upd_ne z]; exact r⟩
theorem Sw.rdT (s : Sw x y) (h : W a = some x) {b : Addr} {kvs : List (List Key × V)} (r : Rd W b (.dT kvs)) : Rd (upd W a y) b (.dT kvs) := by
  by_cases z : b = a
  · subst z
    rcases s.t kvs (by
      rcases r with r | ⟨o, r⟩
      · rw [h] at r; cases r; exact .inl rfl
      · rw [h] at r; cases r; exact .inr ⟨o, rfl⟩) with e | ⟨o, e⟩
    · exact .inl (by rw [upd_same, e])
    · exact .inr ⟨o, by rw [upd_same, e]⟩
  · rcases r with r | ⟨o, r⟩
    · exact .inl (by rw [upd_ne z]; exact r)
    · exact .inr ⟨o, by rw [upd_ne z]; exact r⟩
theorem Sw.at_ (s : Sw x y) (h : W a = some x) {b : Addr} {u : HO} (r : W b = some u) (n : x ≠ u) : (upd W a y) b = some u := by
  by_cases z : b = a
  · subst z; rw [h] at r; cases r; exact absurd rfl n
  · rw [upd_ne z]; exact r
theorem Sw.sqL (s : Sw x y) (h : W a = some x) {b : Addr} {vs : List V} (r : SqL K W b vs) : SqL K (upd W a y) b vs := by
  rcases r with (r | ⟨o, r⟩) | r
  · exact .inl (.inl (s.at_ h r (s.l vs).1))
  · exact .inl (.inr ⟨o, s.at_ h r ((s.l vs).2.2 o)⟩)
  · exact .inr r
mutual
theorem Rep.sw (s : Sw x y) (h : W a = some x) : ∀ {v : V} {d : D}, Rep K W v d → Rep K (upd W a y) v d
  | _, _, .non => .non
  | _, _, .bl b => .bl b
  | _, _, .int i => .int i
  | _, _, .str i => .str i
  | _, _, .lst (xs := xs) e r => .lst (s.at_ h e (s.l xs).1) (Reps.sw s h r)
  | _, _, .tup (xs := xs) e r => .tup (s.at_ h e (s.l xs).2.1) (Reps.sw s h r)
  | _, _, .fl e r => .fl (s.sqL h e) (Reps.sw s h r)
  | _, _, .dK e r => .dK (s.rdK h e) (RepsK.sw s h r)
  | _, _, .dT e r => .dT (s.rdT h e) (RepsT.sw s h r)
  | _, _, .op v => .op v
theorem Reps.sw (s : Sw x y) (h : W a = some x) : ∀ {vs : List V} {ds : List D}, Reps K W vs ds → Reps K (upd W a y) vs ds
  | _, _, .nil => .nil
  | _, _, .cons r t => .cons (Rep.sw s h r) (Reps.sw s h t)
theorem RepsK.sw (s : Sw x y) (h : W a = some x) : ∀ {vs : List (Key × V)} {ds : List (D × D)}, RepsK K W vs ds → RepsK K (upd W a y) vs ds
  | _, _, .nil => .nil
  | _, _, .cons r t => .cons (Rep.sw s h r) (RepsK.sw s h t)
theorem RepsT.sw (s : Sw x y) (h : W a = some x) : ∀ {vs : List (List Key × V)} {ds : List (D × D)}, RepsT K W vs ds → RepsT K (upd W a y) vs ds
  | _, _, .nil => .nil
  | _, _, .cons r t => .cons (Rep.sw s h r) (RepsT.sw s h t)
end
theorem Own.sw (s : Sw x y) (h : W a = Option.some x) {p : Addr} (hp : p ≠ a) {d : D} (r : Own K W H p d) : Own K (upd W a y) (upd H a y) p d := by
  cases d with
  | lst ds => obtain ⟨vs, h1, h2⟩ := r; exact ⟨vs, by rw [upd_ne hp]; exact h1, Reps.sw s h h2⟩
  | dct t l =>
    cases t
    · obtain ⟨vs, h1, h2⟩ := r; exact ⟨vs, by rw [upd_ne hp]; exact h1, RepsK.sw s h h2⟩
    · obtain ⟨vs, h1, h2⟩ := r; exact ⟨vs, by rw [upd_ne hp]; exact h1, RepsT.sw s h h2⟩
  | _ => exact r.elim
variable {fg : Hp} {la : Nat → Addr} {σ : L2.St} {e : Env}
theorem Sub.sw (r : Sub W H) : Sub (upd W a y) (upd H a y) := fun b o e => by
  by_cases z : b = a
  · subst z; rw [upd_same] at e ⊢; exact e
  · rw [upd_ne z] at e ⊢; exact r b o e
theorem Rel.sw (s : Sw x y) (h : W a = some x) (nt : NT x) (r : Rel K fg la W H σ e) : Rel K fg la (upd W a y) (upd H a y) σ e where
  sub := r.sub.sw
  frn := fun b o q => by
    obtain ⟨k1, k2⟩ := r.frn b o q
    have nb : b ≠ a := fun z => by
      subst z
      have e := r.sub _ _ h
      rw [k1] at e; cases e
      have := k2 nt
      rw [h] at this; cases this
    exact ⟨by rw [upd_ne nb]; exact k1, fun n => by rw [upd_ne nb]; exact k2 n⟩
  len := r.len
  cell := fun i c q => by
    have k := r.cell i c q
    cases c with
    | un => trivial
    | sh d => obtain ⟨v, h1, h2⟩ := k; exact ⟨v, h1, Rep.sw s h h2⟩
    | ow d =>
      obtain ⟨p, h1, h2, h3, h4⟩ := k
      have nb : p ≠ a := fun z => by rw [z, h] at h2; cases h2
      exact ⟨p, h1, by rw [upd_ne nb]; exact h2, h3, h4.sw s h nb⟩
    | ln d =>
      obtain ⟨h1, h2, h3, h4⟩ := k
      have nb : la i ≠ a := fun z => by rw [z, h] at h2; cases h2
      exact ⟨h1, by rw [upd_ne nb]; exact h2, h3, h4.sw s h nb⟩
  apart := r.apart
theorem ValOk.sw (s : Sw x y) (h : W a = some x) {v : V} {b : Val} (r : ValOk K fg W H σ e v b) : ValOk K fg (upd W a y) (upd H a y) σ e v b := by
  cases b with
  | sh d => exact Rep.sw s h r
  | bw i => exact r
  | ow d =>
    obtain ⟨p, h1, h2, h3, h4, h5⟩ := r
    have nb : p ≠ a := fun z => by rw [z, h] at h2; cases h2
    exact ⟨p, h1, by rw [upd_ne nb]; exact h2, h3, h4.sw s h nb, h5⟩
end
/-! ### the keys of a dict that a name holds -/
def mKeys (i : Nat) : M (List D) := fun e => match esc e (.bw i) with
  | some (.dct _ l, e') => .ok (l.map (·.1)) e'
  | _ => .no
theorem itk_ok {K : PySem.W.Frag} {W : Hp} {a : Addr} {o : Obj} {kvs : List (Key × V)} {l : List (D × D)} (h : W a = some (.frz o (.dK kvs))) (r : RepsK K W kvs l) : ItOk K W (Itk a o kvs) (l.map (·.1)) := fun i W1 H1 s1 s2 => by
  have len := r.length
  have hh := s2 _ _ (s1 _ _ h)
  refine ⟨fun d hd => ?_, fun hl => ⟨hh, by rw [len]; rw [List.length_map] at hl; exact hl⟩⟩
  have hi : i < kvs.length := by
    have := (List.getElem?_eq_some_iff.mp hd).1
    rw [List.length_map] at this; omega
  refine ⟨⟨hh, hi⟩, fun x H' y => ?_⟩
  obtain ⟨rfl, k, v, hk, rfl⟩ := y
  refine ⟨W1, .refl s2, ?_⟩
  have : d = kD k := by
    clear hi hh h len s1 s2
    induction kvs generalizing i l with
    | nil => simp at hk
    | cons p kvs ih =>
      cases r with
      | cons rv t =>
        cases i with
        | zero => simp at hk hd; rw [← hd, hk.1]
        | succ i => exact ih t i (by simpa using hd) (by simpa using hk)
  subst this
  cases k with
  | inl z => exact .int z
  | inr z => exact .str z
theorem keys_rep {K : PySem.W.Frag} {W : Hp} : ∀ ks : List Key, Reps K W (ks.map kV) (ks.map kD)
  | [] => .nil
  | k :: ks => .cons (by cases k with
    | inl z => exact .int z
    | inr z => exact .str z) (keys_rep ks)
theorem itkt_ok {K : PySem.W.Frag} {W : Hp} {a : Addr} {o : Obj} {kvs : List (List Key × V)} {l : List (D × D)} (h : W a = some (.frz o (.dT kvs))) (r : RepsT K W kvs l) : ItOk K W (Itkt a o kvs) (l.map (·.1)) := fun i W1 H1 s1 s2 => by
  have len := r.length
  have hh := s2 _ _ (s1 _ _ h)
  refine ⟨fun d hd => ?_, fun hl => ⟨hh, by rw [len]; rw [List.length_map] at hl; exact hl⟩⟩
  have hi : i < kvs.length := by
    have := (List.getElem?_eq_some_iff.mp hd).1
    rw [List.length_map] at this; omega
  refine ⟨⟨hh, hi⟩, fun x H' y => ?_⟩
  obtain ⟨rfl, k, v, q, hk, rfl, hq⟩ := y
  have : d = tD k := by
    clear hi hh h len s1 s2 hq
    induction kvs generalizing i l with
    | nil => simp at hk
    | cons p kvs ih =>
      cases r with
      | cons rv t =>
        cases i with
        | zero => simp at hk hd; rw [← hd, hk.1]
        | succ i => exact ih t i (by simpa using hd) (by simpa using hk)
  subst this
  -- the key's tuple is shared
  have st : Step W1 H' (upd W1 q (.tup (k.map kV))) H' := by
    refine ⟨fun b o e => ?_, .refl _, fun b o e => ?_, fun b o h1 h2 nt => ?_⟩
    · by_cases z : b = q
      · subst z
        rw [s2 _ _ e] at hq; cases hq
        exact upd_same
      · rw [upd_ne z]; exact e
    · by_cases z : b = q
      · subst z; rw [upd_same] at e; cases e; exact hq
      · rw [upd_ne z] at e; exact s2 _ _ e
    · by_cases z : b = q
      · subst z; rw [hq] at h2; cases h2; exact absurd rfl (nt _)
      · rw [upd_ne z]; exact h1
  exact ⟨_, st, .tup upd_same (keys_rep k)⟩
section
variable {X : Cx} {Wx : WX}
theorem mKeys_ok {i : Nat} {e e1 : Env} {ks : List D} {fg : Hp} {la : Nat → Addr} {W H : Hp} {σ : L2.St} (r : Rel X.K fg la W H σ e) (h : mKeys i e = .ok ks e1) : ∃ W1 a o l, Sub W W1 ∧ Rel X.K fg la W1 H σ e1 ∧ σ[i]? = some (some (V.ref a)) ∧ ks = l.map (·.1) ∧ W1 a = some o ∧
    ((isDo o ∧ ((∃ kvs, o = .dK kvs ∧ RepsK X.K W1 kvs l) ∨ ∃ kvs, o = .dT kvs ∧ RepsT X.K W1 kvs l)) ∨ ∃ od, ((∃ kvs, o = .frz od (.dK kvs) ∧ RepsK X.K W1 kvs l) ∨ ∃ kvs, o = .frz od (.dT kvs) ∧ RepsT X.K W1 kvs l)) := by
  unfold mKeys at h
  cases q : esc e (.bw i) with
  | none => rw [q] at h; cases h
  | some pr =>
    obtain ⟨d, e2⟩ := pr
    rw [q] at h
    cases d with
    | dct t l =>
      simp only at h
      cases h
      have hs : ∃ v, σ[i]? = some (some v) := by
        unfold esc at q
        simp only at q
        split at q
        · rename_i d' z
          obtain ⟨v, h1, _⟩ := r.cell i _ z
          exact ⟨v, h1⟩
        · rename_i d' z
          obtain ⟨v, h1, _⟩ := r.cell i _ z
          exact ⟨_, h1⟩
        · cases q
      obtain ⟨v, hv⟩ := hs
      obtain ⟨W1, s1, r1, rp⟩ := esc_ok r (a := .bw i) hv q
      cases rp with
      | dK hr rk =>
        rcases hr with hr | ⟨o, hr⟩
        · exact ⟨W1, _, _, l, s1, r1, hv, rfl, hr, .inl ⟨trivial, .inl ⟨_, rfl, rk⟩⟩⟩
        · exact ⟨W1, _, _, l, s1, r1, hv, rfl, hr, .inr ⟨o, .inl ⟨_, rfl, rk⟩⟩⟩
      | dT hr rk =>
        rcases hr with hr | ⟨o, hr⟩
        · exact ⟨W1, _, _, l, s1, r1, hv, rfl, hr, .inl ⟨trivial, .inr ⟨_, rfl, rk⟩⟩⟩
        · exact ⟨W1, _, _, l, s1, r1, hv, rfl, hr, .inr ⟨o, .inr ⟨_, rfl, rk⟩⟩⟩
    | _ => cases h
theorem mKeys_ne {i : Nat} {e e1 : Env} {x : Exn} : mKeys i e ≠ .ex x e1 := by
  unfold mKeys
  split <;> intro h <;> cases h
/-- behind the lock the dict is as it was -/
theorem unlocked {W1 W' : Hp} {a : Addr} {o : HO} {od : Obj} (h : W1 a = some o) (s : Sub (upd W1 a (.frz od o)) W') : Sub W1 (upd W' a o) := fun b u e => by
  by_cases z : b = a
  · subst z; rw [h] at e; cases e; exact upd_same
  · rw [upd_ne z]; exact s b u (by rw [upd_ne z]; exact e)
theorem keys_any {i : Nat} {f : List D → M Val} {T : TI → TE} {σ : L2.St} {H : Hp} {Q : VK} (hT : ∀ {wi : TI} {σ : L2.St} {H : Hp} {Q : VK}, wi σ H (fun J H1 => T (fun _ H R => R J H) σ H1 Q) → T wi σ H Q)
    (hB : ∀ {fg : Hp} {la : Nat → Addr} {W1 H1 : Hp} {e1 : Env} {ds : List D} {J : It} {σ : L2.St} {Q : VK}, Rel X.K fg la W1 H1 σ e1 → Post X Wx fg la W1 σ (fun W' H' e' a => ∀ v, ValOk X.K fg W' H' σ e' v a → Q v H') (f ds e1) → ItOk X.K W1 J ds → T (fun _ H R => R J H) σ H1 Q)
    (hne : ∀ ds e x e', f ds e ≠ .ex x e') (h : rdE X Wx (M.bind (mKeys i) f) σ H Q) : T (iKeys (tVar i)) σ H Q ∨ tLockE (T (iKeys (tVar i))) σ H Q := by
  obtain ⟨fg, la, W, e, rl, h⟩ := h
  unfold M.bind at h
  cases q : mKeys i e with
  | no => rw [q] at h; exact h.elim
  | ex x e' => exact absurd q mKeys_ne
  | ok ks e1 =>
    rw [q] at h
    simp only at h
    obtain ⟨W1, a, o, l, s1, r1, hv, rfl, ho, c⟩ := mKeys_ok rl q
    have h1 := Post.wider h s1
    rcases c with ⟨hd, c⟩ | ⟨od, c⟩
    · refine .inr ⟨a, o, r1.sub _ _ ho, by cases o <;> first | trivial | exact hd.elim, fun od => ?_⟩
      have nt : NT o := by intro xs z; subst z; exact hd
      have r2 := r1.sw (Sw.lock hd od) ho nt
      have hat : (upd W1 a (.frz od o)) a = some (.frz od o) := upd_same
      have post : Post X Wx fg la (upd W1 a (.frz od o)) σ (fun W' H' e' b => ∀ v, ValOk X.K fg W' H' σ e' v b → H' a = some (.frz od o) ∧ Q v (upd H' a o)) (f (l.map (·.1)) e1) := by
        cases q2 : f (l.map (·.1)) e1 with
        | no => rw [q2] at h1; exact h1
        | ex x e' => exact absurd q2 (hne _ _ _ _)
        | ok b e' =>
          rw [q2] at h1
          intro W' H' s' r' v hv'
          have wa := s' _ _ hat
          refine ⟨r'.sub _ _ wa, ?_⟩
          exact (show ∀ W' H', Sub W1 W' → Rel X.K fg la W' H' σ e' → ∀ v, ValOk X.K fg W' H' σ e' v b → Q v H' from h1) _ _ (unlocked ho s') (r'.sw (Sw.unlock hd od) wa (by intro xs; simp)) v (hv'.sw (Sw.unlock hd od) wa)
      refine hT ⟨_, hv, a, od, rfl, ?_⟩
      rcases c with ⟨kvs, rfl, rk⟩ | ⟨kvs, rfl, rk⟩
      · exact .inl ⟨kvs, upd_same, hB r2 post (itk_ok upd_same (rk.sw (Sw.lock hd od) ho))⟩
      · exact .inr ⟨kvs, upd_same, hB r2 post (itkt_ok upd_same (rk.sw (Sw.lock hd od) ho))⟩
    · refine .inl (hT ⟨_, hv, a, od, rfl, ?_⟩)
      rcases c with ⟨kvs, rfl, rk⟩ | ⟨kvs, rfl, rk⟩
      · exact .inl ⟨kvs, r1.sub _ _ ho, hB r1 h1 (itk_ok ho rk)⟩
      · exact .inr ⟨kvs, r1.sub _ _ ho, hB r1 h1 (itkt_ok ho rk)⟩
/-- a name's items, the keys of a dict -/
def mAny (i : Nat) : M (List D) := fun e => match cellD e[i]? with
  | some (.dct _ _) => mKeys i e
  | _ => mSeq (mVar i) e
theorem mAny_split (i : Nat) {f : List D → M Val} (e : Env) : M.bind (mAny i) f e = M.bind (mKeys i) f e ∨ M.bind (mAny i) f e = M.bind (mSeq (mVar i)) f e := by
  have : mAny i e = mKeys i e ∨ mAny i e = mSeq (mVar i) e := by
    unfold mAny
    split
    · exact .inl rfl
    · exact .inr rfl
  unfold M.bind
  rcases this with z | z
  · left; rw [z]
  · right; rw [z]
theorem lc_ne {vs : List Nat} {g : D → Env → Option Env} {mt : M Bool} {me : M Val} (ds : List D) (e : Env) (x : Exn) (e' : Env) : (match lcL vs g mt me ds [] (wipeE e vs) with
  | some (acc, e2) => (R.ok (Val.ow (.lst acc)) (back e e2 vs) : R Val)
  | none => .no) ≠ .ex x e' := by split <;> intro h <;> cases h
theorem rd_lcN {i : Nat} {vs is : List Nat} {g : D → Env → Option Env} {mt : M Bool} {me : M Val} (hi : ∀ j ∈ is, j ∈ vs) {σ : L2.St} {H : Hp} {Q : VK} (h : rdE X Wx (mLc vs (mAny i) g mt me) σ H Q) :
    tLc (rdI X Wx (mSeq (mVar i))) (rdG X.K is g) (rdT X WF mt) (rdE X WF me) vs σ H Q ∨ tLc (iKeys (tVar i)) (rdG X.K is g) (rdT X WF mt) (rdE X WF me) vs σ H Q ∨ tLockE (tLc (iKeys (tVar i)) (rdG X.K is g) (rdT X WF mt) (rdE X WF me) vs) σ H Q := by
  rcases rdE_at h (mAny_split i) with h | h
  · exact .inr (keys_any (T := fun wi => tLc wi (rdG X.K is g) (rdT X WF mt) (rdE X WF me) vs) (fun h => h) (fun r p j => rd_lcB hi r p j) lc_ne h)
  · exact .inl (rd_lc hi h)
theorem de_lcN {i : Nat} {x : Str} {px : Pos} {elt tg : Expr} {ifs : List Expr} {scope : Scope} {own : List (Str × Nat)} {is : List Nat} {pos : Pos} {g : D → Env → Option Env} {mt : M Bool} {me : M Val} (hc : X.calm = true) (hN : X.N.Nodup) (hx : PE X (.Name x px) (tVar i)) (hi : DE X Wx (.Name x px) (mVar i)) (ok : BlkOk X.N X.env.scope scope own)
    (hg : Blk X scope fun Y => DG Y tg is g) (ht : Blk X scope fun Y => DTs Y WF ifs mt) (he : Blk X scope fun Y => DE Y WF elt me) (hv : ∀ j ∈ is, j ∈ own.map (·.2)) (hs : ∀ y, foldedSetIterable (.Name x px) X.env y = pure y := by intro _; rfl) :
    DE X Wx (.ListComp elt [⟨tg, .Name x px, ifs, 0⟩] scope pos) (mLc (own.map (·.2)) (mAny i) g mt me) :=
  PE.wk (PE.or (pe_lc (g := rdG X.K is g) (tt := rdT X WF mt) (te := rdE X WF me) hc hN (di_seq hi) ok (fun s H C cl fp => hg s H C cl fp) (fun s H C cl fp => ht s H C cl fp) (fun s H C cl fp => he s H C cl fp) hs)
    (PE.or (pe_lc (g := rdG X.K is g) (tt := rdT X WF mt) (te := rdE X WF me) hc hN (pi_keys hx) ok (fun s H C cl fp => hg s H C cl fp) (fun s H C cl fp => ht s H C cl fp) (fun s H C cl fp => he s H C cl fp) hs)
      (pe_lock (pe_lc (g := rdG X.K is g) (tt := rdT X WF mt) (te := rdE X WF me) hc hN (pi_keys hx) ok (fun s H C cl fp => hg s H C cl fp) (fun s H C cl fp => ht s H C cl fp) (fun s H C cl fp => he s H C cl fp) hs)))) fun _ _ _ h => rd_lcN hv h
theorem dts_nil : DTs X Wx [] (M.ret true) := by
  refine ⟨fun pins s σ H Q I h => (pts_nil (X := X)).run pins s σ H Q I ?_⟩
  obtain ⟨fg, la, W, e, rl, h⟩ := h
  exact Post.here h rl
theorem dts_one {c : Expr} {m : M Bool} (h : DT X Wx c m) : DTs X Wx [c] m := pts_one h
end
end VS

/-! VO: comprehensions of two clauses; enumerate, zip. -/
namespace VS
open PySem PySem.Spec PyProof.Rows L2
def lc2L (vs vs1 : List Nat) (g : D → Env → Option Env) (mt : M Bool) (mi1 : M (List D)) (g1 : D → Env → Option Env) (mt1 : M Bool) (me : M Val) : List D → List D → Env → Option (List D × Env)
  | [], acc, e => some (acc, e)
  | d :: ds, acc, e => match g d e with
    | none => none
    | some e1 => match mt e1 with
      | .ok true e2 => match mi1 e2 with
        | .ok ds1 e3 => match lcL vs1 g1 mt1 me ds1 acc (wipeE e3 vs1) with
          | some (acc', e4) => lc2L vs vs1 g mt mi1 g1 mt1 me ds acc' (wipeE e4 vs)
          | none => none
        | _ => none
      | .ok false e2 => lc2L vs vs1 g mt mi1 g1 mt1 me ds acc (wipeE e2 vs)
      | _ => none
def mLc2 (vs vs1 : List Nat) (mi : M (List D)) (g : D → Env → Option Env) (mt : M Bool) (mi1 : M (List D)) (g1 : D → Env → Option Env) (mt1 : M Bool) (me : M Val) : M Val := M.bind mi fun ds e => match lc2L vs vs1 g mt mi1 g1 mt1 me ds [] (wipeE e vs) with
  | some (acc, e') => .ok (.ow (.lst acc)) (back e e' vs)
  | none => .no
section
variable {X : Cx} {Wx : WX}
theorem rd_lc2B {vs vs1 is is1 : List Nat} {g : D → Env → Option Env} {mt : M Bool} {mi1 : M (List D)} {g1 : D → Env → Option Env} {mt1 : M Bool} {me : M Val} (hi : ∀ j ∈ is, j ∈ vs) (hi1 : ∀ j ∈ is1, j ∈ vs1) (h01 : ∀ j ∈ vs1, j ∈ vs) {σ : L2.St} {H1 W1 fg : Hp} {la : Nat → Addr} {e1 : Env} {ds : List D} {J : It} {Q : VK}
    (r1 : Rel X.K fg la W1 H1 σ e1) (h1 : Post X Wx fg la W1 σ (fun W' H' e' a => ∀ v, ValOk X.K fg W' H' σ e' v a → Q v H') (match lc2L vs vs1 g mt mi1 g1 mt1 me ds [] (wipeE e1 vs) with
  | some (acc, e') => .ok (.ow (.lst acc)) (back e1 e' vs)
  | none => .no)) (hJ : ItOk X.K W1 J ds) : tLc2 (fun _ H R => R J H) (rdG X.K is g) (rdT X WF mt) (rdI X WF mi1) (rdG X.K is1 g1) (rdT X WF mt1) (rdE X WF me) vs vs1 σ H1 Q := by
  intro Dl hD
  cases q0 : lc2L vs vs1 g mt mi1 g1 mt1 me ds [] (wipeE e1 vs) with
  | none => rw [q0] at h1; exact (show False from h1).elim
  | some p0 =>
    obtain ⟨accF, eF⟩ := p0
    rw [q0] at h1
    have h1 : ∀ W' H', Sub W1 W' → Rel X.K fg la W' H' σ (back e1 eF vs) → ∀ v, ValOk X.K fg W' H' σ (back e1 eF vs) v (.ow (.lst accF)) → Q v H' := h1
    have fD : fg Dl = none := by
      cases z : fg Dl with
      | none => rfl
      | some u => have := (r1.frn Dl u z).1; rw [hD] at this; cases this
    have start : Rel X.K (upd fg Dl (.lst [])) la W1 (upd H1 Dl (.lst [])) (wipe σ vs) (wipeE e1 vs) := by
      have t : Step W1 H1 W1 (upd H1 Dl (.lst [])) := .newH r1.sub hD
      refine ((r1.step t).wiped vs).keep upd_same (r1.sub.none hD) fun i c qc o s => ?_
      obtain ⟨p, d, s', w, f, ow, _⟩ := ((r1.wiped vs).cell i c qc).at_ o
      rw [s] at s'; cases s'
      obtain ⟨u, hu⟩ := ow.some
      rw [hD] at hu; cases hu
    refine ⟨fun i m H => m = ds.length - i ∧ ∃ W2 e2 acc vacc, Sub W1 W2 ∧ H Dl = some (.lst vacc) ∧ Reps X.K W2 vacc acc ∧ Rel X.K (upd fg Dl (.lst vacc)) la W2 H (wipe σ vs) e2 ∧ lc2L vs vs1 g mt mi1 g1 mt1 me (ds.drop i) acc e2 = some (accF, eF),
      ⟨_, rfl, W1, wipeE e1 vs, [], [], .refl _, upd_same, .nil, start, q0⟩, ?_⟩
    rintro i m H2 ⟨rfl, W2, e2, acc, vacc, s2, hd2, ra, r2, p2⟩
    obtain ⟨go, st⟩ := hJ i W2 H2 s2 r2.sub
    by_cases hlt : i < ds.length
    · have hd : ds[i]? = some ds[i] := List.getElem?_eq_getElem hlt
      obtain ⟨g0, y⟩ := go _ hd
      have ed : ds.drop i = ds[i] :: ds.drop (i + 1) := List.drop_eq_getElem_cons hlt
      rw [ed] at p2
      refine .inr ⟨g0, fun H => ∃ W2 e2 acc vacc, Sub W1 W2 ∧ H Dl = some (.lst vacc) ∧ Reps X.K W2 vacc acc ∧ Rel X.K (upd fg Dl (.lst vacc)) la W2 H (wipe σ vs) e2 ∧ lc2L vs vs1 g mt mi1 g1 mt1 me (ds.drop (i + 1)) acc e2 = some (accF, eF),
        fun H' n => ⟨ds.length - (i + 1), by omega, rfl, n⟩, fun x H' yx => ?_⟩
      obtain ⟨W3, t3, rp⟩ := y x H' yx
      unfold lc2L at p2
      cases q : g ds[i] e2 with
      | none => rw [q] at p2; cases p2
      | some e3 =>
        rw [q] at p2
        simp only at p2
        refine ⟨upd fg Dl (.lst vacc), la, W3, e2, ds[i], e3, r2.step t3, rp, q, fun σ4 l4 o4 r4 => ?_⟩
        have w4 : wipe σ4 vs = wipe σ vs := by
          have e1 := wipe_ext (σ := wipe σ vs) (σ' := σ4) (vs := vs) l4 fun j hj => o4 j fun m => hj (hi j m)
          have e2 := wipe_ext (σ := σ) (σ' := wipe σ vs) (vs := vs) (wipe_length σ vs) fun j hj => wipe_get hj
          exact e1.trans e2
        refine ⟨w4, upd fg Dl (.lst vacc), la, W3, e3, r4, ?_⟩
        cases q2 : mt e3 with
        | no => rw [q2] at p2; cases p2
        | ex z e4 => rw [q2] at p2; cases p2
        | ok b e4 =>
          rw [q2] at p2
          intro W5 H5 s5 r5
          cases b with
          | false =>
            simp only at p2
            rw [if_neg Bool.false_ne_true]
            refine ⟨W5, wipeE e4 vs, acc, vacc, (s2.trans t3.w).trans s5, (r5.frn Dl _ upd_same).1, ra.mono (t3.w.trans s5), ?_, p2⟩
            have := r5.wiped vs
            rw [w4] at this
            exact this
          | true =>
            simp only at p2
            rw [if_pos rfl]
            refine ⟨upd fg Dl (.lst vacc), la, W5, e4, r5, ?_⟩
            cases q3 : mi1 e4 with
            | no => rw [q3] at p2; cases p2
            | ex z e5 => rw [q3] at p2; cases p2
            | ok ds1 e5 =>
              rw [q3] at p2
              simp only at p2
              intro W6 H6 s6 r6 J1 hJ1
              cases q4 : lcL vs1 g1 mt1 me ds1 acc (wipeE e5 vs1) with
              | none => rw [q4] at p2; cases p2
              | some pp =>
                obtain ⟨acc', e6⟩ := pp
                rw [q4] at p2
                simp only at p2
                refine lc_loop hi1 fD (r6.wiped vs1) (ra.mono ((t3.w.trans s5).trans s6)) q4 hJ1 fun W7 H7 vacc' s7 r7 ra7 => ?_
                refine ⟨W7, wipeE e6 vs, acc', vacc', (((s2.trans t3.w).trans s5).trans s6).trans s7, (r7.frn Dl _ upd_same).1, ra7, ?_, p2⟩
                have rw7 := r7.wiped vs
                rw [wipe_ext (σ := σ4) (σ' := wipe σ4 vs1) (vs := vs) (wipe_length σ4 vs1) fun j hj => wipe_get fun m => hj (h01 j m), w4] at rw7
                exact rw7
    · have ed : ds.drop i = [] := List.drop_eq_nil_of_le (by omega)
      rw [ed] at p2
      obtain ⟨rfl, rfl⟩ : acc = accF ∧ e2 = eF := by
        have z := Option.some.inj p2
        exact ⟨congrArg Prod.fst z, congrArg Prod.snd z⟩
      have hd2' := r2.frn Dl _ upd_same
      have rb : Rel X.K fg la W2 H2 σ (back e1 e2 vs) := Rel.backed r1 s2 (r2.less (.new fD))
      refine .inl ⟨st (by omega), h1 W2 H2 s2 rb _ ⟨Dl, rfl, (hd2'.2 fun xs => by simp), fD, ⟨vacc, hd2, ra⟩, fun j c qc o s => ?_⟩⟩
      rw [back_get] at qc
      by_cases mm : j ∈ vs ∧ j < e2.length
      · rw [if_pos mm] at qc
        cases qc
        split at o <;> cases o
      · rw [if_neg mm] at qc
        obtain ⟨p, d, s', w, f, ow, _⟩ := (r2.cell j c qc).at_ o
        rw [wipe_get (fun h => mm ⟨h, (List.getElem?_eq_some_iff.mp qc).1⟩), s] at s'
        cases s'
        rw [upd_same] at f; cases f
theorem rd_lc2 {vs vs1 is is1 : List Nat} {mi : M (List D)} {g : D → Env → Option Env} {mt : M Bool} {mi1 : M (List D)} {g1 : D → Env → Option Env} {mt1 : M Bool} {me : M Val} (hi : ∀ j ∈ is, j ∈ vs) (hi1 : ∀ j ∈ is1, j ∈ vs1) (h01 : ∀ j ∈ vs1, j ∈ vs) {σ : L2.St} {H : Hp} {Q : VK} (h : rdE X Wx (mLc2 vs vs1 mi g mt mi1 g1 mt1 me) σ H Q) :
    tLc2 (rdI X Wx mi) (rdG X.K is g) (rdT X WF mt) (rdI X WF mi1) (rdG X.K is1 g1) (rdT X WF mt1) (rdE X WF me) vs vs1 σ H Q := by
  obtain ⟨fg, la, W, e, rl, h⟩ := h
  exact ⟨fg, la, W, e, rl, (Post.bind h).mono fun W1 H1 e1 ds s1 r1 h1 J hJ => rd_lc2B hi hi1 h01 r1 h1 hJ⟩
theorem de_lc2 {elt tg iter tg1 iter1 : Expr} {ifs ifs1 : List Expr} {scope : Scope} {own : List (Str × Nat)} {vs1 is is1 : List Nat} {pos : Pos} {mi : M (List D)} {g : D → Env → Option Env} {mt : M Bool} {mi1 : M (List D)} {g1 : D → Env → Option Env} {mt1 : M Bool} {me : M Val} (hc : X.calm = true) (hN : X.N.Nodup) (hi : DI X Wx tg iter mi)
    (ok : BlkOk X.N X.env.scope scope own) (hg : Blk X scope fun Y => DG Y tg is g) (ht : Blk X scope fun Y => DTs Y WF ifs mt) (hi1 : Blk X scope fun Y => DI Y WF tg1 iter1 mi1) (hg1 : Blk X scope fun Y => DG Y tg1 is1 g1) (ht1 : Blk X scope fun Y => DTs Y WF ifs1 mt1) (he : Blk X scope fun Y => DE Y WF elt me)
    (hv : ∀ j ∈ is, j ∈ own.map (·.2)) (hv1 : ∀ j ∈ is1, j ∈ vs1) (h01 : ∀ j ∈ vs1, j ∈ own.map (·.2)) (hs : ∀ x, foldedSetIterable iter X.env x = pure x := by intro _; rfl) (hs1 : ∀ env x, foldedSetIterable iter1 env x = pure x := by intro _ _; rfl) :
    DE X Wx (.ListComp elt [⟨tg, iter, ifs, 0⟩, ⟨tg1, iter1, ifs1, 0⟩] scope pos) (mLc2 (own.map (·.2)) vs1 mi g mt mi1 g1 mt1 me) :=
  PE.wk (pe_lc2 (g := rdG X.K is g) (tt := rdT X WF mt) (wi1 := rdI X WF mi1) (g1 := rdG X.K is1 g1) (tt1 := rdT X WF mt1) (te := rdE X WF me) hc hN hi ok h01 (fun s H C cl fp => hg s H C cl fp) (fun s H C cl fp => ht s H C cl fp) (fun s H C cl fp => hi1 s H C cl fp) (fun s H C cl fp => hg1 s H C cl fp)
    (fun s H C cl fp => ht1 s H C cl fp) (fun s H C cl fp => he s H C cl fp) hs hs1) fun _ _ _ h => rd_lc2 hv hv1 h01 h
end
end VS

/-! VP: rules as the printed texts take them. -/
namespace VS
open PySem PySem.Spec PyProof.Rows L2

/-- a def of the module that keeps its promise -/
def HasD (P : Program) (w : World) (K : PySem.W.Frag) (mg : Str → Option Value) (base : Heap) (x : Str) (k : Nat) (ps : List Str) (sp : Sp) : Prop := ∃ f fd, FnG P w K mg base k f fd ps sp ∧ mg x = some (.ref f) ∧ PySem.W.keepIn K (.ref f) = true ∧ Binds K fd ps []
/-- a def, as it stands -/
def DefT (K : PySem.W.Frag) (mg : Str → Option Value) (x : Str) (st : Stmt) : Prop := ∃ f fd, FunD K x x (defArgs st) (defBody st) (defScope st) [] [] f fd ∧ mg x = some (.ref f)
/-- an exception class of one's own -/
def ExcT (K : PySem.W.Frag) (mg : Str → Option Value) (x : Str) : Prop := ∃ C, mg x = some (.ref C) ∧ PySem.W.excIn K C He.veBase "ValueError.__new__" = true ∧ PySem.W.keepIn K (.ref C) = true ∧ PySem.W.subIn K (.ref C) (.type "BaseException") = some true ∧ PySem.W.typeIn K (.ref C) = some (.type "type")
theorem room_u {k : Nat} {A : Around} (h : Room k A) : A.units + 120 < cLine := by have := h.un; omega
abbrev BindF (x : Str) (st : Stmt) (ps : List Str) : Prop := ∀ (kV doc pm : Value) (an : Option Addr) (cdv ct : Value) (us : List Value), us.length = ps.length → bindArgs (PySem.W.fnOf x x (defArgs st) (defBody st) (defScope st) .none kV doc pm an cdv ct) { pos := us } = pure (ps.zip us)
section
variable {P : Program} {w : World} {K : PySem.W.Frag} {mg : Str → Option Value} {base : Heap} {x : Str} {st : Stmt} {k n m : Nat} {N ps : List Str} {mb : M Flw}
theorem has0 (T : DefT K mg x st) (S : FnScope N ps (defScope st)) (hl : ps.length = n) (hm : N.length = n + m) (hbind : BindF x st ps)
    (hbody : ∀ (f : Addr) (cdv : Value) (A : Around) (outer : List PySem.Env) (s : Shared) (H : Hp) (E : XK), Room k (A.deeper (envOfC x (defScope st) s.heap.objs.size f cdv)) → A.guards = some [] →
      DSs (cxOf (L2.CX P w) P w K mg base N x (defScope st) f cdv A outer s H E) (fun cls d _ H => E cls d H) (defBody st) mb) : HasD P w K mg base x (k + 1) ps (Prom0 K mg n (run0 n m mb)) := by
  obtain ⟨f, fd, F, g⟩ := T
  exact ⟨f, fd, fn0 F S hl hm (hbody f), g, F.kp, F.bindsN hbind⟩
theorem has1 (T : DefT K mg x st) (S : FnScope N ps (defScope st)) (hl : ps.length = n) (hm : N.length = n + m) (hbind : BindF x st ps)
    (hbody : ∀ (f : Addr) (cdv : Value) (A : Around) (outer : List PySem.Env) (s : Shared) (H : Hp) (E : XK), Room k (A.deeper (envOfC x (defScope st) s.heap.objs.size f cdv)) → A.guards = some [] →
      DSs (cxOf (L2.CX P w) P w K mg base N x (defScope st) f cdv A outer s H E) (fun cls d _ H => E cls d H) (defBody st) mb) : HasD P w K mg base x (k + 1) ps (Prom1 K mg n (run1 n m mb)) := by
  obtain ⟨f, fd, F, g⟩ := T
  exact ⟨f, fd, fn1 F S hl hm (hbody f), g, F.kp, F.bindsN hbind⟩
end
theorem u0 {A : Around} (u : A.units + 120 < cLine) : A.units < cLine := by omega
theorem u1 {A : Around} (u : A.units + 120 < cLine) : A.units + 1 < cLine := by omega
section
variable {X : Cx} {Wx : WX}
theorem de_c0 {F : List D → FR} {kk k k' : Nat} {ps : List Str} {x : Str} {p pos : Pos} {e : Expr} {es : List Expr} {n : M (List Val)} (h : HasD X.prog X.w X.K X.mg X.base x k ps (Prom0 X.K X.mg kk F)) (tk : Takes X Wx) (hr : Room k' X.A) (hk : k ≤ k') (hgd : X.A.guards = some [])
    (ha : DA X Wx (e :: es) n) (hlen : ∀ e as e', n e = .ok as e' → as.length = kk) (hg : Gl X x := by rfl) (hdb : (x == ("__debug__" : Str)) = false := by decide)
    (he : starEach (e :: es) X.env = (false, eval e X.env) :: starEach es X.env := by rfl) (hpl : (backTo pos (starEach es X.env)).any (·.1) = false := by rfl) : DE X Wx (.Call (.Name x p) (e :: es) [] pos) (mCall0 F n) := by
  obtain ⟨f, fd, Fn, hm, kp, hb⟩ := h
  exact de_call0 tk Fn (hr.mono hk) hgd hg hm kp hb ha hlen hdb he hpl
theorem de_c1 {F : List D → FR} {kk k k' : Nat} {ps : List Str} {x : Str} {p pos : Pos} {e : Expr} {es : List Expr} {n : M (List Val)} (h : HasD X.prog X.w X.K X.mg X.base x k ps (Prom1 X.K X.mg kk F)) (tk : Takes X Wx) (hr : Room k' X.A) (hk : k ≤ k') (hgd : X.A.guards = some [])
    (ha : DA X Wx (e :: es) n) (hlen : ∀ e as e', n e = .ok as e' → as.length = kk) (hg : Gl X x := by rfl) (hdb : (x == ("__debug__" : Str)) = false := by decide)
    (he : starEach (e :: es) X.env = (false, eval e X.env) :: starEach es X.env := by rfl) (hpl : (backTo pos (starEach es X.env)).any (·.1) = false := by rfl) : DE X Wx (.Call (.Name x p) (e :: es) [] pos) (mCall1 F n) := by
  obtain ⟨f, fd, Fn, hm, kp, hb⟩ := h
  exact de_call1 tk Fn (hr.mono hk) hgd hg hm kp hb ha hlen hdb he hpl
theorem ds_raiseT {x : Str} {p pos pos' : Pos} (T : ExcT X.K X.mg x) (tk : Takes X Wx) (hc : X.calm = true) (hg : Gl X x := by rfl) (hdb : (x == ("__debug__" : Str)) = false := by decide) : DS X Wx (.Raise (some (.Call (.Name x p) [] [] pos)) none pos') (sRaise { nm := x }) := by
  obtain ⟨C, h1, h2, h3, h4, h5⟩ := T
  exact ds_raise0 hc tk h2 h1 h3 h4 h5 hg hdb
theorem opr_eqU (u : X.A.units + 120 < cLine) : OpR X (compareOp .Eq) (rEqD X.K) := op_eqD (by omega)
theorem opr_neU (u : X.A.units + 120 < cLine) : OpR X (compareOp .NotEq) (rNeD X.K) := op_neD (by omega)
theorem opr_inU (u : X.A.units + 120 < cLine) : OpR X (compareOp .In) (rInA X.K) := opr_in (by omega)
theorem opr_notInU (u : X.A.units + 120 < cLine) : OpR X (compareOp .NotIn) (rNotInA X.K) := opr_notIn (by omega)
theorem cr_reprU (hg : X.A.guards = some []) (u : X.A.units + 120 < cLine) : CallR X (.builtin "repr") (rRepr X.K) := cr_repr hg (by omega)
theorem cr_sortU (u : X.A.units + 120 < cLine) : CallR X (.builtin "sorted") (rSortD X.K) := cr_sortD (by omega)
/-! ### targets apart from any expression -/
def sUnp (g : D → Env → Option Env) (m : M Val) : M Flw := M.bind m fun a e => match esc e a with
  | some (d, e1) => match g d e1 with
    | some e2 => .ok .nx e2
    | none => .no
  | none => .no
theorem ds_unp {tg e : Expr} {is : List Nat} {g : D → Env → Option Env} {m : M Val} {pos : Pos} (he : DE X Wx e m) (hg : DG X tg is g) (hs : swapsWithSole [tg] e pos.line X.env = pure false := by rfl) (hw : swappedStores [tg] e X.env = pure none := by rfl)
    (h1 : (assignEach [tg] X.env).map (·.2) = [assign tg X.env] := by rfl) : DS X Wx (.Assign [tg] e pos) (sUnp g m) := PS.wk (ps_asg he hg hs hw h1) (by
  rintro Dn σ H ⟨fg, la, W, e, rl, h⟩
  refine ⟨fg, la, W, e, rl, (PostS.bind h).mono fun W1 H1 e1 a s1 r1 h1 v hv => ?_⟩
  cases q : esc e1 a with
  | none => rw [q] at h1; exact (show False from h1).elim
  | some pr =>
    obtain ⟨d, e2⟩ := pr
    rw [q] at h1
    simp only at h1
    obtain ⟨W2, s2, r2, rv⟩ := esc_ok r1 hv q
    cases q2 : g d e2 with
    | none => rw [q2] at h1; exact (show False from h1).elim
    | some e3 =>
      rw [q2] at h1
      exact ⟨fg, la, W2, e2, d, e3, r2, rv, q2, fun σ' _ _ r' => (show ∀ W' H' σ', Sub W1 W' → Rel X.K fg la W' H' σ' e3 → Dn.nx σ' H' from h1) W2 H1 σ' s2 r'⟩)
/-! ### sorted, of a dict's keys too -/
def intKeys : List (D × D) → Option (List Int) := fun l => intsOf (l.map (·.1))
def fSortK (ds : List D) : Option Val := match ds with
  | [.dct false l] => (intKeys l).bind fun ks => if ks.length < 64 then some (.ow (.lst ((ks.mergeSort).map .int))) else none
  | _ => none
noncomputable def fSortA (ds : List D) : Option Val := match fSortK ds with
  | some a => some a
  | none => fSort ds
abbrev rSortDI : List V → Hp → VK → Prop := fun xs H Q => ∃ a kvs ks, xs = [V.ref a] ∧ Rd H a (.dK kvs) ∧ kvs.map (fun x => x.fst) = ks.map Sum.inl ∧ ks.length < 64 ∧ ∀ (ys : List Int) (p : Addr), ys.Perm ks → List.Pairwise (fun x1 x2 => x1 ≤ x2) ys → H p = none → Q (V.ref p) (upd H p (.lst (ys.map V.int)))
theorem keys_ints {K : PySem.W.Frag} {W : Hp} : ∀ {kvs : List (Key × V)} {l : List (D × D)} {ks : List Int}, RepsK K W kvs l → intKeys l = some ks → kvs.map (fun x => x.fst) = ks.map Sum.inl
  | [], _, ks, h, e => by cases h; cases e; rfl
  | p :: kvs, _, ks, h, e => by
    cases h with
    | @cons k v _ d l r t =>
      unfold intKeys at e
      rw [List.map_cons] at e
      cases k with
      | inl z =>
        unfold intsOf at e
        cases q : intsOf (l.map (·.1)) with
        | none => simp only [kD] at e; rw [q] at e; cases e
        | some ms =>
          simp only [kD] at e
          rw [q] at e
          cases e
          rw [List.map_cons, List.map_cons, keys_ints t q]
      | inr z => cases e
theorem cd_sortA {K : PySem.W.Frag} : CallD K (fun xs H Q => rSortDI xs H Q ∨ rSortD K xs H Q) fSortA := by
  intro W H vs ds a Q s h e q
  unfold fSortA at e
  split at e
  · rename_i a' z
    cases e
    unfold fSortK at z
    split at z
    · rename_i l
      cases z2 : intKeys l with
      | none => rw [z2] at z; cases z
      | some ks =>
        rw [z2, Option.bind_some] at z
        split at z
        · rename_i c
          cases z
          obtain ⟨v, rfl, r⟩ := h.one
          obtain ⟨p, rfl, cc⟩ := repO_dct s r
          rcases cc with ⟨_, kvs, h1, h2⟩ | ⟨z, _⟩
          · refine .inl ⟨p, kvs, ks, rfl, h1, keys_ints h2 z2, c, fun ys n hp hs hn => ?_⟩
            have e : ys = ks.mergeSort := by
              refine List.Perm.eq_of_pairwise (le := fun a b => a ≤ b) (fun a b _ _ h1 h2 => Int.le_antisymm h1 h2) hs ?_ (hp.trans (List.mergeSort_perm ks _).symm)
              have := List.pairwise_mergeSort (le := fun a b : Int => decide (a ≤ b)) (fun a b c h1 h2 => by simp at *; omega) (fun a b => by simp; omega) ks
              exact this.imp fun h => by simpa using h
            obtain ⟨t, nv⟩ := newV_ow (K := K) s hn (reps_ints ys)
            subst e
            exact q _ _ _ t nv
          · cases z
        · cases z
    · cases z
  · exact .inr (cd_sort W H vs ds a Q s h e q)
theorem cr_sortA (hc : X.calm = true) (u : X.A.units + 120 < cLine) : CallR X (.builtin "sorted") (fun xs H Q => rSortDI xs H Q ∨ rSortD X.K xs H Q) := CallR.or (call_sortedDI hc) (cr_sortU u)
/-! ### the same with what follows from the text last -/
theorem w_range1 {tg a : Expr} {n : M (List Val)} {p pos : Pos} (hm : X.mg "range" = none) (ha : DA X Wx [a] n) (hg : Gl X "range" := by rfl) (hs : starEach [a] X.env = [(false, eval a X.env)] := by rfl) : DI X Wx tg (.Call (.Name "range" p) [a] [] pos) (mR1 n) := di_range1 hg hm ha hs
theorem w_range2 {tg a b : Expr} {n : M (List Val)} {p pos : Pos} (hm : X.mg "range" = none) (ha : DA X Wx [a, b] n) (hg : Gl X "range" := by rfl) (hs : starEach [a, b] X.env = [(false, eval a X.env), (false, eval b X.env)] := by rfl) (hs2 : starEach [b] X.env = [(false, eval b X.env)] := by rfl) :
    DI X Wx tg (.Call (.Name "range" p) [a, b] [] pos) (mR2 n) := di_range2 hg hm ha hs hs2
theorem w_callB {f : List D → Option Val} {r : List V → Hp → VK → Prop} {id : String} {x : Str} {p pos : Pos} {e : Expr} {es : List Expr} {n : M (List Val)} (hc : CallR X (.builtin id) r) (hd : CallD X.K r f) (hm : X.mg x = none) (ha : DA X Wx (e :: es) n) (hg : Gl X x := by rfl) (hv : bootBuiltins x = some (.builtin id) := by rfl)
    (hn : x ≠ "__name__" := by decide) (hdb : (x == ("__debug__" : Str)) = false := by decide)
    (he : starEach (e :: es) X.env = (false, eval e X.env) :: starEach es X.env := by rfl) (hpl : (backTo pos (starEach es X.env)).any (·.1) = false := by rfl) : DE X Wx (.Call (.Name x p) (e :: es) [] pos) (mCB f n) := de_callB hc hd hg hm hv ha hn hdb he hpl
theorem w_callTy {f : List D → Option Val} {r : List V → Hp → VK → Prop} {T : String} {x : Str} {p pos : Pos} {e : Expr} {es : List Expr} {n : M (List Val)} (hc : CallR X (.type T) r) (hd : CallD X.K r f) (hm : X.mg x = none) (ha : DA X Wx (e :: es) n) (hg : Gl X x := by rfl) (hv : bootBuiltins x = some (.type T) := by rfl)
    (hn : x ≠ "__name__" := by decide) (hdb : (x == ("__debug__" : Str)) = false := by decide)
    (he : starEach (e :: es) X.env = (false, eval e X.env) :: starEach es X.env := by rfl) (hpl : (backTo pos (starEach es X.env)).any (·.1) = false := by rfl) : DE X Wx (.Call (.Name x p) (e :: es) [] pos) (mCB f n) := de_callTy hc hd hg hm hv ha hn hdb he hpl
theorem w_gint {x : Str} {i : Int} {pos : Pos} (hm : ∃ t, X.mg x = some (.int i t)) (hg : Gl X x := by rfl) (hd : (x == ("__debug__" : Str)) = false := by decide) : DE X Wx (.Name x pos) (mC (.int i)) := d_gint hg hm hd
theorem w_ty {x : Str} {T : String} {pos : Pos} (hm : X.mg x = none) (hg : Gl X x := by rfl) (hv : bootBuiltins x = some (.type T) := by rfl) (hn : x ≠ "__name__" := by decide) (hd : (x == ("__debug__" : Str)) = false := by decide) : DE X Wx (.Name x pos) (mC (.op (.ty T))) := d_bltn hg hm hv rfl hn hd
theorem w_name (i : Nat) {x : Str} {pos : Pos} (hN : X.N.Nodup) (hi : X.N[i]? = some x := by rfl) (hx : Loc X.env.scope x := by first | exact Or.inl rfl | exact Or.inr rfl) (hf : X.fn x = true ∨ X.env.scope.names.lookup x = some .local := by first | exact .inl rfl | exact .inr rfl) : DG X (.Name x pos) [i] (gN i) := dg_name hN hi hx hf
theorem w_tup {es : List Expr} {k : Nat} {is : List Nat} {gs : List D → Env → Option Env} {pos : Pos} (n : Nat) (h : DGs X es is gs) (hl : ∀ ds e e', gs ds e = some e' → ds.length = n) (hc : X.calm = true := by rfl) (hn : (assignEach es X.env).length = n := by rfl) (hst : (assignEach es X.env).findIdx? (·.1) = none := by rfl) :
    DG X (.Tuple es k pos) is (gT gs) := dg_tup n hc h hn hst hl
theorem w_set (i : Nat) {x : Str} {e : Expr} {m : M Val} {pos' pos : Pos} (hN : X.N.Nodup) (he : DE X Wx e m) (hi : X.N[i]? = some x := by rfl) (hx : Loc X.env.scope x := by first | exact Or.inl rfl | exact Or.inr rfl) (hs : swapsWith e (some (.Name x pos')) pos.line X.env = pure false := by rfl)
    (hf : X.fn x = true ∨ X.env.scope.names.lookup x = some .local := by first | exact .inl rfl | exact .inr rfl) : DS X Wx (.Assign [.Name x pos'] e pos) (sSet i m) := ds_set hN hi hx he hs hf
theorem w_pg (i : Nat) {x : Str} {pos : Pos} (hN : X.N.Nodup) (hi : X.N[i]? = some x := by rfl) (hx : Loc X.env.scope x := by first | exact Or.inl rfl | exact Or.inr rfl) (hf : X.fn x = true ∨ X.env.scope.names.lookup x = some .local := by first | exact .inl rfl | exact .inr rfl) : PG X (.Name x pos) (gName i) := pg_name hN hi hx hf
theorem w_lc {elt tg iter : Expr} {ifs : List Expr} {scope : Scope} (own : List (Str × Nat)) {is : List Nat} {pos : Pos} {mi : M (List D)} {g : D → Env → Option Env} {mt : M Bool} {me : M Val} (hN : X.N.Nodup) (hi : DI X Wx tg iter mi)
    (hg : Blk X scope fun Y => DG Y tg is g) (ht : Blk X scope fun Y => DTs Y WF ifs mt) (he : Blk X scope fun Y => DE Y WF elt me) (ok : blkC X.N X.env.scope scope own = true := by rfl) (hv : ∀ j ∈ is, j ∈ own.map (·.2) := by decide) (hc : X.calm = true := by rfl) (hs : ∀ x, foldedSetIterable iter X.env x = pure x := by intro _; rfl) :
    DE X Wx (.ListComp elt [⟨tg, iter, ifs, 0⟩] scope pos) (mLc (own.map (·.2)) mi g mt me) := de_lc hc hN hi (blkOk_by ok) hg ht he hv hs
theorem w_lcN (i : Nat) {x : Str} {px : Pos} {elt tg : Expr} {ifs : List Expr} {scope : Scope} (own : List (Str × Nat)) {is : List Nat} {pos : Pos} {g : D → Env → Option Env} {mt : M Bool} {me : M Val} (hN : X.N.Nodup) (hx : PE X (.Name x px) (tVar i)) (hi : DE X Wx (.Name x px) (mVar i))
    (hg : Blk X scope fun Y => DG Y tg is g) (ht : Blk X scope fun Y => DTs Y WF ifs mt) (he : Blk X scope fun Y => DE Y WF elt me) (ok : blkC X.N X.env.scope scope own = true := by rfl) (hv : ∀ j ∈ is, j ∈ own.map (·.2) := by decide) (hc : X.calm = true := by rfl) (hs : ∀ y, foldedSetIterable (.Name x px) X.env y = pure y := by intro _; rfl) :
    DE X Wx (.ListComp elt [⟨tg, .Name x px, ifs, 0⟩] scope pos) (mLc (own.map (·.2)) (mAny i) g mt me) := de_lcN hc hN hx hi (blkOk_by ok) hg ht he hv hs
theorem w_lc2 {elt tg iter tg1 iter1 : Expr} {ifs ifs1 : List Expr} {scope : Scope} (own : List (Str × Nat)) (vs1 : List Nat) {is is1 : List Nat} {pos : Pos} {mi : M (List D)} {g : D → Env → Option Env} {mt : M Bool} {mi1 : M (List D)} {g1 : D → Env → Option Env} {mt1 : M Bool} {me : M Val} (hN : X.N.Nodup) (hi : DI X Wx tg iter mi)
    (hg : Blk X scope fun Y => DG Y tg is g) (ht : Blk X scope fun Y => DTs Y WF ifs mt) (hi1 : Blk X scope fun Y => DI Y WF tg1 iter1 mi1) (hg1 : Blk X scope fun Y => DG Y tg1 is1 g1) (ht1 : Blk X scope fun Y => DTs Y WF ifs1 mt1) (he : Blk X scope fun Y => DE Y WF elt me)
    (ok : blkC X.N X.env.scope scope own = true := by rfl) (hv : ∀ j ∈ is, j ∈ own.map (·.2) := by decide) (hv1 : ∀ j ∈ is1, j ∈ vs1 := by decide) (h01 : ∀ j ∈ vs1, j ∈ own.map (·.2) := by decide) (hc : X.calm = true := by rfl) (hs : ∀ x, foldedSetIterable iter X.env x = pure x := by intro _; rfl) (hs1 : ∀ env x, foldedSetIterable iter1 env x = pure x := by intro _ _; rfl) :
    DE X Wx (.ListComp elt [⟨tg, iter, ifs, 0⟩, ⟨tg1, iter1, ifs1, 0⟩] scope pos) (mLc2 (own.map (·.2)) vs1 mi g mt mi1 g1 mt1 me) := de_lc2 hc hN hi (blkOk_by ok) hg ht hi1 hg1 ht1 he hv hv1 h01 hs hs1
theorem w_dc (t : Bool) {kx vx tg iter : Expr} {ifs : List Expr} {scope : Scope} (own : List (Str × Nat)) {is : List Nat} {pos : Pos} {mi : M (List D)} {g : D → Env → Option Env} {mt : M Bool} {mk me : M Val} (hu : X.A.units + 120 < cLine) (hN : X.N.Nodup) (hi : DI X Wx tg iter mi)
    (hg : Blk X scope fun Y => DG Y tg is g) (ht : Blk X scope fun Y => DTs Y WF ifs mt) (hk : Blk X scope fun Y => DE Y WF kx mk) (he : Blk X scope fun Y => DE Y WF vx me) (ok : blkC X.N X.env.scope scope own = true := by rfl) (hv : ∀ j ∈ is, j ∈ own.map (·.2) := by decide) (hc : X.calm = true := by rfl) (hs : ∀ x, foldedSetIterable iter X.env x = pure x := by intro _; rfl) :
    DE X Wx (.DictComp kx vx [⟨tg, iter, ifs, 0⟩] scope pos) (mDc t (own.map (·.2)) mi g mt mk me) := de_dc (u0 hu) hc hN hi (blkOk_by ok) hg ht hk he hv hs
theorem w_setLc (i : Nat) {y : Str} {py : Pos} {elt tg iter : Expr} {ifs : List Expr} {scope : Scope} (own : List (Str × Nat)) {is : List Nat} {pos spos : Pos} {mi : M (List D)} {g : D → Env → Option Env} {mt : M Bool} {me : M Val} (hN : X.N.Nodup) (hi : DI X Wx tg iter mi)
    (hg : Blk X scope fun Y => DG Y tg is g) (ht : Blk X scope fun Y => DTs Y WF ifs mt) (he : Blk X scope fun Y => DE Y WF elt me) (hy : X.N[i]? = some y := by rfl) (hyl : X.env.scope.names.lookup y = some .local := by rfl)
    (hsw : swapsWith (.ListComp elt [⟨tg, iter, ifs, 0⟩] scope pos) (some (.Name y py)) spos.line X.env = pure true := by rfl) (ok : blkC X.N X.env.scope scope own = true := by rfl) (hv : ∀ j ∈ is, j ∈ own.map (·.2) := by decide) (hc : X.calm = true := by rfl) (hs : ∀ x, foldedSetIterable iter X.env x = pure x := by intro _; rfl) :
    DS X Wx (.Assign [.Name y py] (.ListComp elt [⟨tg, iter, ifs, 0⟩] scope pos) spos) (sSet i (mLc (own.map (·.2)) mi g mt me)) := ds_setLc hc hN hy hyl hsw hi (blkOk_by ok) hg ht he hv hs
theorem w_mut (i : Nat) {x name : Str} {id : String} {r : V → List V → Hp → VK → Prop} {f : List D → List D → Option (D × List D)} {e : Expr} {es : List Expr} {n : M (List Val)} {px apos cpos : Pos} (slot : Slot "list" name id) (hm : MtR X id r) (hd : MutD X.K r f) (ho : PE X (.Name x px) (tVar i)) (ha : DA X Wx (e :: es) n)
    (hty : typeOf (.builtin id) = pure (.type "method_descriptor") := by rfl) (hbase : attributeBase (.Name x px) name X.env (eval (.Name x px) X.env) = eval (.Name x px) X.env := by rfl)
    (hfew : ((backTo cpos (starEach (e :: es) X.env)).all (fun x => !x.1) && (backToKw cpos (keywordEach [] X.env)).all (fun x => x.1.isSome)
      && decide ((e :: es).length + ([] : List Keyword).length + (if ([] : List Keyword).isEmpty then 0 else 1) < 30)) = true := by rfl)
    (hline : (apos.endLine == cpos.line) = true := by rfl) (hs : starEach (e :: es) X.env = (false, eval e X.env) :: starEach es X.env := by rfl) (hplain : (backTo cpos (starEach es X.env)).any (·.1) = false := by rfl) : DE X Wx (.Call (.Attribute (.Name x px) name apos) (e :: es) [] cpos) (mMut i f n) := de_mut slot hty hm hd ho ha hbase hfew hline hs hplain
theorem w_par2 (i j : Nat) {x y : Str} {a b : Expr} {n : M (List Val)} {px py pt pos : Pos} {kt k2 pt2} (hN : X.N.Nodup) (ha : DA X Wx [a, b] n) (hi : X.N[i]? = some x := by rfl) (hj : X.N[j]? = some y := by rfl) (hij : i ≠ j := by decide)
    (hx : X.env.scope.names.lookup x = some .local := by rfl) (hy : X.env.scope.names.lookup y = some .local := by rfl)
    (hw : swappedStores [.Tuple [.Name x px, .Name y py] kt pt] (.Tuple [a, b] k2 pt2) X.env = pure (some [x, y]) := by rfl)
    (hs : swapsWithSole [.Tuple [.Name x px, .Name y py] kt pt] (.Tuple [a, b] k2 pt2) pos.line X.env = pure false := by rfl) (hc : X.calm = true := by rfl) : DS X Wx (.Assign [.Tuple [.Name x px, .Name y py] kt pt] (.Tuple [a, b] k2 pt2) pos) (sPar [i, j] n) := ds_par hc hN hi hj hij hx hy ha hw hs
end
end VS

/-! VQ: reckoning with denotations. -/
namespace VS
open PySem PySem.Spec PyProof.Rows L2

/-! ### loops -/
theorem forL_ok {g : D → Env → Option Env} {b : M Flw} (I : List D → Env → Prop) (h : ∀ d ds e, I (d :: ds) e → ∃ e1 e2, g d e = some e1 ∧ b e1 = .ok .nx e2 ∧ I ds e2) : ∀ ds e, I ds e → ∃ e', forL g b ds e = .ok .nx e' ∧ I [] e'
  | [], e, i => ⟨e, rfl, i⟩
  | d :: ds, e, i => by
    obtain ⟨e1, e2, h1, h2, h3⟩ := h d ds e i
    obtain ⟨e', h4, h5⟩ := forL_ok I h ds e2 h3
    exact ⟨e', by simp only [forL, h1, h2, h4], h5⟩
/-- the loop ends within by a value or by its end -/
theorem lcL_ok {vs : List Nat} {g : D → Env → Option Env} {mt : M Bool} {me : M Val} (I : List D → List D → Env → Prop)
    (h : ∀ d ds acc e, I (d :: ds) acc e → ∃ e1 e2, g d e = some e1 ∧ ((∃ a e3 x e4, mt e1 = .ok true e2 ∧ me e2 = .ok a e3 ∧ esc e3 a = some (x, e4) ∧ acc.length < 1000000 ∧ I ds (acc ++ [x]) (wipeE e4 vs)) ∨ (mt e1 = .ok false e2 ∧ I ds acc (wipeE e2 vs)))) :
    ∀ ds acc e, I ds acc e → ∃ acc' e', lcL vs g mt me ds acc e = some (acc', e') ∧ I [] acc' e'
  | [], acc, e, i => ⟨acc, e, rfl, i⟩
  | d :: ds, acc, e, i => by
    obtain ⟨e1, e2, h1, c⟩ := h d ds acc e i
    rcases c with ⟨a, e3, x, e4, c1, c2, c3, c4, c5⟩ | ⟨c1, c2⟩
    · obtain ⟨acc', e', h4, h5⟩ := lcL_ok I h ds _ _ c5
      exact ⟨acc', e', by simp only [lcL, h1, c1, c2, c3, if_pos c4, h4], h5⟩
    · obtain ⟨acc', e', h4, h5⟩ := lcL_ok I h ds _ _ c2
      exact ⟨acc', e', by simp only [lcL, h1, c1, h4], h5⟩
/-- each item gives one, the names stay -/
theorem lcL_map {vs : List Nat} {g : D → Env → Option Env} {me : M Val} {e : Env} (f : D → D) : ∀ (ds acc : List D), (∀ d ∈ ds, ∃ e1 a e3 e4, g d e = some e1 ∧ me e1 = .ok a e3 ∧ esc e3 a = some (f d, e4) ∧ wipeE e4 vs = e) → acc.length + ds.length ≤ 1000000 →
    lcL vs g (M.ret true) me ds acc e = some (acc ++ ds.map f, e)
  | [], acc, _, _ => by simp [lcL]
  | d :: ds, acc, h, hl => by
    obtain ⟨e1, a, e3, e4, h1, h2, h3, h4⟩ := h d List.mem_cons_self
    have := lcL_map f ds (acc ++ [f d]) (fun x m => h x (List.mem_cons_of_mem _ m)) (by simp only [List.length_append, List.length_cons, List.length_nil] at hl ⊢; omega)
    rw [List.length_cons] at hl
    simp only [lcL, h1, M.ret, h2, h3, if_pos (show acc.length < 1000000 by omega), h4, this, List.map_cons, List.append_assoc, List.singleton_append]
/-- the items of which the test holds, each gives one -/
theorem lcL_fil {vs : List Nat} {g : D → Env → Option Env} {mt : M Bool} {me : M Val} {e : Env} (p : D → Bool) (f : D → D) : ∀ (ds acc : List D), (∀ d ∈ ds, ∃ e1 e2, g d e = some e1 ∧ mt e1 = .ok (p d) e2 ∧ (p d = false → wipeE e2 vs = e) ∧ (p d = true → ∃ a e3 e4, me e2 = .ok a e3 ∧ esc e3 a = some (f d, e4) ∧ wipeE e4 vs = e)) →
    acc.length + ds.length ≤ 1000000 → lcL vs g mt me ds acc e = some (acc ++ (ds.filter p).map f, e)
  | [], acc, _, _ => by simp [lcL]
  | d :: ds, acc, h, hl => by
    obtain ⟨e1, e2, h1, h2, h3, h4⟩ := h d List.mem_cons_self
    rw [List.length_cons] at hl
    cases q : p d with
    | false =>
      rw [q] at h2
      have := lcL_fil p f ds acc (fun x m => h x (List.mem_cons_of_mem _ m)) (by omega)
      simp only [lcL, h1, h2, h3 q, this, List.filter_cons, q, Bool.false_eq_true, if_false]
    | true =>
      rw [q] at h2
      obtain ⟨a, e3, e4, k1, k2, k3⟩ := h4 q
      have := lcL_fil p f ds (acc ++ [f d]) (fun x m => h x (List.mem_cons_of_mem _ m)) (by simp only [List.length_append, List.length_cons, List.length_nil] at hl ⊢; omega)
      simp only [lcL, h1, h2, k1, k2, if_pos (show acc.length < 1000000 by omega), k3, this, List.filter_cons, q, if_true, List.map_cons, List.append_assoc, List.singleton_append]
/-! ### keys -/
def kk (t : Bool) (d : D) : Option (List Key) := match t with
  | false => (keyK d).map fun k => [k]
  | true => keyT d
theorem putD2_new {t : Bool} {l : List (D × D)} {k v : D} (h1 : (kk t k).isSome = true) (h2 : ∀ p ∈ l, kk t p.1 ≠ kk t k) : putD2 t l k v = some (l ++ [(k, v)]) := by
  cases t with
  | false =>
    unfold putD2
    simp only
    cases q : keyK k with
    | none => unfold kk at h1; rw [q] at h1; cases h1
    | some kq =>
      rw [Option.map_some]
      unfold putL
      rw [if_neg]
      intro z
      obtain ⟨p, m, e⟩ := List.any_eq_true.mp z
      refine h2 p m ?_
      unfold kk
      rw [of_decide_eq_true e, q]
  | true =>
    unfold putD2
    simp only
    cases q : keyT k with
    | none => unfold kk at h1; rw [q] at h1; cases h1
    | some kq =>
      rw [Option.map_some]
      unfold putL
      rw [if_neg]
      intro z
      obtain ⟨p, m, e⟩ := List.any_eq_true.mp z
      refine h2 p m ?_
      unfold kk
      rw [of_decide_eq_true e, q]
theorem dcL_new {t : Bool} {vs : List Nat} {g : D → Env → Option Env} {mk me : M Val} {e : Env} (k v : D → D) : ∀ (ds : List D) (acc : List (D × D)), (∀ d ∈ ds, ∃ e1 a e3 e4 b e5 e6, g d e = some e1 ∧ mk e1 = .ok a e3 ∧ esc e3 a = some (k d, e4) ∧ me e4 = .ok b e5 ∧ esc e5 b = some (v d, e6) ∧ wipeE e6 vs = e) →
    (∀ d ∈ ds, (kk t (k d)).isSome = true) → (acc.map (fun p => kk t p.1) ++ ds.map (fun d => kk t (k d))).Nodup → acc.length + ds.length ≤ 1000000 → dcL t vs g (M.ret true) mk me ds acc e = some (acc ++ ds.map (fun d => (k d, v d)), e)
  | [], acc, _, _, _, _ => by simp [dcL]
  | d :: ds, acc, h, hk, hn, hl => by
    obtain ⟨e1, a, e3, e4, b, e5, e6, h1, h2, h3, h4, h5, h6⟩ := h d List.mem_cons_self
    rw [List.length_cons] at hl
    have new : putD2 t acc (k d) (v d) = some (acc ++ [(k d, v d)]) := by
      refine putD2_new (hk d List.mem_cons_self) fun p m z => ?_
      rw [List.map_cons] at hn
      have := (List.nodup_append.mp hn).2.2 (kk t p.1) (List.mem_map_of_mem m) (kk t (k d)) List.mem_cons_self
      exact this z
    have rest := dcL_new (vs := vs) (g := g) (mk := mk) (me := me) (e := e) k v ds (acc ++ [(k d, v d)]) (fun x m => h x (List.mem_cons_of_mem _ m)) (fun x m => hk x (List.mem_cons_of_mem _ m))
      (by rw [List.map_append, List.map_cons, List.map_nil, List.append_assoc]; simpa using hn) (by simp only [List.length_append, List.length_cons, List.length_nil]; omega)
    simp only [dcL, h1, M.ret, h2, h3, h4, h5, if_pos (show acc.length < 1000000 by omega), new, h6, rest, List.map_cons, List.append_assoc, List.singleton_append]
/-! ### lists of truth values -/
theorem blsOf_all {α : Type} (f : α → Bool) : ∀ xs : List α, blsOf (xs.map fun x => D.bl (f x)) = some (xs.map f)
  | [] => rfl
  | x :: xs => by rw [List.map_cons, blsOf, blsOf_all f xs]; rfl
theorem fAll_true {α : Type} (xs : List α) {f : α → D} (h : ∀ x ∈ xs, f x = .bl true) : fAll [.lst (xs.map f)] = some (.sh (.bl true)) := by
  rw [List.map_congr_left (g := fun x => D.bl ((fun _ => true) x)) h]
  simp [fAll, oneBls, lstD, blsOf_all]
theorem intsOf_of {α : Type} (f : α → Int) : ∀ xs : List α, intsOf (xs.map fun x => D.int (f x)) = some (xs.map f)
  | [] => rfl
  | x :: xs => by rw [List.map_cons, intsOf, intsOf_of f xs]; rfl
/-! ### while -/
theorem while_ok {c : M Bool} {b : M Flw} (I : Nat → Env → Prop) (h : ∀ n e, I n e → (∃ e1 e2 m, c e = .ok true e1 ∧ b e1 = .ok .nx e2 ∧ m < n ∧ I m e2) ∨ (∃ e1, c e = .ok false e1 ∧ I 0 e1)) : ∀ (N n : Nat) (e : Env), I n e → n < N → ∃ e' m, whileN c b N e = .ok .nx e' ∧ I m e' ∧ m = 0
  | 0, n, e, i, l => by omega
  | N + 1, n, e, i, l => by
    rcases h n e i with ⟨e1, e2, m, h1, h2, h3, h4⟩ | ⟨e1, h1, h2⟩
    · obtain ⟨e', m', k1, k2, k3⟩ := while_ok I h N m e2 h4 (by omega)
      exact ⟨e', m', by simp only [whileN, M.bind, h1, if_true, h2, k1], k2, k3⟩
    · exact ⟨e1, 0, by simp [whileN, M.bind, h1, sNx, M.ret], h2, rfl⟩
/-! ### whole comprehensions -/
theorem mLc_map {vs : List Nat} {mi : M (List D)} {g : D → Env → Option Env} {me : M Val} {e e0 ew e' : Env} {ds : List D} (f : D → D) (hi : mi e = .ok ds e0) (hw : wipeE e0 vs = ew) (hb : back e0 ew vs = e') (h : ∀ d ∈ ds, ∃ e1 a e3 e4, g d ew = some e1 ∧ me e1 = .ok a e3 ∧ esc e3 a = some (f d, e4) ∧ wipeE e4 vs = ew) (hl : ds.length ≤ 1000000) :
    mLc vs mi g (M.ret true) me e = .ok (.ow (.lst (ds.map f))) e' := by
  have := lcL_map (vs := vs) (g := g) (me := me) (e := ew) f ds [] h (by simpa using hl)
  rw [List.nil_append] at this
  simp only [mLc, M.bind, hi, hw, this, hb]
theorem mLc_fil {vs : List Nat} {mi : M (List D)} {g : D → Env → Option Env} {mt : M Bool} {me : M Val} {e e0 ew e' : Env} {ds : List D} (p : D → Bool) (f : D → D) (hi : mi e = .ok ds e0) (hw : wipeE e0 vs = ew) (hb : back e0 ew vs = e')
    (h : ∀ d ∈ ds, ∃ e1 e2, g d ew = some e1 ∧ mt e1 = .ok (p d) e2 ∧ (p d = false → wipeE e2 vs = ew) ∧ (p d = true → ∃ a e3 e4, me e2 = .ok a e3 ∧ esc e3 a = some (f d, e4) ∧ wipeE e4 vs = ew)) (hl : ds.length ≤ 1000000) : mLc vs mi g mt me e = .ok (.ow (.lst ((ds.filter p).map f))) e' := by
  have := lcL_fil (vs := vs) (g := g) (mt := mt) (me := me) (e := ew) p f ds [] h (by simpa using hl)
  rw [List.nil_append] at this
  simp only [mLc, M.bind, hi, hw, this, hb]
theorem mDc_new {t : Bool} {vs : List Nat} {mi : M (List D)} {g : D → Env → Option Env} {mk me : M Val} {e e0 ew e' : Env} {ds : List D} (k v : D → D) (hi : mi e = .ok ds e0) (hw : wipeE e0 vs = ew) (hb : back e0 ew vs = e')
    (h : ∀ d ∈ ds, ∃ e1 a e3 e4 b e5 e6, g d ew = some e1 ∧ mk e1 = .ok a e3 ∧ esc e3 a = some (k d, e4) ∧ me e4 = .ok b e5 ∧ esc e5 b = some (v d, e6) ∧ wipeE e6 vs = ew) (hk : ∀ d ∈ ds, (kk t (k d)).isSome = true) (hn : (ds.map (fun d => kk t (k d))).Nodup) (hl : ds.length ≤ 1000000) :
    mDc t vs mi g (M.ret true) mk me e = .ok (.ow (.dct t (ds.map fun d => (k d, v d)))) e' := by
  have := dcL_new (vs := vs) (g := g) (mk := mk) (me := me) (e := ew) k v ds [] h hk (by simpa using hn) (by simpa using hl)
  rw [List.nil_append] at this
  simp only [mDc, M.bind, hi, hw, this, hb]
theorem mLc2_map {vs vs1 : List Nat} {mi : M (List D)} {g : D → Env → Option Env} {mi1 : M (List D)} {g1 : D → Env → Option Env} {me : M Val} {e e0 ew e' : Env} {ds : List D} (f : D → List D) (hi : mi e = .ok ds e0) (hw : wipeE e0 vs = ew) (hb : back e0 ew vs = e')
    (h : ∀ d ∈ ds, ∃ e1 ds1 e2 ew1, g d ew = some e1 ∧ mi1 e1 = .ok ds1 e2 ∧ wipeE e2 vs1 = ew1 ∧ wipeE ew1 vs = ew ∧ ∃ f1 : D → D, f d = ds1.map f1 ∧ ∀ d1 ∈ ds1, ∃ e3 a e4 e5, g1 d1 ew1 = some e3 ∧ me e3 = .ok a e4 ∧ esc e4 a = some (f1 d1, e5) ∧ wipeE e5 vs1 = ew1) (hl : (ds.flatMap f).length ≤ 1000000) :
    mLc2 vs vs1 mi g (M.ret true) mi1 g1 (M.ret true) me e = .ok (.ow (.lst (ds.flatMap f))) e' := by
  have key : ∀ (ds acc : List D), (∀ d ∈ ds, ∃ e1 ds1 e2 ew1, g d ew = some e1 ∧ mi1 e1 = .ok ds1 e2 ∧ wipeE e2 vs1 = ew1 ∧ wipeE ew1 vs = ew ∧ ∃ f1 : D → D, f d = ds1.map f1 ∧ ∀ d1 ∈ ds1, ∃ e3 a e4 e5, g1 d1 ew1 = some e3 ∧ me e3 = .ok a e4 ∧ esc e4 a = some (f1 d1, e5) ∧ wipeE e5 vs1 = ew1) →
      acc.length + (ds.flatMap f).length ≤ 1000000 → lc2L vs vs1 g (M.ret true) mi1 g1 (M.ret true) me ds acc ew = some (acc ++ ds.flatMap f, ew) := by
    intro ds
    induction ds with
    | nil => intro acc _ _; simp [lc2L]
    | cons d ds ih =>
      intro acc h hl
      obtain ⟨e1, ds1, e2, ew1, h1, h2, h3, h4, f1, h5, h6⟩ := h d List.mem_cons_self
      rw [List.flatMap_cons, List.length_append, h5, List.length_map] at hl
      have a := lcL_map (vs := vs1) (g := g1) (me := me) (e := ew1) f1 ds1 acc h6 (by omega)
      have b := ih (acc ++ ds1.map f1) (fun x m => h x (List.mem_cons_of_mem _ m)) (by rw [List.length_append, List.length_map]; omega)
      rw [List.flatMap_cons, h5, ← List.append_assoc, ← b]
      show (match g d ew with
        | none => none
        | some e1 => match (M.ret true : M Bool) e1 with
          | .ok true e2 => match mi1 e2 with
            | .ok ds1 e3 => match lcL vs1 g1 (M.ret true) me ds1 acc (wipeE e3 vs1) with
              | some (acc', e4) => lc2L vs vs1 g (M.ret true) mi1 g1 (M.ret true) me ds acc' (wipeE e4 vs)
              | none => none
            | _ => none
          | .ok false e2 => lc2L vs vs1 g (M.ret true) mi1 g1 (M.ret true) me ds acc (wipeE e2 vs)
          | _ => none) = _
      rw [h1]
      show (match mi1 e1 with
            | .ok ds1 e3 => match lcL vs1 g1 (M.ret true) me ds1 acc (wipeE e3 vs1) with
              | some (acc', e4) => lc2L vs vs1 g (M.ret true) mi1 g1 (M.ret true) me ds acc' (wipeE e4 vs)
              | none => none
            | _ => none) = _
      rw [h2]
      simp only [h3, a, h4]
  have := key ds [] h (by simpa using hl)
  rw [List.nil_append] at this
  simp only [mLc2, M.bind, hi, hw, this, hb]
theorem mR1_ok {n : M (List Val)} {e e' : Env} {j : Int} (h : n e = .ok [.sh (.int j)] e') (hb : -1000000000 ≤ j ∧ j ≤ 1000000000) : mR1 n e = .ok (intsD 0 j.toNat) e' := by
  unfold mR1 M.bind
  rw [h]
  show (if dec (-(2 ^ 62) ≤ j ∧ j < 2 ^ 62) = true then _ else _) = _
  rw [if_pos (dec_true (by omega))]
theorem mR2_ok {n : M (List Val)} {e e' : Env} {i j : Int} (h : n e = .ok [.sh (.int i), .sh (.int j)] e') (hi : -1000000000 ≤ i ∧ i ≤ 1000000000) (hb : -1000000000 ≤ j ∧ j ≤ 1000000000) : mR2 n e = .ok (intsD i (j - i).toNat) e' := by
  unfold mR2 M.bind
  rw [h]
  show (if dec ((-(2 ^ 62) ≤ i ∧ i < 2 ^ 62) ∧ -(2 ^ 62) ≤ j ∧ j < 2 ^ 62) = true then _ else _) = _
  rw [if_pos (dec_true (by omega))]
/-- a name that is free or holds what is shared -/
def Cell.lo : Cell → Prop
  | .un => True
  | .sh _ => True
  | _ => False
theorem atI_last {α : Type} {xs : List α} {x : α} (h : xs.getLast? = some x) : atI xs (-1) = some x := by
  have hne : xs ≠ [] := fun z => by rw [z] at h; cases h
  have hl : 0 < xs.length := List.length_pos_iff.mpr hne
  unfold atI ixN
  rw [if_neg (by omega), if_pos (by omega), Option.bind_some]
  rw [List.getLast?_eq_getElem?] at h
  rw [← h]
  congr 1
  omega
theorem atI_nat' {α : Type} {xs : List α} {i : Nat} {x : α} (h : xs[i]? = some x) : atI xs (i : Int) = some x := by
  have hl : i < xs.length := (List.getElem?_eq_some_iff.mp h).1
  unfold atI ixN
  rw [if_pos (by omega), if_pos (by omega), Option.bind_some]
  simpa using h
theorem sFor_ok {mi : M (List D)} {g : D → Env → Option Env} {b : M Flw} {e e1 : Env} {ds : List D} {r : R Flw} (h1 : mi e = .ok ds e1) (h2 : forL g b ds e1 = r) : sFor mi g b e = r := by
  simp only [sFor, M.bind, h1, h2]
/-! ### numbers -/
theorem fMulI_l {i j : Int} (h : -1000000000000000000 ≤ i ∧ i ≤ 1000000000000000000) : fMulI (.int i) (.int j) = some (.sh (.int (i * j))) := by
  show (if cMul i j = true then _ else _) = _
  exact if_pos (dec_true (.inl (by omega)))
theorem fMulI_r {i j : Int} (h : -1000000000000000000 ≤ j ∧ j ≤ 1000000000000000000) : fMulI (.int i) (.int j) = some (.sh (.int (i * j))) := by
  show (if cMul i j = true then _ else _) = _
  exact if_pos (dec_true (.inr (.inl (by omega))))
theorem fDiv_ok {i j : Int} (h : 0 < j ∧ j ≤ 1000000000) : fDiv (.int i) (.int j) = some (.sh (.int (i / j))) := by
  show (if cDiv i j = true then _ else _) = _
  rw [← Int.fdiv_eq_ediv_of_nonneg _ (by omega)]
  exact if_pos (dec_true (.inl (by omega)))
theorem fMod_ok {i j : Int} (h : 0 < j) : fMod (.int i) (.int j) = some (.sh (.int (i % j))) := by
  show (if cMod i j = true then _ else _) = _
  rw [← Int.fmod_eq_emod_of_nonneg _ (by omega)]
  exact if_pos (decide_eq_true (by omega))
theorem fPow_ok {i j : Int} (h : (0 ≤ j ∧ j ≤ 1000000) ∧ i.natAbs < 1000000000000000000) : fPow (.int i) (.int j) = some (.sh (.int (i ^ j.toNat))) := by
  show (if cPow i j = true then _ else _) = _
  exact if_pos (dec_true ⟨h.1.1, h.1.2, by omega⟩)
/-! ### dicts from whole numbers to whole numbers -/
def encI (l : List (Int × Int)) : List (D × D) := l.map fun p => (.int p.1, .int p.2)
def getI (l : List (Int × Int)) (k : Int) : Option Int := (l.find? fun p => decide (p.1 = k)).map (·.2)
def putI (l : List (Int × Int)) (k v : Int) : List (Int × Int) := if (l.any fun p => decide (p.1 = k)) = true then l.map (fun p => if p.1 = k then (p.1, v) else p) else l ++ [(k, v)]
theorem key_dec (i k : Int) : decide (keyK (.int i) = some (.inl k)) = decide (i = k) := decide_eq_decide.mpr ⟨fun z => by cases z; rfl, fun z => by rw [z]; rfl⟩
theorem lookI (l : List (Int × Int)) (k : Int) : lookD keyK (encI l) (.inl k) = (getI l k).map .int := by
  unfold lookD getI encI
  induction l with
  | nil => rfl
  | cons p l ih =>
    rw [List.map_cons, List.find?_cons, List.find?_cons]
    simp only [key_dec]
    by_cases h : p.1 = k
    · simp [h]
    · simp only [h, decide_false]; exact ih
theorem keyOfI (l : List (Int × Int)) (k : Int) : keyOf (.dct false (encI l)) (.int k) = some ((getI l k).map .int) := by
  show some (lookD keyK (encI l) (.inl k)) = _
  rw [lookI]
theorem putLI (l : List (Int × Int)) (k v : Int) : putL keyK (encI l) (.inl k) (.int k) (.int v) = encI (putI l k v) := by
  unfold putL putI encI
  have e : ((l.map fun p : Int × Int => (D.int p.1, D.int p.2)).any fun p => decide (keyK p.1 = some (.inl k))) = l.any fun p => decide (p.1 = k) := by
    rw [List.any_map]
    congr 1
    funext p
    exact key_dec p.1 k
  rw [e]
  split
  · rw [List.map_map, List.map_map]
    refine List.map_congr_left fun p _ => ?_
    show (if keyK (.int p.1) = some (.inl k) then _ else _) = _
    by_cases h : p.1 = k
    · subst h
      simp [keyK]
    · have : ¬ keyK (.int p.1) = some (.inl k) := fun z => h (by cases z; rfl)
      rw [if_neg this]
      simp [h]
  · rw [List.map_append]; rfl
theorem putI_keys (l : List (Int × Int)) (k v : Int) (h : (l.map (·.1)).Nodup) : ((putI l k v).map (·.1)).Nodup := by
  unfold putI
  split
  · rw [List.map_map]
    rw [List.map_congr_left (g := (·.1)) fun p _ => by show (if p.1 = k then (p.1, v) else p).1 = _; split <;> rfl]
    exact h
  · rename_i c
    rw [List.map_append]
    refine List.nodup_append.mpr ⟨h, by simp, fun a ha b hb z => ?_⟩
    obtain ⟨p, hp, rfl⟩ := List.mem_map.mp ha
    simp at hb
    subst hb
    exact c (List.any_eq_true.mpr ⟨p, hp, decide_eq_true z⟩)
theorem putI_len (l : List (Int × Int)) (k v : Int) : (putI l k v).length ≤ l.length + 1 := by
  unfold putI
  split
  · rw [List.length_map]; omega
  · rw [List.length_append]; simp
theorem getI_mem {l : List (Int × Int)} {p : Int × Int} (hn : (l.map (·.1)).Nodup) (h : p ∈ l) : getI l p.1 = some p.2 := by
  unfold getI
  induction l with
  | nil => cases h
  | cons q l ih =>
    rw [List.map_cons] at hn
    obtain ⟨a, b⟩ := List.nodup_cons.mp hn
    rw [List.find?_cons]
    rcases List.mem_cons.mp h with rfl | h
    · simp
    · have : q.1 ≠ p.1 := fun z => a (by rw [z]; exact List.mem_map_of_mem h)
      simp only [this, decide_false]
      exact ih b h
theorem fPopAt_ok {xs : List D} {i : Nat} {d : D} (h : xs[i]? = some d) (hl : xs.length ≤ 1000000) : fPopAt xs [.int i] = some (d, xs.eraseIdx i) := by
  have hi : i < xs.length := (List.getElem?_eq_some_iff.mp h).1
  have q : seqIndex? (i : Int) xs.length = some i := by
    unfold seqIndex?
    simp
    omega
  show (if dec (-(2 ^ 63) ≤ (i : Int) ∧ (i : Int) < 2 ^ 63) = true then (match seqIndex? (i : Int) xs.length with
      | some k => (xs[k]?).map fun d => (d, xs.eraseIdx k)
      | none => none) else none) = _
  rw [if_pos (dec_true (by omega)), q]
  show (xs[i]?).map _ = _
  rw [h]
  rfl
theorem fAppend_ok {xs : List D} {d : D} (hl : xs.length < 1000000) : fAppend xs [d] = some (.non, xs ++ [d]) := by
  unfold fAppend
  simp [hl]
end VS

/-! VR: data that can be compared and shown. -/
namespace VS
open PySem PySem.Spec PyProof.Rows L2

mutual
theorem eqv_refl : ∀ d : PyData, d.canLay0 = true → d.eqv d = true
  | .none, _ => by rw [PyData.eqv]
  | .bool b, _ => by rw [PyData.eqv]; exact beq_self_eq_true b
  | .int i, _ => by rw [PyData.eqv]; exact beq_self_eq_true i
  | .str x, _ => by rw [PyData.eqv]; exact beq_self_eq_true x
  | .list xs, h => by rw [PyData.eqv]; rw [PyData.canLay0] at h; exact eqvAll_refl xs h
  | .tuple xs, h => by rw [PyData.eqv]; rw [PyData.canLay0] at h; exact eqvAll_refl xs h
  | .dict kvs, h => by rw [PyData.canLay0] at h; cases h
theorem eqvAll_refl : ∀ ds : List PyData, PyData.canLayAll0 ds = true → PyData.eqvAll ds ds = true
  | [], _ => by rw [PyData.eqvAll]
  | d :: ds, h => by
    rw [PyData.canLayAll0] at h
    obtain ⟨a, b⟩ := Bool.and_eq_true_iff.mp h
    rw [PyData.eqvAll, eqv_refl d a, eqvAll_refl ds b]; rfl
end
theorem strOk_ofString (s : String) : PyData.strOk (Str.ofString s) = true := by
  unfold PyData.strOk
  rw [← Array.all_toList, signs_ofString, List.all_map, List.all_eq_true]
  intro c _
  show decide (c.toNat < 1114112) = true
  have : c.toNat < 1114112 := by
    rcases c.valid with h | h
    · have : c.val.toNat < 0xd800 := h
      show c.val.toNat < _
      omega
    · have : c.val.toNat < 0x110000 := h.2
      show c.val.toNat < _
      omega
  exact decide_eq_true this
theorem strOk_append {x y : Str} (h1 : PyData.strOk x = true) (h2 : PyData.strOk y = true) : PyData.strOk (x ++ y) = true := by
  unfold PyData.strOk at *
  show ((x.cps ++ y.cps).all _) = true
  rw [Array.all_append, h1, h2]; rfl
theorem strOk_text : ∀ (ts : List Str) (k : Nat) (acc : Str), PyData.strOk acc = true → (∀ t ∈ ts, PyData.strOk t = true) → PyData.strOk (textFrom k acc ts) = true
  | [], k, acc, h, _ => by rw [textFrom]; exact h
  | t :: ts, k, acc, h, ht => by
    rw [textFrom]
    exact strOk_text ts _ _ (strOk_append (strOk_append h (strOk_ofString _)) (ht t List.mem_cons_self)) fun x m => ht x (List.mem_cons_of_mem _ m)
theorem strOk_join (sep : Str) (hs : PyData.strOk sep = true) : ∀ ts : List Str, (∀ t ∈ ts, PyData.strOk t = true) → PyData.strOk (sep.join ts) = true
  | [], _ => by rw [Str.join]; unfold PyData.strOk Str.empty; simp
  | [t], h => by rw [Str.join]; exact h t List.mem_cons_self
  | t :: u :: ts, h => by
    rw [Str.join]
    · exact strOk_append (strOk_append (h t List.mem_cons_self) hs) (strOk_join sep hs (u :: ts) fun x m => h x (List.mem_cons_of_mem _ m))
    · simp
/-- data of whole numbers, truth values, None, lists and tuples: not too deep, not too much -/
structure Nice (n w : Nat) (d : D) : Prop where
  p : d.plain = true
  l : d.py.canLay0 = true
  dp : d.py.depth ≤ n
  h : d.py.hasDict = false
  s : d.py.showable = true
  b : PyData.leavesShort 100 d.py = true
  w : d.py.weight ≤ w
  k : PyData.strOk d.py.shown = true
theorem Nice.mono {n n' w w' : Nat} {d : D} (h : Nice n w d) (a : n ≤ n') (b : w ≤ w') : Nice n' w' d := ⟨h.p, h.l, Nat.le_trans h.dp a, h.h, h.s, h.b, Nat.le_trans h.w b, h.k⟩
theorem int_short {i : Int} (h : i.natAbs < 10 ^ 60) : (PyData.int i).shown.length ≤ 100 := by
  show (Str.ofString (toString i)).length ≤ 100
  rw [ofString_len]
  cases i with
  | ofNat n =>
    show (Nat.repr n).length ≤ 100
    have : (Nat.repr n).length ≤ 60 := (Nat.length_repr_le_iff (by decide)).mpr h
    omega
  | negSucc n =>
    show ("-" ++ Nat.repr (n + 1)).length ≤ 100
    rw [String.length_append]
    have : (Nat.repr (n + 1)).length ≤ 60 := (Nat.length_repr_le_iff (by decide)).mpr h
    have : "-".length = 1 := rfl
    omega
theorem log2_le {n k : Nat} (h : n < 2 ^ k) (hk : 0 < k) : n.log2 < k := by
  by_cases z : n = 0
  · subst z; simpa using hk
  · exact (Nat.log2_lt z).mpr h
theorem nice_int {i : Int} (h : i.natAbs < 10 ^ 60) : Nice 0 200 (.int i) := by
  have hl : i.natAbs.log2 < 200 := log2_le (Nat.lt_trans h (by decide)) (by decide)
  refine ⟨rfl, rfl, (by show (PyData.int i).depth ≤ 0; rw [PyData.depth]; exact Nat.le_refl _), rfl, ?_, ?_, ?_, strOk_ofString _⟩
  · show (PyData.int i).showable = true
    rw [PyData.showable]; exact decide_eq_true (by omega)
  · show PyData.leavesShort 100 (.int i) = true
    rw [PyData.leavesShort]; exact decide_eq_true (int_short h)
  · show (PyData.int i).weight ≤ 200
    rw [PyData.weight]
    split
    · omega
    · omega
theorem nice_bl {b : Bool} : Nice 0 0 (.bl b) := by cases b <;> exact ⟨rfl, rfl, by decide, rfl, rfl, rfl, by decide, strOk_ofString _⟩
theorem nice_non : Nice 0 0 .non := ⟨rfl, rfl, by decide, rfl, rfl, rfl, by decide, strOk_ofString _⟩
structure NiceL (n w : Nat) (ds : List D) : Prop where
  p : plains ds = true
  l : PyData.canLayAll0 (pys ds) = true
  dp : PyData.depthAll (pys ds) ≤ n
  h : PyData.hasDictAll (pys ds) = false
  s : PyData.showableAll (pys ds) = true
  b : PyData.leavesShortAll 100 (pys ds) = true
  w : PyData.weightAll (pys ds) ≤ ds.length * (w + 1)
  k : ∀ t ∈ PyData.shownAll (pys ds), PyData.strOk t = true
theorem niceL {n w : Nat} : ∀ {ds : List D}, (∀ d ∈ ds, Nice n w d) → NiceL n w ds
  | [], _ => ⟨rfl, rfl, by rw [pys, PyData.depthAll]; omega, rfl, rfl, rfl, by rw [pys, PyData.weightAll]; omega, fun t m => by rw [pys, PyData.shownAll] at m; cases m⟩
  | d :: ds, h => by
    have a := h d List.mem_cons_self
    have b := niceL (n := n) (w := w) (ds := ds) fun x m => h x (List.mem_cons_of_mem _ m)
    refine ⟨?_, ?_, ?_, ?_, ?_, ?_, ?_, ?_⟩
    · rw [plains, a.p, b.p]; rfl
    · rw [pys, PyData.canLayAll0, a.l, b.l]; rfl
    · rw [pys, PyData.depthAll]; have := a.dp; have := b.dp; omega
    · rw [pys, PyData.hasDictAll, a.h, b.h]; rfl
    · rw [pys, PyData.showableAll, a.s, b.s]; rfl
    · rw [pys, PyData.leavesShortAll, a.b, b.b]; rfl
    · rw [pys, PyData.weightAll, List.length_cons, Nat.succ_mul]; have := a.w; have := b.w; omega
    · intro t m
      rw [pys, PyData.shownAll] at m
      rcases List.mem_cons.mp m with rfl | m
      · exact a.k
      · exact b.k t m
theorem nice_tup {n w : Nat} {ds : List D} (h : ∀ d ∈ ds, Nice n w d) : Nice (n + 1) (ds.length * (w + 1)) (.tup ds) := by
  have a := niceL h
  refine ⟨a.p, ?_, ?_, ?_, ?_, ?_, ?_, ?_⟩
  · show (PyData.tuple (pys ds)).canLay0 = true; rw [PyData.canLay0]; exact a.l
  · show (PyData.tuple (pys ds)).depth ≤ n + 1; rw [PyData.depth]; have := a.dp; omega
  · show (PyData.tuple (pys ds)).hasDict = false; rw [PyData.hasDict]; exact a.h
  · show (PyData.tuple (pys ds)).showable = true; rw [PyData.showable]; exact a.s
  · show PyData.leavesShort 100 (PyData.tuple (pys ds)) = true; rw [PyData.leavesShort]; exact a.b
  · show (PyData.tuple (pys ds)).weight ≤ _; rw [PyData.weight]; exact a.w
  · show PyData.strOk (PyData.tuple (pys ds)).shown = true
    rw [PyData.shown]
    exact strOk_append (strOk_append (strOk_ofString _) (strOk_join _ (strOk_ofString _) _ a.k)) (strOk_ofString _)
theorem nice_lst {n w : Nat} {ds : List D} (h : ∀ d ∈ ds, Nice n w d) : Nice (n + 1) (ds.length * (w + 1)) (.lst ds) := by
  have a := niceL h
  refine ⟨a.p, ?_, ?_, ?_, ?_, ?_, ?_, ?_⟩
  · show (PyData.list (pys ds)).canLay0 = true; rw [PyData.canLay0]; exact a.l
  · show (PyData.list (pys ds)).depth ≤ n + 1; rw [PyData.depth]; have := a.dp; omega
  · show (PyData.list (pys ds)).hasDict = false; rw [PyData.hasDict]; exact a.h
  · show (PyData.list (pys ds)).showable = true; rw [PyData.showable]; exact a.s
  · show PyData.leavesShort 100 (PyData.list (pys ds)) = true; rw [PyData.leavesShort]; exact a.b
  · show (PyData.list (pys ds)).weight ≤ _; rw [PyData.weight]; exact a.w
  · show PyData.strOk (PyData.list (pys ds)).shown = true
    rw [PyData.shown]
    exact strOk_append (strOk_text _ _ _ (strOk_ofString _) a.k) (strOk_ofString _)
theorem Nice.ok {n w : Nat} {d : D} (h : Nice n w d) (hn : n ≤ 64) : d.ok = true := by
  unfold D.ok SeqAt.shaped
  rw [h.p, h.l]
  have := h.dp
  exact decide_eq_true (by omega)
theorem Nice.repr {n w : Nat} {d : D} (h : Nice n w d) (q : d.isSeq = true) (hn : n ≤ 100) (hw : w ≤ 150000) : fRepr [d] = some (.sh (.str d.py.shown)) := by
  have a := PyData.shown_le 100 (by decide) d.py h.b
  have b := h.w
  have c := h.dp
  show (if _ then _ else _) = _
  rw [if_pos ⟨q, h.p, h.s, h.h, by omega, by rw [sizeLine_eq]; omega⟩]
theorem fEq_same {n w : Nat} {d : D} (h : Nice n w d) (hn : n ≤ 64) : fEq d d = some (.sh (.bl true)) := by
  unfold fEq
  rw [if_pos ⟨h.ok hn, h.ok hn⟩, eqv_refl _ h.l]
theorem fNe_same {n w : Nat} {d : D} (h : Nice n w d) (hn : n ≤ 64) : fNe d d = some (.sh (.bl false)) := by
  unfold fNe
  rw [if_pos ⟨h.ok hn, h.ok hn⟩, eqv_refl _ h.l]; rfl
theorem fNe_text {x : Str} (h : PyData.strOk x = true) : fNe (.str x) (.str x) = some (.sh (.bl false)) := by
  have o : (D.str x).ok = true := by
    unfold D.ok SeqAt.shaped
    show (true && ((PyData.str x).canLay0 && decide ((PyData.str x).depth ≤ 64))) = true
    rw [PyData.canLay0, h, PyData.depth]; rfl
  unfold fNe
  rw [if_pos ⟨o, o⟩, eqv_refl _ (by show (PyData.str x).canLay0 = true; rw [PyData.canLay0]; exact h)]; rfl
theorem fEq_text {x : Str} (h : PyData.strOk x = true) : fEq (.str x) (.str x) = some (.sh (.bl true)) := by
  have o : (D.str x).ok = true := by
    unfold D.ok SeqAt.shaped
    show (true && ((PyData.str x).canLay0 && decide ((PyData.str x).depth ≤ 64))) = true
    rw [PyData.canLay0, h, PyData.depth]; rfl
  unfold fEq
  rw [if_pos ⟨o, o⟩, eqv_refl _ (by show (PyData.str x).canLay0 = true; rw [PyData.canLay0]; exact h)]
theorem ok_int (i : Int) : (D.int i).ok = true := rfl
theorem fEq_int (i j : Int) : fEq (.int i) (.int j) = some (.sh (.bl (i == j))) := by
  unfold fEq
  rw [if_pos ⟨rfl, rfl⟩]
  show some (Val.sh (.bl ((PyData.int i).eqv (.int j)))) = _
  rw [PyData.eqv]
theorem fNe_int (i j : Int) : fNe (.int i) (.int j) = some (.sh (.bl (!(i == j)))) := by
  unfold fNe
  rw [if_pos ⟨rfl, rfl⟩]
  show some (Val.sh (.bl (!((PyData.int i).eqv (.int j))))) = _
  rw [PyData.eqv]
/-! ### sorted pairs -/
def dPair (p : Int × Int) : D := .tup [.int p.1, .int p.2]
def lexLe (p q : Int × Int) : Bool := decide (p.1 < q.1 ∨ p.1 = q.1 ∧ p.2 ≤ q.2)
theorem dLe_pair (p q : Int × Int) : dLe (dPair p) (dPair q) = lexLe p q := by
  have := congrFun (congrFun (W.dataLe_ii (β := Int × Int) (·.1) (·.2)) p) q
  exact this
theorem dLe_int (i j : Int) : dLe (.int i) (.int j) = decide (i ≤ j) := congrFun (congrFun (W.dataLe_int (β := Int) fun i => i) i) j
theorem sortable_pairs {l : List (Int × Int)} (h : l.length ≤ 1000000) : sortable (l.map dPair) := by
  refine ⟨fun d m => ?_, fun d m d' m' => ?_, .inl fun d m => ?_, by rw [List.length_map]; exact h⟩
  · obtain ⟨p, _, rfl⟩ := List.mem_map.mp m
    refine ⟨rfl, ?_⟩
    show (PyData.tuple [.int p.1, .int p.2]).depth ≤ 64
    simp [PyData.depth, PyData.depthAll]
  · obtain ⟨u, hu, rfl⟩ := List.mem_map.mp m
    obtain ⟨p, _, rfl⟩ := List.mem_map.mp hu
    obtain ⟨v, hv, rfl⟩ := List.mem_map.mp m'
    obtain ⟨q, _, rfl⟩ := List.mem_map.mp hv
    show W.alike (PyData.tuple [.int p.1, .int p.2]) (PyData.tuple [.int q.1, .int q.2]) = true
    simp [W.alike, W.alikeAll]
  · obtain ⟨u, hu, rfl⟩ := List.mem_map.mp m
    obtain ⟨p, _, rfl⟩ := List.mem_map.mp hu
    exact ⟨_, _, rfl⟩
theorem sortable_ints {l : List Int} (h : l.length ≤ 1000000) : sortable (l.map D.int) := by
  refine ⟨fun d m => ?_, fun d m d' m' => ?_, .inr fun d m => ?_, by rw [List.length_map]; exact h⟩
  · obtain ⟨p, _, rfl⟩ := List.mem_map.mp m
    refine ⟨rfl, ?_⟩
    show (PyData.int p).depth ≤ 64
    simp [PyData.depth]
  · obtain ⟨u, hu, rfl⟩ := List.mem_map.mp m
    obtain ⟨p, _, rfl⟩ := List.mem_map.mp hu
    obtain ⟨v, hv, rfl⟩ := List.mem_map.mp m'
    obtain ⟨q, _, rfl⟩ := List.mem_map.mp hv
    show W.alike (PyData.int p) (PyData.int q) = true
    simp [W.alike]
  · obtain ⟨u, hu, rfl⟩ := List.mem_map.mp m
    obtain ⟨p, _, rfl⟩ := List.mem_map.mp hu
    exact ⟨(by intro z; cases z), (by intro xs z; cases z)⟩
theorem lexLe_trans (a b c : Int × Int) : lexLe a b = true → lexLe b c = true → lexLe a c = true := by
  unfold lexLe
  simp only [decide_eq_true_eq]
  omega
theorem lexLe_total (a b : Int × Int) : (lexLe a b || lexLe b a) = true := by
  unfold lexLe
  simp only [Bool.or_eq_true, decide_eq_true_eq]
  omega
theorem fSort_pairs {l : List (Int × Int)} (h : l.length ≤ 1000000) : fSortA [.lst (l.map dPair)] = some (.ow (.lst ((l.mergeSort lexLe).map dPair))) := by
  have e : fSort [.lst (l.map dPair)] = some (.ow (.lst ((l.map dPair).mergeSort dLe))) := if_pos (sortable_pairs h)
  show fSort [.lst (l.map dPair)] = _
  rw [e, List.map_mergeSort (r := lexLe) (s := dLe) (f := dPair) fun a _ b _ => (dLe_pair a b).symm]
theorem fSort_keys {l : List (Int × Int)} (h : l.length < 64) : fSortA [.dct false (encI l)] = some (.ow (.lst ((l.map (·.1)).mergeSort.map .int))) := by
  have : fSortK [.dct false (encI l)] = some (.ow (.lst ((l.map (·.1)).mergeSort.map .int))) := by
    show (intKeys (encI l)).bind _ = _
    have e : intKeys (encI l) = some (l.map (·.1)) := by
      unfold intKeys encI
      rw [List.map_map]
      exact intsOf_of (·.1) l
    rw [e, Option.bind_some, if_pos (by rw [List.length_map]; exact h)]
  unfold fSortA
  rw [this]
/-- the table in order -/
def inOrder (l : List (Int × Int)) : List (Int × Int) := ((l.map (·.1)).mergeSort).map fun k => (k, (getI l k).getD 0)
theorem inOrder_eq {l : List (Int × Int)} (hn : (l.map (·.1)).Nodup) : l.mergeSort lexLe = inOrder l := by
  have hp : (inOrder l).Perm l := by
    unfold inOrder
    refine ((List.mergeSort_perm _ _).map _).trans ?_
    rw [List.map_map]
    have : l.map ((fun k => (k, (getI l k).getD 0)) ∘ (·.1)) = l.map id := List.map_congr_left fun p m => by
      show (p.1, (getI l p.1).getD 0) = p
      rw [getI_mem hn m]; rfl
    rw [this, List.map_id]
  refine List.Perm.eq_of_pairwise (le := fun a b => lexLe a b = true) (fun a b _ _ h1 h2 => ?_) (List.pairwise_mergeSort lexLe_trans lexLe_total l) ?_ ((List.mergeSort_perm l _).trans hp.symm)
  · unfold lexLe at h1 h2
    simp only [decide_eq_true_eq] at h1 h2
    exact Prod.ext (by omega) (by omega)
  · unfold inOrder
    rw [List.pairwise_map]
    have s := List.pairwise_mergeSort (le := fun a b : Int => decide (a ≤ b)) (fun a b c h1 h2 => by simp at *; omega) (fun a b => by simp; omega) (l.map (·.1))
    have d : ((l.map (·.1)).mergeSort).Nodup := (List.mergeSort_perm _ _).nodup_iff.mpr hn
    refine (s.and d).imp fun h => ?_
    unfold lexLe
    obtain ⟨h1, h2⟩ := h
    simp only [decide_eq_true_eq] at h1 ⊢
    left
    omega
theorem inOrder_perm {l : List (Int × Int)} (hn : (l.map (·.1)).Nodup) : (inOrder l).Perm l := by
  rw [← inOrder_eq hn]
  exact List.mergeSort_perm _ _
theorem maxI_some {ns : List Int} (h : ns ≠ []) : ∃ m, maxI ns = some m := by
  cases ns with
  | nil => exact absurd rfl h
  | cons n ns => exact ⟨_, rfl⟩
theorem minI_some {ns : List Int} (h : ns ≠ []) : ∃ m, minI ns = some m := by
  cases ns with
  | nil => exact absurd rfl h
  | cons n ns => exact ⟨_, rfl⟩
theorem maxI_perm {a b : List Int} (h : a.Perm b) : maxI a = maxI b := by
  by_cases e : a = []
  · subst e; rw [List.nil_perm.mp h]
  · have e' : b ≠ [] := fun z => e (List.perm_nil.mp (z ▸ h))
    obtain ⟨m, hm⟩ := maxI_some e
    obtain ⟨m', hm'⟩ := maxI_some e'
    obtain ⟨_, a1, a2⟩ := maxI_ok hm
    obtain ⟨_, b1, b2⟩ := maxI_ok hm'
    rw [hm, hm', Int.le_antisymm (b2 m (h.mem_iff.mp a1)) (a2 m' (h.mem_iff.mpr b1))]
theorem minI_perm {a b : List Int} (h : a.Perm b) : minI a = minI b := by
  by_cases e : a = []
  · subst e; rw [List.nil_perm.mp h]
  · have e' : b ≠ [] := fun z => e (List.perm_nil.mp (z ▸ h))
    obtain ⟨m, hm⟩ := minI_some e
    obtain ⟨m', hm'⟩ := minI_some e'
    obtain ⟨_, a1, a2⟩ := minI_ok hm
    obtain ⟨_, b1, b2⟩ := minI_ok hm'
    rw [hm, hm', Int.le_antisymm (a2 m' (h.mem_iff.mpr b1)) (b2 m (h.mem_iff.mp a1))]
theorem fMax1_ok {α : Type} {xs : List α} {f : α → Int} {m : Int} (h : maxI (xs.map f) = some m) : fMax1 [.lst (xs.map fun x => D.int (f x))] = some (.sh (.int m)) := by
  unfold fMax1 oneInts
  show (Option.map _ (Option.bind (intsOf (xs.map fun x => D.int (f x))) maxI)) = _
  rw [intsOf_of, Option.bind_some, h]
  rfl
theorem fMin1_ok {α : Type} {xs : List α} {f : α → Int} {m : Int} (h : minI (xs.map f) = some m) : fMin1 [.lst (xs.map fun x => D.int (f x))] = some (.sh (.int m)) := by
  unfold fMin1 oneInts
  show (Option.map _ (Option.bind (intsOf (xs.map fun x => D.int (f x))) minI)) = _
  rw [intsOf_of, Option.bind_some, h]
  rfl
end VS

namespace Hd
open PySem PySem.Spec PyProof.Rows L2
def top (i : Nat) : Stmt := PySem.Challenge.pw_dotcrowds_k87_whole_squares_of_how_far.main.body.getD i (.Pass ⟨0, 0, 0, 0⟩)
abbrev s_is_integer : Stmt := top 7
abbrev s_is_within : Stmt := top 8
abbrev s_is_dot : Stmt := top 9
abbrev s_check_dots : Stmt := top 10
abbrev s_is_crowd : Stmt := top 14
abbrev s_check_crowd : Stmt := top 15
abbrev s_lots_of : Stmt := top 16
abbrev s_near_enough : Stmt := top 17
abbrev s_moved : Stmt := top 18
abbrev s_mirrored : Stmt := top 19
abbrev s_raw_far : Stmt := top 21
abbrev s_raw_far_counts : Stmt := top 23
abbrev s_as_pairs : Stmt := top 24
abbrev s_far_counts : Stmt := top 25
abbrev s_most_often : Stmt := top 26
abbrev s_unlike_far_many : Stmt := top 27
abbrev s__law_hand : Stmt := top 29
abbrev s__law_draw : Stmt := top 30
abbrev s__law_any : Stmt := top 31
abbrev s__law_mixed : Stmt := top 32
abbrev s__law_lots : Stmt := top 33
abbrev s__law_crowd : Stmt := top 34
abbrev s__law_far : Stmt := top 35
abbrev s__law_far_counts : Stmt := top 36
abbrev s__law_is_right : Stmt := top 37
abbrev s_law : Stmt := top 38
def d_is_integer : He.DefD := ⟨("is_integer", none), "is_integer", "is_integer", defArgs s_is_integer, defBody s_is_integer, defScope s_is_integer, [], []⟩
def d_is_within : He.DefD := ⟨("is_within", none), "is_within", "is_within", defArgs s_is_within, defBody s_is_within, defScope s_is_within, [], []⟩
def d_is_dot : He.DefD := ⟨("is_dot", none), "is_dot", "is_dot", defArgs s_is_dot, defBody s_is_dot, defScope s_is_dot, [], []⟩
def d_check_dots : He.DefD := ⟨("check_dots", none), "check_dots", "check_dots", defArgs s_check_dots, defBody s_check_dots, defScope s_check_dots, [], []⟩
def d_is_crowd : He.DefD := ⟨("is_crowd", none), "is_crowd", "is_crowd", defArgs s_is_crowd, defBody s_is_crowd, defScope s_is_crowd, [], []⟩
def d_check_crowd : He.DefD := ⟨("check_crowd", none), "check_crowd", "check_crowd", defArgs s_check_crowd, defBody s_check_crowd, defScope s_check_crowd, [], []⟩
def d_lots_of : He.DefD := ⟨("lots_of", none), "lots_of", "lots_of", defArgs s_lots_of, defBody s_lots_of, defScope s_lots_of, [], []⟩
def d_near_enough : He.DefD := ⟨("near_enough", none), "near_enough", "near_enough", defArgs s_near_enough, defBody s_near_enough, defScope s_near_enough, [], []⟩
def d_moved : He.DefD := ⟨("moved", none), "moved", "moved", defArgs s_moved, defBody s_moved, defScope s_moved, [], []⟩
def d_mirrored : He.DefD := ⟨("mirrored", none), "mirrored", "mirrored", defArgs s_mirrored, defBody s_mirrored, defScope s_mirrored, [], []⟩
def d_raw_far : He.DefD := ⟨("raw_far", none), "raw_far", "raw_far", defArgs s_raw_far, defBody s_raw_far, defScope s_raw_far, [], []⟩
def d_raw_far_counts : He.DefD := ⟨("raw_far_counts", none), "raw_far_counts", "raw_far_counts", defArgs s_raw_far_counts, defBody s_raw_far_counts, defScope s_raw_far_counts, [], []⟩
def d_as_pairs : He.DefD := ⟨("as_pairs", none), "as_pairs", "as_pairs", defArgs s_as_pairs, defBody s_as_pairs, defScope s_as_pairs, [], []⟩
def d_far_counts : He.DefD := ⟨("far_counts", none), "far_counts", "far_counts", defArgs s_far_counts, defBody s_far_counts, defScope s_far_counts, [], []⟩
def d_most_often : He.DefD := ⟨("most_often", none), "most_often", "most_often", defArgs s_most_often, defBody s_most_often, defScope s_most_often, [], []⟩
def d_unlike_far_many : He.DefD := ⟨("unlike_far_many", none), "unlike_far_many", "unlike_far_many", defArgs s_unlike_far_many, defBody s_unlike_far_many, defScope s_unlike_far_many, [], []⟩
def d__law_hand : He.DefD := ⟨("_law_hand", none), "_law_hand", "_law_hand", defArgs s__law_hand, defBody s__law_hand, defScope s__law_hand, [], []⟩
def d__law_draw : He.DefD := ⟨("_law_draw", none), "_law_draw", "_law_draw", defArgs s__law_draw, defBody s__law_draw, defScope s__law_draw, [], []⟩
def d__law_any : He.DefD := ⟨("_law_any", none), "_law_any", "_law_any", defArgs s__law_any, defBody s__law_any, defScope s__law_any, [], []⟩
def d__law_mixed : He.DefD := ⟨("_law_mixed", none), "_law_mixed", "_law_mixed", defArgs s__law_mixed, defBody s__law_mixed, defScope s__law_mixed, [], []⟩
def d__law_lots : He.DefD := ⟨("_law_lots", none), "_law_lots", "_law_lots", defArgs s__law_lots, defBody s__law_lots, defScope s__law_lots, [], []⟩
def d__law_crowd : He.DefD := ⟨("_law_crowd", none), "_law_crowd", "_law_crowd", defArgs s__law_crowd, defBody s__law_crowd, defScope s__law_crowd, [], []⟩
def d__law_far : He.DefD := ⟨("_law_far", none), "_law_far", "_law_far", defArgs s__law_far, defBody s__law_far, defScope s__law_far, [], []⟩
def d__law_far_counts : He.DefD := ⟨("_law_far_counts", none), "_law_far_counts", "_law_far_counts", defArgs s__law_far_counts, defBody s__law_far_counts, defScope s__law_far_counts, [], []⟩
def d__law_is_right : He.DefD := ⟨("_law_is_right", none), "_law_is_right", "_law_is_right", defArgs s__law_is_right, defBody s__law_is_right, defScope s__law_is_right, [], []⟩
def d_law : He.DefD := ⟨("law", none), "law", "law", defArgs s_law, defBody s_law, defScope s_law, [], []⟩
def fn0 : List He.DefD := [d_is_integer, d_is_within, d_is_dot, d_check_dots, d_is_crowd, d_check_crowd, d_lots_of, d_near_enough, d_moved, d_mirrored, d_raw_far, d_raw_far_counts, d_as_pairs, d_far_counts, d_most_often, d_unlike_far_many, d__law_hand, d__law_draw, d__law_any, d__law_mixed, d__law_lots, d__law_crowd, d__law_far, d__law_far_counts, d__law_is_right, d_law]
def fn : List He.DefD := fn0
def fa0 : List He.Fa := [.glo "is_integer", .glo "is_within", .glo "is_dot", .glo "check_dots", .glo "is_crowd", .glo "check_crowd", .glo "lots_of", .glo "near_enough", .glo "moved", .glo "mirrored", .glo "raw_far", .glo "raw_far_counts", .glo "as_pairs", .glo "far_counts", .glo "most_often", .glo "unlike_far_many", .glo "_law_hand", .glo "_law_draw", .glo "_law_any", .glo "_law_mixed", .glo "_law_lots", .glo "_law_crowd", .glo "_law_far", .glo "_law_far_counts", .glo "_law_is_right", .glo "law", .glo "CrowdError", .exc "CrowdError", .glo "NoDot", .exc "NoDot"]
def fa1 : List He.Fa := [.glo "NoCrowd", .exc "NoCrowd", .glo "TooFar", .exc "TooFar", .int "MOST_PLACE" 10000, .int "LEAST_CROWD" 3, .int "MOST_CROWD" 12, .free "ValueError", .free "abs", .free "all", .free "bool", .free "int", .free "isinstance", .free "len", .free "list", .free "max", .free "min", .free "range", .free "repr", .free "sorted", .free "tuple"]
def fa : List He.Fa := fa0 ++ fa1
def ls0 : List Str := ["CrowdError", "NoDot", "NoCrowd", "TooFar", "MOST_PLACE", "LEAST_CROWD", "MOST_CROWD", "is_integer", "is_within", "is_dot", "check_dots", "is_crowd", "check_crowd", "lots_of", "near_enough", "moved", "mirrored", "raw_far", "raw_far_counts", "as_pairs", "far_counts", "most_often", "unlike_far_many", "_law_hand", "_law_draw", "_law_any", "_law_mixed", "_law_lots", "_law_crowd", "_law_far"]
def ls1 : List Str := ["_law_far_counts", "_law_is_right"]
def ls : List Str := ls0 ++ ls1
abbrev R : PySem.W.OpenRow := PySem.W.OpenLaw.row PySem.Challenge.rw_dotcrowds_k87_whole_squares_of_how_far
abbrev hk : PySem.W.Hook := He.hookD 4 fa fn
def ob (s : PySem.W.SharedT) : He.AlD := He.obsDG 4 fa fn (HandSHeadRun.getT s)
theorem ob_eq (s : PySem.W.SharedT) : ob s = hk.obs s.abs := He.obsDG_eq (HandSHeadRun.getT_eq s)
theorem run (w : World) : HandSHeadRun.RunEq R (PySem.W.view R.prog [38]) hk ob 4000 ls w := by
  intro os
  kernel_rfl
end Hd
namespace Lw
noncomputable section
open PySem PySem.Spec PyProof.Rows L2 VS
structure Tops (K : PySem.W.Frag) (mg : Str → Option Value) : Prop where
  n_ValueError : mg "ValueError" = none
  n_abs : mg "abs" = none
  n_all : mg "all" = none
  n_bool : mg "bool" = none
  n_int : mg "int" = none
  n_isinstance : mg "isinstance" = none
  n_len : mg "len" = none
  n_list : mg "list" = none
  n_max : mg "max" = none
  n_min : mg "min" = none
  n_range : mg "range" = none
  n_repr : mg "repr" = none
  n_sorted : mg "sorted" = none
  n_tuple : mg "tuple" = none
  d_is_integer : DefT K mg "is_integer" Hd.s_is_integer
  d_is_within : DefT K mg "is_within" Hd.s_is_within
  d_is_dot : DefT K mg "is_dot" Hd.s_is_dot
  d_check_dots : DefT K mg "check_dots" Hd.s_check_dots
  d_is_crowd : DefT K mg "is_crowd" Hd.s_is_crowd
  d_check_crowd : DefT K mg "check_crowd" Hd.s_check_crowd
  d_lots_of : DefT K mg "lots_of" Hd.s_lots_of
  d_near_enough : DefT K mg "near_enough" Hd.s_near_enough
  d_moved : DefT K mg "moved" Hd.s_moved
  d_mirrored : DefT K mg "mirrored" Hd.s_mirrored
  d_raw_far : DefT K mg "raw_far" Hd.s_raw_far
  d_raw_far_counts : DefT K mg "raw_far_counts" Hd.s_raw_far_counts
  d_as_pairs : DefT K mg "as_pairs" Hd.s_as_pairs
  d_far_counts : DefT K mg "far_counts" Hd.s_far_counts
  d_most_often : DefT K mg "most_often" Hd.s_most_often
  d_unlike_far_many : DefT K mg "unlike_far_many" Hd.s_unlike_far_many
  d__law_hand : DefT K mg "_law_hand" Hd.s__law_hand
  d__law_draw : DefT K mg "_law_draw" Hd.s__law_draw
  d__law_any : DefT K mg "_law_any" Hd.s__law_any
  d__law_mixed : DefT K mg "_law_mixed" Hd.s__law_mixed
  d__law_lots : DefT K mg "_law_lots" Hd.s__law_lots
  d__law_crowd : DefT K mg "_law_crowd" Hd.s__law_crowd
  d__law_far : DefT K mg "_law_far" Hd.s__law_far
  d__law_far_counts : DefT K mg "_law_far_counts" Hd.s__law_far_counts
  d__law_is_right : DefT K mg "_law_is_right" Hd.s__law_is_right
  d_law : DefT K mg "law" Hd.s_law
  e_CrowdError : ExcT K mg "CrowdError"
  e_NoDot : ExcT K mg "NoDot"
  e_NoCrowd : ExcT K mg "NoCrowd"
  e_TooFar : ExcT K mg "TooFar"
  i_MOST_PLACE : ∃ t, mg "MOST_PLACE" = some (.int 10000 t)
  i_LEAST_CROWD : ∃ t, mg "LEAST_CROWD" = some (.int 3 t)
  i_MOST_CROWD : ∃ t, mg "MOST_CROWD" = some (.int 12 t)
def B_is_integer : M Flw := (sRet (mAndV (mCB fIsi (mCons (mVar 0) (mCons (mC (.op (.ty "int"))) mNil))) (mBv (mNot (mB (mCB fIsi (mCons (mVar 0) (mCons (mC (.op (.ty "bool"))) mNil))))))))
def F_is_integer : List D → FR := run0 1 0 B_is_integer
theorem sc_is_integer : FnScope ["thing"] ["thing"] (defScope Hd.s_is_integer) := ⟨rfl, rfl, rfl, by decide +kernel, rfl, by decide +kernel, by decide +kernel⟩
theorem ok_is_integer {P : Program} {w : World} {K : PySem.W.Frag} {mg : Str → Option Value} {base : Heap} (T : Tops K mg) : HasD P w K mg base "is_integer" 1 ["thing"] (Prom0 K mg 1 F_is_integer) := by
  refine has0 (k := 0) (m := 0) T.d_is_integer sc_is_integer rfl rfl (fun _ _ _ _ _ _ us hl => match us, hl with | [_], _ => rfl) fun f cdv A outer s H E hr hgd => ?_
  have u := room_u hr
  have nd := (sc_is_integer).nd
  have tk : Takes (cxOf (L2.CX P w) P w K mg base ["thing"] "is_integer" (defScope Hd.s_is_integer) f cdv A outer s H E) (fun cls d _ H => E cls d H) := takes_of rfl rfl rfl rfl
  exact (dss_one (ds_ret (de_and (w_callB call_isi cd_isi T.n_isinstance (da_cons (d_var 0) (da_cons (w_ty (T := "int") T.n_int) da_nil))) (de_one (de_not (w_callB call_isi cd_isi T.n_isinstance (da_cons (d_var 0) (da_cons (w_ty (T := "bool") T.n_bool) da_nil))))))))
def B_is_within : M Flw := (sRet (mAndV (mCall0 F_is_integer (mCons (mVar 0) mNil)) (mChain fLe fLe (mVar 1) (mVar 0) (mVar 2))))
def F_is_within : List D → FR := run0 3 0 B_is_within
theorem sc_is_within : FnScope ["thing", "low", "high"] ["thing", "low", "high"] (defScope Hd.s_is_within) := ⟨rfl, rfl, rfl, by decide +kernel, rfl, by decide +kernel, by decide +kernel⟩
theorem ok_is_within {P : Program} {w : World} {K : PySem.W.Frag} {mg : Str → Option Value} {base : Heap} (T : Tops K mg) : HasD P w K mg base "is_within" 2 ["thing", "low", "high"] (Prom0 K mg 3 F_is_within) := by
  refine has0 (k := 1) (m := 0) T.d_is_within sc_is_within rfl rfl (fun _ _ _ _ _ _ us hl => match us, hl with | [_, _, _], _ => rfl) fun f cdv A outer s H E hr hgd => ?_
  have u := room_u hr
  have nd := (sc_is_within).nd
  have tk : Takes (cxOf (L2.CX P w) P w K mg base ["thing", "low", "high"] "is_within" (defScope Hd.s_is_within) f cdv A outer s H E) (fun cls d _ H => E cls d H) := takes_of rfl rfl rfl rfl
  exact (dss_one (ds_ret (de_and (de_c0 (ok_is_integer T) tk hr (by decide) hgd (da_cons (d_var 0) da_nil) (len_cons len_nil)) (de_one (de_chain op_le op_le opd_le opd_le (d_var 1) (d_var 0) (d_var 2))))))
def E_is_dot_1 : M Val := (mCall0 F_is_within (mCons (mVar 1) (mCons (m1 fNeg (mC (.int 10000))) (mCons (mC (.int 10000)) mNil))))
def C_is_dot_1 : M Val := mLc [1] (mAny 0) (gN 1) (M.ret true) E_is_dot_1
def B_is_dot : M Flw := (sSeq (sIf (mOr (mNot (mTru (mCB fIsi (mCons (mVar 0) (mCons (mC (.op (.ty "tuple"))) mNil))))) (mB (m2 fNe (mCB fLen (mCons (mVar 0) mNil)) (mC (.int 2))))) (sRet (mC (.bl false))) sNx) (sRet (mCB fAll (mCons C_is_dot_1 mNil))))
def F_is_dot : List D → FR := run0 1 1 B_is_dot
theorem sc_is_dot : FnScope ["thing", "one"] ["thing"] (defScope Hd.s_is_dot) := ⟨rfl, rfl, rfl, by decide +kernel, rfl, by decide +kernel, by decide +kernel⟩
theorem ok_is_dot {P : Program} {w : World} {K : PySem.W.Frag} {mg : Str → Option Value} {base : Heap} (T : Tops K mg) : HasD P w K mg base "is_dot" 3 ["thing"] (Prom0 K mg 1 F_is_dot) := by
  refine has0 (k := 2) (m := 1) T.d_is_dot sc_is_dot rfl rfl (fun _ _ _ _ _ _ us hl => match us, hl with | [_], _ => rfl) fun f cdv A outer s H E hr hgd => ?_
  have u := room_u hr
  have nd := (sc_is_dot).nd
  have tk : Takes (cxOf (L2.CX P w) P w K mg base ["thing", "one"] "is_dot" (defScope Hd.s_is_dot) f cdv A outer s H E) (fun cls d _ H => E cls d H) := takes_of rfl rfl rfl rfl
  exact (dss_cons (ds_if (dt_w (dw_or (dt_not (dt_truth (w_callB call_isi cd_isi T.n_isinstance (da_cons (d_var 0) (da_cons (w_ty (T := "tuple") T.n_tuple) da_nil))))) (dw_or1 (dt_cmp (opr_neU u) opd_ne (w_callB cr_lenA cd_len T.n_len (da_cons (d_var 0) da_nil)) d_int (nomark _))))) (dss_one (ds_ret d_bl)) dss_nil) (dss_one (ds_ret (w_callB (cr_all rfl) cd_all T.n_all (da_cons (w_lcN 0 [("one", 1)] nd (pv 0) (d_var 0) (fun s1 H1 C1 cl1 fp1 => (w_name 1 nd)) (fun s1 H1 C1 cl1 fp1 => dts_nil) (fun s1 H1 C1 cl1 fp1 => (de_c0 (ok_is_within T) takes0 hr (by decide) hgd (da_cons (d_var 1) (da_cons (d_un un_neg und_neg (w_gint T.i_MOST_PLACE)) (da_cons (w_gint T.i_MOST_PLACE) da_nil))) (len_cons (len_cons (len_cons len_nil)))))) da_nil)))))
def K_check_dots_1 : M Flw := (sIf (mNot (mTru (mCall0 F_is_dot (mCons (mVar 1) mNil)))) (sRaise ⟨Str.ofString "NoDot", []⟩) sNx)
def L_check_dots_1 : M Flw := sFor (mSeq (mVar 0)) (gN 1) K_check_dots_1
def B_check_dots : M Flw := L_check_dots_1
def F_check_dots : List D → FR := run0 1 1 B_check_dots
theorem sc_check_dots : FnScope ["some", "one"] ["some"] (defScope Hd.s_check_dots) := ⟨rfl, rfl, rfl, by decide +kernel, rfl, by decide +kernel, by decide +kernel⟩
theorem ok_check_dots {P : Program} {w : World} {K : PySem.W.Frag} {mg : Str → Option Value} {base : Heap} (T : Tops K mg) : HasD P w K mg base "check_dots" 4 ["some"] (Prom0 K mg 1 F_check_dots) := by
  refine has0 (k := 3) (m := 1) T.d_check_dots sc_check_dots rfl rfl (fun _ _ _ _ _ _ us hl => match us, hl with | [_], _ => rfl) fun f cdv A outer s H E hr hgd => ?_
  have u := room_u hr
  have nd := (sc_check_dots).nd
  have tk : Takes (cxOf (L2.CX P w) P w K mg base ["some", "one"] "check_dots" (defScope Hd.s_check_dots) f cdv A outer s H E) (fun cls d _ H => E cls d H) := takes_of rfl rfl rfl rfl
  exact (dss_one (ds_for (passes_of rfl) rfl (di_seq (d_var 0)) (w_name 1 nd) (dss_one (ds_if (dt_not (dt_truth (de_c0 (ok_is_dot T) tk hr (by decide) hgd (da_cons (d_var 1) da_nil) (len_cons len_nil)))) (dss_one (ds_raiseT T.e_NoDot tk rfl)) dss_nil))))
def E_is_crowd_1 : M Val := (mCall0 F_is_dot (mCons (mVar 1) mNil))
def C_is_crowd_1 : M Val := mLc [1] (mAny 0) (gN 1) (M.ret true) E_is_crowd_1
def Y_is_crowd_1 : M Val := (mVar 1)
def E_is_crowd_2 : M Val := (mC (.bl true))
def C_is_crowd_2 : M Val := mDc true [1] (mSeq (mVar 0)) (gN 1) (M.ret true) Y_is_crowd_1 E_is_crowd_2
def B_is_crowd : M Flw := (sSeq (sIf (mOr (mNot (mTru (mCB fIsi (mCons (mVar 0) (mCons (mC (.op (.ty "tuple"))) mNil))))) (mNot (mB (mChain fLe fLe (mC (.int 3)) (mCB fLen (mCons (mVar 0) mNil)) (mC (.int 12)))))) (sRet (mC (.bl false))) sNx) (sRet (mAndV (mCB fAll (mCons C_is_crowd_1 mNil)) (m2 fEq (mCB fLen (mCons C_is_crowd_2 mNil)) (mCB fLen (mCons (mVar 0) mNil))))))
def F_is_crowd : List D → FR := run0 1 1 B_is_crowd
theorem sc_is_crowd : FnScope ["thing", "one"] ["thing"] (defScope Hd.s_is_crowd) := ⟨rfl, rfl, rfl, by decide +kernel, rfl, by decide +kernel, by decide +kernel⟩
theorem ok_is_crowd {P : Program} {w : World} {K : PySem.W.Frag} {mg : Str → Option Value} {base : Heap} (T : Tops K mg) : HasD P w K mg base "is_crowd" 4 ["thing"] (Prom0 K mg 1 F_is_crowd) := by
  refine has0 (k := 3) (m := 1) T.d_is_crowd sc_is_crowd rfl rfl (fun _ _ _ _ _ _ us hl => match us, hl with | [_], _ => rfl) fun f cdv A outer s H E hr hgd => ?_
  have u := room_u hr
  have nd := (sc_is_crowd).nd
  have tk : Takes (cxOf (L2.CX P w) P w K mg base ["thing", "one"] "is_crowd" (defScope Hd.s_is_crowd) f cdv A outer s H E) (fun cls d _ H => E cls d H) := takes_of rfl rfl rfl rfl
  exact (dss_cons (ds_if (dt_w (dw_or (dt_not (dt_truth (w_callB call_isi cd_isi T.n_isinstance (da_cons (d_var 0) (da_cons (w_ty (T := "tuple") T.n_tuple) da_nil))))) (dw_or1 (dt_not (dt_chain op_le op_le opd_le opd_le (w_gint T.i_LEAST_CROWD) (w_callB cr_lenA cd_len T.n_len (da_cons (d_var 0) da_nil)) (w_gint T.i_MOST_CROWD)))))) (dss_one (ds_ret d_bl)) dss_nil) (dss_one (ds_ret (de_and (w_callB (cr_all rfl) cd_all T.n_all (da_cons (w_lcN 0 [("one", 1)] nd (pv 0) (d_var 0) (fun s1 H1 C1 cl1 fp1 => (w_name 1 nd)) (fun s1 H1 C1 cl1 fp1 => dts_nil) (fun s1 H1 C1 cl1 fp1 => (de_c0 (ok_is_dot T) takes0 hr (by decide) hgd (da_cons (d_var 1) da_nil) (len_cons len_nil)))) da_nil)) (de_one (d_cmp (opr_eqU u) opd_eq (w_callB cr_lenA cd_len T.n_len (da_cons (w_dc true [("one", 1)] u nd (di_seq (d_var 0)) (fun s1 H1 C1 cl1 fp1 => (w_name 1 nd)) (fun s1 H1 C1 cl1 fp1 => dts_nil) (fun s1 H1 C1 cl1 fp1 => (d_var 1)) (fun s1 H1 C1 cl1 fp1 => d_bl)) da_nil)) (w_callB cr_lenA cd_len T.n_len (da_cons (d_var 0) da_nil)) (nomark _)))))))
def B_check_crowd : M Flw := (sIf (mNot (mTru (mCall0 F_is_crowd (mCons (mVar 0) mNil)))) (sRaise ⟨Str.ofString "NoCrowd", []⟩) sNx)
def F_check_crowd : List D → FR := run0 1 0 B_check_crowd
theorem sc_check_crowd : FnScope ["thing"] ["thing"] (defScope Hd.s_check_crowd) := ⟨rfl, rfl, rfl, by decide +kernel, rfl, by decide +kernel, by decide +kernel⟩
theorem ok_check_crowd {P : Program} {w : World} {K : PySem.W.Frag} {mg : Str → Option Value} {base : Heap} (T : Tops K mg) : HasD P w K mg base "check_crowd" 5 ["thing"] (Prom0 K mg 1 F_check_crowd) := by
  refine has0 (k := 4) (m := 0) T.d_check_crowd sc_check_crowd rfl rfl (fun _ _ _ _ _ _ us hl => match us, hl with | [_], _ => rfl) fun f cdv A outer s H E hr hgd => ?_
  have u := room_u hr
  have nd := (sc_check_crowd).nd
  have tk : Takes (cxOf (L2.CX P w) P w K mg base ["thing"] "check_crowd" (defScope Hd.s_check_crowd) f cdv A outer s H E) (fun cls d _ H => E cls d H) := takes_of rfl rfl rfl rfl
  exact (dss_one (ds_if (dt_not (dt_truth (de_c0 (ok_is_crowd T) tk hr (by decide) hgd (da_cons (d_var 0) da_nil) (len_cons len_nil)))) (dss_one (ds_raiseT T.e_NoCrowd tk rfl)) dss_nil))
def E_lots_of_1 : M Val := (m2 fAdd (mVar 5) (mTup (mCons (mVar 6) mNil)))
def C_lots_of_1 : M Val := mLc [6] (mR2 (mCons (mIf (mB (m2 fGt (mCB fLen (mCons (mVar 5) mNil)) (mC (.int 0)))) (m2 fAdd (m2 fIx (mVar 5) (m1 fNeg (mC (.int 1)))) (mC (.int 1))) (mC (.int 0))) (mCons (mVar 0) mNil))) (gN 6) (M.ret true) E_lots_of_1
def K_lots_of_1 : M Flw := (sEx (mMut 4 fExtend (mCons C_lots_of_1 mNil)))
def L_lots_of_1 : M Flw := sFor (mSeq (mVar 2)) (gN 5) K_lots_of_1
def K_lots_of_2 : M Flw := (sSeq (sSet 4 (mLst mNil)) (sSeq L_lots_of_1 (sSet 2 (mVar 4))))
def L_lots_of_2 : M Flw := sFor (mR1 (mCons (mVar 1) mNil)) (gN 3) K_lots_of_2
def B_lots_of : M Flw := (sSeq (sSet 2 (mLst (mCons (mTup mNil) mNil))) (sSeq L_lots_of_2 (sRet (mVar 2))))
def F_lots_of : List D → FR := run0 2 5 B_lots_of
theorem sc_lots_of : FnScope ["many", "size", "found", "turn", "longer", "lot", "one"] ["many", "size"] (defScope Hd.s_lots_of) := ⟨rfl, rfl, rfl, by decide +kernel, rfl, by decide +kernel, by decide +kernel⟩
theorem ok_lots_of {P : Program} {w : World} {K : PySem.W.Frag} {mg : Str → Option Value} {base : Heap} (T : Tops K mg) : HasD P w K mg base "lots_of" 1 ["many", "size"] (Prom0 K mg 2 F_lots_of) := by
  refine has0 (k := 0) (m := 5) T.d_lots_of sc_lots_of rfl rfl (fun _ _ _ _ _ _ us hl => match us, hl with | [_, _], _ => rfl) fun f cdv A outer s H E hr hgd => ?_
  have u := room_u hr
  have nd := (sc_lots_of).nd
  have tk : Takes (cxOf (L2.CX P w) P w K mg base ["many", "size", "found", "turn", "longer", "lot", "one"] "lots_of" (defScope Hd.s_lots_of) f cdv A outer s H E) (fun cls d _ H => E cls d H) := takes_of rfl rfl rfl rfl
  exact (dss_cons (w_set 2 nd (de_lst (da_cons (de_tup da_nil) da_nil))) (dss_cons (ds_for (passes_of rfl) rfl (w_range1 T.n_range (da_cons (d_var 1) da_nil)) (w_name 3 nd) (dss_cons (w_set 4 nd (de_lst da_nil)) (dss_cons (ds_for (passes_of rfl) rfl (di_seq (d_var 2)) (w_name 5 nd) (dss_one (ds_expr (w_mut 4 PySem.F.slot_list_extend mt_extend mut_extend (pv 4) (da_cons (w_lc [("one", 6)] nd (w_range2 T.n_range (da_cons (de_if (dt_cmp op_gt opd_gt (w_callB cr_lenA cd_len T.n_len (da_cons (d_var 5) da_nil)) d_int (nomark _)) (d_bin opr_add opd_add (de_sub (u1 u) (d_var 5) (d_un un_neg und_neg d_int)) d_int) d_int) (da_cons (d_var 0) da_nil))) (fun s1 H1 C1 cl1 fp1 => (w_name 6 nd)) (fun s1 H1 C1 cl1 fp1 => dts_nil) (fun s1 H1 C1 cl1 fp1 => (d_bin opr_add opd_add (d_var 5) (de_tup (da_cons (d_var 6) da_nil))))) da_nil))))) (dss_one (w_set 2 nd (d_var 4)))))) (dss_one (ds_ret (d_var 2)))))
def E_near_enough_1 : M Val := (m2 fLe (mCB fAbs (mCons (mVar 2) mNil)) (mC (.int 10000)))
def J_near_enough_1 : M (List D) := (mSeq (mVar 1))
def C_near_enough_1 : M Val := mLc2 [1, 2] [2] (mSeq (mVar 0)) (gN 1) (M.ret true) J_near_enough_1 (gN 2) (M.ret true) E_near_enough_1
def B_near_enough : M Flw := (sSeq (sIf (mNot (mTru (mCB fAll (mCons C_near_enough_1 mNil)))) (sRaise ⟨Str.ofString "TooFar", []⟩) sNx) (sRet (mVar 0)))
def F_near_enough : List D → FR := run0 1 2 B_near_enough
theorem sc_near_enough : FnScope ["crowd", "dot", "one"] ["crowd"] (defScope Hd.s_near_enough) := ⟨rfl, rfl, rfl, by decide +kernel, rfl, by decide +kernel, by decide +kernel⟩
theorem ok_near_enough {P : Program} {w : World} {K : PySem.W.Frag} {mg : Str → Option Value} {base : Heap} (T : Tops K mg) : HasD P w K mg base "near_enough" 1 ["crowd"] (Prom0 K mg 1 F_near_enough) := by
  refine has0 (k := 0) (m := 2) T.d_near_enough sc_near_enough rfl rfl (fun _ _ _ _ _ _ us hl => match us, hl with | [_], _ => rfl) fun f cdv A outer s H E hr hgd => ?_
  have u := room_u hr
  have nd := (sc_near_enough).nd
  have tk : Takes (cxOf (L2.CX P w) P w K mg base ["crowd", "dot", "one"] "near_enough" (defScope Hd.s_near_enough) f cdv A outer s H E) (fun cls d _ H => E cls d H) := takes_of rfl rfl rfl rfl
  exact (dss_cons (ds_if (dt_not (dt_truth (w_callB (cr_all rfl) cd_all T.n_all (da_cons (w_lc2 [("dot", 1), ("one", 2)] [2] nd (di_seq (d_var 0)) (fun s1 H1 C1 cl1 fp1 => (w_name 1 nd)) (fun s1 H1 C1 cl1 fp1 => dts_nil) (fun s1 H1 C1 cl1 fp1 => (di_seq (d_var 1))) (fun s1 H1 C1 cl1 fp1 => (w_name 2 nd)) (fun s1 H1 C1 cl1 fp1 => dts_nil) (fun s1 H1 C1 cl1 fp1 => (d_cmp op_le opd_le (w_callB call_abs cd_abs T.n_abs (da_cons (d_var 2) da_nil)) (w_gint T.i_MOST_PLACE) (nomark _)))) da_nil)))) (dss_one (ds_raiseT T.e_TooFar tk rfl)) dss_nil) (dss_one (ds_ret (d_var 0))))
def E_moved_1 : M Val := (mTup (mCons (m2 fAdd (mVar 2) (m2 fIx (mVar 1) (mC (.int 0)))) (mCons (m2 fAdd (mVar 3) (m2 fIx (mVar 1) (mC (.int 1)))) mNil)))
def C_moved_1 : M Val := mLc [2, 3] (mAny 0) (gT (gsCons (gN 2) (gsCons (gN 3) gsNil))) (M.ret true) E_moved_1
def B_moved : M Flw := (sSeq (sEx (mCall0 F_check_crowd (mCons (mVar 0) mNil))) (sSeq (sEx (mCall0 F_check_dots (mCons (mTup (mCons (mVar 1) mNil)) mNil))) (sRet (mCall0 F_near_enough (mCons (mCB fTuple (mCons C_moved_1 mNil)) mNil)))))
def F_moved : List D → FR := run0 2 2 B_moved
theorem sc_moved : FnScope ["crowd", "by", "x", "y"] ["crowd", "by"] (defScope Hd.s_moved) := ⟨rfl, rfl, rfl, by decide +kernel, rfl, by decide +kernel, by decide +kernel⟩
theorem ok_moved {P : Program} {w : World} {K : PySem.W.Frag} {mg : Str → Option Value} {base : Heap} (T : Tops K mg) : HasD P w K mg base "moved" 6 ["crowd", "by"] (Prom0 K mg 2 F_moved) := by
  refine has0 (k := 5) (m := 2) T.d_moved sc_moved rfl rfl (fun _ _ _ _ _ _ us hl => match us, hl with | [_, _], _ => rfl) fun f cdv A outer s H E hr hgd => ?_
  have u := room_u hr
  have nd := (sc_moved).nd
  have tk : Takes (cxOf (L2.CX P w) P w K mg base ["crowd", "by", "x", "y"] "moved" (defScope Hd.s_moved) f cdv A outer s H E) (fun cls d _ H => E cls d H) := takes_of rfl rfl rfl rfl
  exact (dss_cons (ds_expr (de_c0 (ok_check_crowd T) tk hr (by decide) hgd (da_cons (d_var 0) da_nil) (len_cons len_nil))) (dss_cons (ds_expr (de_c0 (ok_check_dots T) tk hr (by decide) hgd (da_cons (de_tup (da_cons (d_var 1) da_nil)) da_nil) (len_cons len_nil))) (dss_one (ds_ret (de_c0 (ok_near_enough T) tk hr (by decide) hgd (da_cons (w_callTy call_tuple_of cd_tuple T.n_tuple (da_cons (w_lcN 0 [("x", 2), ("y", 3)] nd (pv 0) (d_var 0) (fun s1 H1 C1 cl1 fp1 => (w_tup 2 (dgs_cons (w_name 2 nd) (dgs_cons (w_name 3 nd) dgs_nil)) (gs_len1 (gs_len1 gs_len0)))) (fun s1 H1 C1 cl1 fp1 => dts_nil) (fun s1 H1 C1 cl1 fp1 => (de_tup (da_cons (d_bin opr_add opd_add (d_var 2) (de_sub (u1 u) (d_var 1) d_int)) (da_cons (d_bin opr_add opd_add (d_var 3) (de_sub (u1 u) (d_var 1) d_int)) da_nil))))) da_nil)) da_nil) (len_cons len_nil))))))
def E_mirrored_1 : M Val := (mTup (mCons (m1 fNeg (mVar 1)) (mCons (mVar 2) mNil)))
def C_mirrored_1 : M Val := mLc [1, 2] (mAny 0) (gT (gsCons (gN 1) (gsCons (gN 2) gsNil))) (M.ret true) E_mirrored_1
def B_mirrored : M Flw := (sSeq (sEx (mCall0 F_check_crowd (mCons (mVar 0) mNil))) (sRet (mCB fTuple (mCons C_mirrored_1 mNil))))
def F_mirrored : List D → FR := run0 1 2 B_mirrored
theorem sc_mirrored : FnScope ["crowd", "x", "y"] ["crowd"] (defScope Hd.s_mirrored) := ⟨rfl, rfl, rfl, by decide +kernel, rfl, by decide +kernel, by decide +kernel⟩
theorem ok_mirrored {P : Program} {w : World} {K : PySem.W.Frag} {mg : Str → Option Value} {base : Heap} (T : Tops K mg) : HasD P w K mg base "mirrored" 6 ["crowd"] (Prom0 K mg 1 F_mirrored) := by
  refine has0 (k := 5) (m := 2) T.d_mirrored sc_mirrored rfl rfl (fun _ _ _ _ _ _ us hl => match us, hl with | [_], _ => rfl) fun f cdv A outer s H E hr hgd => ?_
  have u := room_u hr
  have nd := (sc_mirrored).nd
  have tk : Takes (cxOf (L2.CX P w) P w K mg base ["crowd", "x", "y"] "mirrored" (defScope Hd.s_mirrored) f cdv A outer s H E) (fun cls d _ H => E cls d H) := takes_of rfl rfl rfl rfl
  exact (dss_cons (ds_expr (de_c0 (ok_check_crowd T) tk hr (by decide) hgd (da_cons (d_var 0) da_nil) (len_cons len_nil))) (dss_one (ds_ret (w_callTy call_tuple_of cd_tuple T.n_tuple (da_cons (w_lcN 0 [("x", 1), ("y", 2)] nd (pv 0) (d_var 0) (fun s1 H1 C1 cl1 fp1 => (w_tup 2 (dgs_cons (w_name 1 nd) (dgs_cons (w_name 2 nd) dgs_nil)) (gs_len1 (gs_len1 gs_len0)))) (fun s1 H1 C1 cl1 fp1 => dts_nil) (fun s1 H1 C1 cl1 fp1 => (de_tup (da_cons (d_un un_neg und_neg (d_var 1)) (da_cons (d_var 2) da_nil))))) da_nil)))))
def B_raw_far : M Flw := (sRet (m2 fAdd (m2 fMulI (m2 fSub (m2 fIx (mVar 1) (mC (.int 0))) (m2 fIx (mVar 0) (mC (.int 0)))) (m2 fSub (m2 fIx (mVar 1) (mC (.int 0))) (m2 fIx (mVar 0) (mC (.int 0))))) (m2 fMulI (m2 fSub (m2 fIx (mVar 1) (mC (.int 1))) (m2 fIx (mVar 0) (mC (.int 1)))) (m2 fSub (m2 fIx (mVar 1) (mC (.int 1))) (m2 fIx (mVar 0) (mC (.int 1)))))))
def F_raw_far : List D → FR := run0 2 0 B_raw_far
theorem sc_raw_far : FnScope ["a", "b"] ["a", "b"] (defScope Hd.s_raw_far) := ⟨rfl, rfl, rfl, by decide +kernel, rfl, by decide +kernel, by decide +kernel⟩
theorem ok_raw_far {P : Program} {w : World} {K : PySem.W.Frag} {mg : Str → Option Value} {base : Heap} (T : Tops K mg) : HasD P w K mg base "raw_far" 1 ["a", "b"] (Prom0 K mg 2 F_raw_far) := by
  refine has0 (k := 0) (m := 0) T.d_raw_far sc_raw_far rfl rfl (fun _ _ _ _ _ _ us hl => match us, hl with | [_, _], _ => rfl) fun f cdv A outer s H E hr hgd => ?_
  have u := room_u hr
  have nd := (sc_raw_far).nd
  have tk : Takes (cxOf (L2.CX P w) P w K mg base ["a", "b"] "raw_far" (defScope Hd.s_raw_far) f cdv A outer s H E) (fun cls d _ H => E cls d H) := takes_of rfl rfl rfl rfl
  exact (dss_one (ds_ret (d_bin opr_add opd_add (d_bin opr_mul opd_mul (d_bin op_sub opd_sub (de_sub (u1 u) (d_var 1) d_int) (de_sub (u1 u) (d_var 0) d_int)) (d_bin op_sub opd_sub (de_sub (u1 u) (d_var 1) d_int) (de_sub (u1 u) (d_var 0) d_int))) (d_bin opr_mul opd_mul (d_bin op_sub opd_sub (de_sub (u1 u) (d_var 1) d_int) (de_sub (u1 u) (d_var 0) d_int)) (d_bin op_sub opd_sub (de_sub (u1 u) (d_var 1) d_int) (de_sub (u1 u) (d_var 0) d_int))))))
def K_raw_far_counts_1 : M Flw := (sSeq (sSet 4 (mCall0 F_raw_far (mCons (m2 fIx (mVar 0) (mVar 2)) (mCons (m2 fIx (mVar 0) (mVar 3)) mNil)))) (sStore 1 (mVar 4) (m2 fAdd (mGet2 (mVar 1) (mVar 4) (mC (.int 0))) (mC (.int 1)))))
def L_raw_far_counts_1 : M Flw := sFor (mSeq (mCall0 F_lots_of (mCons (mCB fLen (mCons (mVar 0) mNil)) (mCons (mC (.int 2)) mNil)))) (gT (gsCons (gN 2) (gsCons (gN 3) gsNil))) K_raw_far_counts_1
def B_raw_far_counts : M Flw := (sSeq (sSet 1 (mNewD false)) (sSeq L_raw_far_counts_1 (sRet (mVar 1))))
def F_raw_far_counts : List D → FR := run0 1 4 B_raw_far_counts
theorem sc_raw_far_counts : FnScope ["crowd", "found", "i", "j", "far"] ["crowd"] (defScope Hd.s_raw_far_counts) := ⟨rfl, rfl, rfl, by decide +kernel, rfl, by decide +kernel, by decide +kernel⟩
theorem ok_raw_far_counts {P : Program} {w : World} {K : PySem.W.Frag} {mg : Str → Option Value} {base : Heap} (T : Tops K mg) : HasD P w K mg base "raw_far_counts" 2 ["crowd"] (Prom0 K mg 1 F_raw_far_counts) := by
  refine has0 (k := 1) (m := 4) T.d_raw_far_counts sc_raw_far_counts rfl rfl (fun _ _ _ _ _ _ us hl => match us, hl with | [_], _ => rfl) fun f cdv A outer s H E hr hgd => ?_
  have u := room_u hr
  have nd := (sc_raw_far_counts).nd
  have tk : Takes (cxOf (L2.CX P w) P w K mg base ["crowd", "found", "i", "j", "far"] "raw_far_counts" (defScope Hd.s_raw_far_counts) f cdv A outer s H E) (fun cls d _ H => E cls d H) := takes_of rfl rfl rfl rfl
  exact (dss_cons (w_set 1 nd (de_newD false)) (dss_cons (ds_for (passes_of rfl) rfl (di_seq (de_c0 (ok_lots_of T) tk hr (by decide) hgd (da_cons (w_callB cr_lenA cd_len T.n_len (da_cons (d_var 0) da_nil)) (da_cons d_int da_nil)) (len_cons (len_cons len_nil)))) (w_tup 2 (dgs_cons (w_name 2 nd) (dgs_cons (w_name 3 nd) dgs_nil)) (gs_len1 (gs_len1 gs_len0))) (dss_cons (w_set 4 nd (de_c0 (ok_raw_far T) tk hr (by decide) hgd (da_cons (de_sub (u1 u) (d_var 0) (d_var 2)) (da_cons (de_sub (u1 u) (d_var 0) (d_var 3)) da_nil)) (len_cons (len_cons len_nil)))) (dss_one (ds_store (u1 u) (pv 1) (d_var 4) (d_bin opr_add opd_add (de_get2 (u1 u) (d_var 1) (d_var 4) d_int ⟨rfl, rfl, rfl, rfl⟩) d_int))))) (dss_one (ds_ret (d_var 1)))))
def E_as_pairs_1 : M Val := (mTup (mCons (mVar 1) (mCons (m2 fIx (mVar 0) (mVar 1)) mNil)))
def C_as_pairs_1 : M Val := mLc [1] (mSeq (mCB fSortA (mCons (mVar 0) mNil))) (gN 1) (M.ret true) E_as_pairs_1
def B_as_pairs : M Flw := (sRet (mCB fTuple (mCons C_as_pairs_1 mNil)))
def F_as_pairs : List D → FR := run0 1 1 B_as_pairs
theorem sc_as_pairs : FnScope ["table", "one"] ["table"] (defScope Hd.s_as_pairs) := ⟨rfl, rfl, rfl, by decide +kernel, rfl, by decide +kernel, by decide +kernel⟩
theorem ok_as_pairs {P : Program} {w : World} {K : PySem.W.Frag} {mg : Str → Option Value} {base : Heap} (T : Tops K mg) : HasD P w K mg base "as_pairs" 1 ["table"] (Prom0 K mg 1 F_as_pairs) := by
  refine has0 (k := 0) (m := 1) T.d_as_pairs sc_as_pairs rfl rfl (fun _ _ _ _ _ _ us hl => match us, hl with | [_], _ => rfl) fun f cdv A outer s H E hr hgd => ?_
  have u := room_u hr
  have nd := (sc_as_pairs).nd
  have tk : Takes (cxOf (L2.CX P w) P w K mg base ["table", "one"] "as_pairs" (defScope Hd.s_as_pairs) f cdv A outer s H E) (fun cls d _ H => E cls d H) := takes_of rfl rfl rfl rfl
  exact (dss_one (ds_ret (w_callTy call_tuple_of cd_tuple T.n_tuple (da_cons (w_lc [("one", 1)] nd (di_seq (w_callB (cr_sortA rfl u) cd_sortA T.n_sorted (da_cons (d_var 0) da_nil))) (fun s1 H1 C1 cl1 fp1 => (w_name 1 nd)) (fun s1 H1 C1 cl1 fp1 => dts_nil) (fun s1 H1 C1 cl1 fp1 => (de_tup (da_cons (d_var 1) (da_cons (de_sub (u1 u) (d_var 0) (d_var 1)) da_nil))))) da_nil))))
def B_far_counts : M Flw := (sSeq (sEx (mCall0 F_check_crowd (mCons (mVar 0) mNil))) (sRet (mCall0 F_as_pairs (mCons (mCall0 F_raw_far_counts (mCons (mVar 0) mNil)) mNil))))
def F_far_counts : List D → FR := run0 1 0 B_far_counts
theorem sc_far_counts : FnScope ["crowd"] ["crowd"] (defScope Hd.s_far_counts) := ⟨rfl, rfl, rfl, by decide +kernel, rfl, by decide +kernel, by decide +kernel⟩
theorem ok_far_counts {P : Program} {w : World} {K : PySem.W.Frag} {mg : Str → Option Value} {base : Heap} (T : Tops K mg) : HasD P w K mg base "far_counts" 6 ["crowd"] (Prom0 K mg 1 F_far_counts) := by
  refine has0 (k := 5) (m := 0) T.d_far_counts sc_far_counts rfl rfl (fun _ _ _ _ _ _ us hl => match us, hl with | [_], _ => rfl) fun f cdv A outer s H E hr hgd => ?_
  have u := room_u hr
  have nd := (sc_far_counts).nd
  have tk : Takes (cxOf (L2.CX P w) P w K mg base ["crowd"] "far_counts" (defScope Hd.s_far_counts) f cdv A outer s H E) (fun cls d _ H => E cls d H) := takes_of rfl rfl rfl rfl
  exact (dss_cons (ds_expr (de_c0 (ok_check_crowd T) tk hr (by decide) hgd (da_cons (d_var 0) da_nil) (len_cons len_nil))) (dss_one (ds_ret (de_c0 (ok_as_pairs T) tk hr (by decide) hgd (da_cons (de_c0 (ok_raw_far_counts T) tk hr (by decide) hgd (da_cons (d_var 0) da_nil) (len_cons len_nil)) da_nil) (len_cons len_nil)))))
def E_most_often_1 : M Val := (m2 fIx (mVar 1) (mVar 3))
def C_most_often_1 : M Val := mLc [3] (mAny 1) (gN 3) (M.ret true) E_most_often_1
def E_most_often_2 : M Val := (mVar 3)
def T_most_often_1 : M Bool := (mB (m2 fEq (m2 fIx (mVar 1) (mVar 3)) (mVar 2)))
def C_most_often_2 : M Val := mLc [3] (mAny 1) (gN 3) T_most_often_1 E_most_often_2
def B_most_often : M Flw := (sSeq (sEx (mCall0 F_check_crowd (mCons (mVar 0) mNil))) (sSeq (sSet 1 (mCall0 F_raw_far_counts (mCons (mVar 0) mNil))) (sSeq (sSet 2 (mCB fMax1 (mCons C_most_often_1 mNil))) (sRet (mTup (mCons (mVar 2) (mCons (mCB fMin1 (mCons C_most_often_2 mNil)) mNil)))))))
def F_most_often : List D → FR := run0 1 3 B_most_often
theorem sc_most_often : FnScope ["crowd", "table", "many", "far"] ["crowd"] (defScope Hd.s_most_often) := ⟨rfl, rfl, rfl, by decide +kernel, rfl, by decide +kernel, by decide +kernel⟩
theorem ok_most_often {P : Program} {w : World} {K : PySem.W.Frag} {mg : Str → Option Value} {base : Heap} (T : Tops K mg) : HasD P w K mg base "most_often" 6 ["crowd"] (Prom0 K mg 1 F_most_often) := by
  refine has0 (k := 5) (m := 3) T.d_most_often sc_most_often rfl rfl (fun _ _ _ _ _ _ us hl => match us, hl with | [_], _ => rfl) fun f cdv A outer s H E hr hgd => ?_
  have u := room_u hr
  have nd := (sc_most_often).nd
  have tk : Takes (cxOf (L2.CX P w) P w K mg base ["crowd", "table", "many", "far"] "most_often" (defScope Hd.s_most_often) f cdv A outer s H E) (fun cls d _ H => E cls d H) := takes_of rfl rfl rfl rfl
  exact (dss_cons (ds_expr (de_c0 (ok_check_crowd T) tk hr (by decide) hgd (da_cons (d_var 0) da_nil) (len_cons len_nil))) (dss_cons (w_set 1 nd (de_c0 (ok_raw_far_counts T) tk hr (by decide) hgd (da_cons (d_var 0) da_nil) (len_cons len_nil))) (dss_cons (w_set 2 nd (w_callB (cr_max rfl) cd_max1 T.n_max (da_cons (w_lcN 1 [("far", 3)] nd (pv 1) (d_var 1) (fun s1 H1 C1 cl1 fp1 => (w_name 3 nd)) (fun s1 H1 C1 cl1 fp1 => dts_nil) (fun s1 H1 C1 cl1 fp1 => (de_sub (u1 u) (d_var 1) (d_var 3)))) da_nil))) (dss_one (ds_ret (de_tup (da_cons (d_var 2) (da_cons (w_callB (cr_min rfl) cd_min1 T.n_min (da_cons (w_lcN 1 [("far", 3)] nd (pv 1) (d_var 1) (fun s1 H1 C1 cl1 fp1 => (w_name 3 nd)) (fun s1 H1 C1 cl1 fp1 => (dts_one (dt_cmp (opr_eqU u) opd_eq (de_sub (u1 u) (d_var 1) (d_var 3)) (d_var 2) (nomark _)))) (fun s1 H1 C1 cl1 fp1 => (d_var 3))) da_nil)) da_nil))))))))
def B_unlike_far_many : M Flw := (sSeq (sEx (mCall0 F_check_crowd (mCons (mVar 0) mNil))) (sRet (mCB fLen (mCons (mCall0 F_raw_far_counts (mCons (mVar 0) mNil)) mNil))))
def F_unlike_far_many : List D → FR := run0 1 0 B_unlike_far_many
theorem sc_unlike_far_many : FnScope ["crowd"] ["crowd"] (defScope Hd.s_unlike_far_many) := ⟨rfl, rfl, rfl, by decide +kernel, rfl, by decide +kernel, by decide +kernel⟩
theorem ok_unlike_far_many {P : Program} {w : World} {K : PySem.W.Frag} {mg : Str → Option Value} {base : Heap} (T : Tops K mg) : HasD P w K mg base "unlike_far_many" 6 ["crowd"] (Prom0 K mg 1 F_unlike_far_many) := by
  refine has0 (k := 5) (m := 0) T.d_unlike_far_many sc_unlike_far_many rfl rfl (fun _ _ _ _ _ _ us hl => match us, hl with | [_], _ => rfl) fun f cdv A outer s H E hr hgd => ?_
  have u := room_u hr
  have nd := (sc_unlike_far_many).nd
  have tk : Takes (cxOf (L2.CX P w) P w K mg base ["crowd"] "unlike_far_many" (defScope Hd.s_unlike_far_many) f cdv A outer s H E) (fun cls d _ H => E cls d H) := takes_of rfl rfl rfl rfl
  exact (dss_cons (ds_expr (de_c0 (ok_check_crowd T) tk hr (by decide) hgd (da_cons (d_var 0) da_nil) (len_cons len_nil))) (dss_one (ds_ret (w_callB cr_lenA cd_len T.n_len (da_cons (de_c0 (ok_raw_far_counts T) tk hr (by decide) hgd (da_cons (d_var 0) da_nil) (len_cons len_nil)) da_nil)))))
def E__law_hand_1 : M Val := (mCB fAbs (mCons (mCB fInt (mCons (mVar 2) mNil)) mNil))
def C__law_hand_1 : M Val := mLc [2] (mSeq (mSl fSl (mVar 0) none (some (mC (.int 63))))) (gN 2) (M.ret true) E__law_hand_1
def B__law_hand : M Flw := (sSeq (sSet 1 C__law_hand_1) (sRet (mLst (mCons (mVar 1) (mCons (mC (.int 0)) (mCons (mC (.int 0)) (mCons (m2 fAdd (mC (.int 4959)) (m2 fMulI (mC (.int 7)) (mCB fLen (mCons (mVar 1) mNil)))) (mCons (mC (.int 0)) mNil))))))))
def F__law_hand : List D → FR := run0 1 2 B__law_hand
theorem sc__law_hand : FnScope ["script", "cells", "cell"] ["script"] (defScope Hd.s__law_hand) := ⟨rfl, rfl, rfl, by decide +kernel, rfl, by decide +kernel, by decide +kernel⟩
theorem ok__law_hand {P : Program} {w : World} {K : PySem.W.Frag} {mg : Str → Option Value} {base : Heap} (T : Tops K mg) : HasD P w K mg base "_law_hand" 1 ["script"] (Prom0 K mg 1 F__law_hand) := by
  refine has0 (k := 0) (m := 2) T.d__law_hand sc__law_hand rfl rfl (fun _ _ _ _ _ _ us hl => match us, hl with | [_], _ => rfl) fun f cdv A outer s H E hr hgd => ?_
  have u := room_u hr
  have nd := (sc__law_hand).nd
  have tk : Takes (cxOf (L2.CX P w) P w K mg base ["script", "cells", "cell"] "_law_hand" (defScope Hd.s__law_hand) f cdv A outer s H E) (fun cls d _ H => E cls d H) := takes_of rfl rfl rfl rfl
  exact (dss_cons (w_setLc 1 [("cell", 2)] nd (di_seq (de_sl (d_var 0) trivial d_int)) (fun s1 H1 C1 cl1 fp1 => (w_name 2 nd)) (fun s1 H1 C1 cl1 fp1 => dts_nil) (fun s1 H1 C1 cl1 fp1 => (w_callB call_abs cd_abs T.n_abs (da_cons (w_callTy call_int1 cd_int T.n_int (da_cons (d_var 2) da_nil)) da_nil)))) (dss_one (ds_ret (de_lst (da_cons (d_var 1) (da_cons d_int (da_cons d_int (da_cons (d_bin opr_add opd_add d_int (d_bin opr_mul opd_mul d_int (w_callB cr_lenA cd_len T.n_len (da_cons (d_var 1) da_nil)))) (da_cons d_int da_nil)))))))))
def B__law_draw : M Flw := (sSeq (sIf (mAnd (mB (m2 fEq (m2 fIx (mVar 0) (mC (.int 2))) (mC (.int 0)))) (mB (m2 fLt (m2 fIx (mVar 0) (mC (.int 1))) (mCB fLen (mCons (m2 fIx (mVar 0) (mC (.int 0))) mNil))))) (sSeq (sSet 3 (m2 fIx (m2 fIx (mVar 0) (mC (.int 0))) (m2 fIx (mVar 0) (mC (.int 1))))) (sSeq (sStore 0 (mC (.int 1)) (m2 fAdd (m2 fIx (mVar 0) (mC (.int 1))) (mC (.int 1)))) (sSeq (sStore 0 (mC (.int 3)) (m2 fMod (mCB fInt (mCons (m2 fAdd (m2 fAdd (m2 fMulI (m2 fIx (mVar 0) (mC (.int 3))) (mC (.int 69621))) (m2 fMulI (mVar 3) (mC (.int 40692)))) (mC (.int 31))) mNil)) (mC (.int 2147483629)))) (sIf (mB (m2 fGe (mVar 3) (m2 fPow (mC (.int 10)) (mC (.int 18))))) (sStore 0 (mC (.int 2)) (mVar 3)) sNx)))) sNx) (sSeq (sIf (mB (m2 fGt (m2 fIx (mVar 0) (mC (.int 2))) (mC (.int 0)))) (sSeq (sSet 4 (m2 fMod (mCB fInt (mCons (m2 fIx (mVar 0) (mC (.int 2))) mNil)) (mVar 1))) (sSeq (sStore 0 (mC (.int 2)) (m2 fDiv (m2 fIx (mVar 0) (mC (.int 2))) (mVar 1))) (sRet (mVar 4)))) sNx) (sSeq (sStore 0 (mC (.int 4)) (m2 fAdd (m2 fIx (mVar 0) (mC (.int 4))) (mC (.int 1)))) (sSeq (sSet 2 (m2 fMod (mCB fInt (mCons (m2 fMulI (mCB fInt (mCons (m2 fAdd (m2 fIx (mVar 0) (mC (.int 3))) (m2 fMulI (mC (.int 7919)) (m2 fIx (mVar 0) (mC (.int 4))))) mNil)) (mC (.int 48271))) mNil)) (mC (.int 2147483647)))) (sSeq (sSet 2 (m2 fMod (mCB fInt (mCons (m2 fMulI (mVar 2) (m2 fAdd (m2 fDiv (mVar 2) (mC (.int 1009))) (mC (.int 69621)))) mNil)) (mC (.int 2147483647)))) (sSeq (sSet 2 (m2 fMod (mCB fInt (mCons (m2 fMulI (mVar 2) (m2 fAdd (m2 fDiv (mVar 2) (mC (.int 2003))) (mC (.int 40014)))) mNil)) (mC (.int 2147483563)))) (sRet (m2 fMod (mCB fInt (mCons (m2 fDiv (mVar 2) (mC (.int 16))) mNil)) (mVar 1)))))))))
def F__law_draw : List D → FR := run1 2 3 B__law_draw
theorem sc__law_draw : FnScope ["hand", "below", "number", "cell", "digit"] ["hand", "below"] (defScope Hd.s__law_draw) := ⟨rfl, rfl, rfl, by decide +kernel, rfl, by decide +kernel, by decide +kernel⟩
theorem ok__law_draw {P : Program} {w : World} {K : PySem.W.Frag} {mg : Str → Option Value} {base : Heap} (T : Tops K mg) : HasD P w K mg base "_law_draw" 1 ["hand", "below"] (Prom1 K mg 2 F__law_draw) := by
  refine has1 (k := 0) (m := 3) T.d__law_draw sc__law_draw rfl rfl (fun _ _ _ _ _ _ us hl => match us, hl with | [_, _], _ => rfl) fun f cdv A outer s H E hr hgd => ?_
  have u := room_u hr
  have nd := (sc__law_draw).nd
  have tk : Takes (cxOf (L2.CX P w) P w K mg base ["hand", "below", "number", "cell", "digit"] "_law_draw" (defScope Hd.s__law_draw) f cdv A outer s H E) (fun cls d _ H => E cls d H) := takes_of rfl rfl rfl rfl
  exact (dss_cons (ds_if (dt_w (dw_and (dt_cmp (opr_eqU u) opd_eq (de_sub (u1 u) (d_var 0) d_int) d_int (nomark _)) (dw_and1 (dt_cmp op_lt opd_lt (de_sub (u1 u) (d_var 0) d_int) (w_callB cr_lenA cd_len T.n_len (da_cons (de_sub (u1 u) (d_var 0) d_int) da_nil)) (nomark _))))) (dss_cons (w_set 3 nd (de_sub (u1 u) (de_sub (u1 u) (d_var 0) d_int) (de_sub (u1 u) (d_var 0) d_int))) (dss_cons (ds_store (u1 u) (pv 0) d_int (d_bin opr_add opd_add (de_sub (u1 u) (d_var 0) d_int) d_int)) (dss_cons (ds_store (u1 u) (pv 0) d_int (d_bin opr_mod opd_mod (w_callTy call_int1 cd_int T.n_int (da_cons (d_bin opr_add opd_add (d_bin opr_add opd_add (d_bin opr_mul opd_mul (de_sub (u1 u) (d_var 0) d_int) d_int) (d_bin opr_mul opd_mul (d_var 3) d_int)) d_int) da_nil)) d_int)) (dss_one (ds_if (dt_cmp op_ge opd_ge (d_var 3) (d_bin op_pow opd_pow d_int d_int) (nomark _)) (dss_one (ds_store (u1 u) (pv 0) d_int (d_var 3))) dss_nil))))) dss_nil) (dss_cons (ds_if (dt_cmp op_gt opd_gt (de_sub (u1 u) (d_var 0) d_int) d_int (nomark _)) (dss_cons (w_set 4 nd (d_bin opr_mod opd_mod (w_callTy call_int1 cd_int T.n_int (da_cons (de_sub (u1 u) (d_var 0) d_int) da_nil)) (d_var 1))) (dss_cons (ds_store (u1 u) (pv 0) d_int (d_bin opr_div opd_div (de_sub (u1 u) (d_var 0) d_int) (d_var 1))) (dss_one (ds_ret (d_var 4))))) dss_nil) (dss_cons (ds_store (u1 u) (pv 0) d_int (d_bin opr_add opd_add (de_sub (u1 u) (d_var 0) d_int) d_int)) (dss_cons (w_set 2 nd (d_bin opr_mod opd_mod (w_callTy call_int1 cd_int T.n_int (da_cons (d_bin opr_mul opd_mul (w_callTy call_int1 cd_int T.n_int (da_cons (d_bin opr_add opd_add (de_sub (u1 u) (d_var 0) d_int) (d_bin opr_mul opd_mul d_int (de_sub (u1 u) (d_var 0) d_int))) da_nil)) d_int) da_nil)) d_int)) (dss_cons (w_set 2 nd (d_bin opr_mod opd_mod (w_callTy call_int1 cd_int T.n_int (da_cons (d_bin opr_mul opd_mul (d_var 2) (d_bin opr_add opd_add (d_bin opr_div opd_div (d_var 2) d_int) d_int)) da_nil)) d_int)) (dss_cons (w_set 2 nd (d_bin opr_mod opd_mod (w_callTy call_int1 cd_int T.n_int (da_cons (d_bin opr_mul opd_mul (d_var 2) (d_bin opr_add opd_add (d_bin opr_div opd_div (d_var 2) d_int) d_int)) da_nil)) d_int)) (dss_one (ds_ret (d_bin opr_mod opd_mod (w_callTy call_int1 cd_int T.n_int (da_cons (d_bin opr_div opd_div (d_var 2) d_int) da_nil)) (d_var 1))))))))))
def B__law_any : M Flw := (sRet (m2 fIx (mVar 1) (mCall1 F__law_draw (mCons (mVar 0) (mCons (mCB fLen (mCons (mVar 1) mNil)) mNil)))))
def F__law_any : List D → FR := run1 2 0 B__law_any
theorem sc__law_any : FnScope ["hand", "some"] ["hand", "some"] (defScope Hd.s__law_any) := ⟨rfl, rfl, rfl, by decide +kernel, rfl, by decide +kernel, by decide +kernel⟩
theorem ok__law_any {P : Program} {w : World} {K : PySem.W.Frag} {mg : Str → Option Value} {base : Heap} (T : Tops K mg) : HasD P w K mg base "_law_any" 2 ["hand", "some"] (Prom1 K mg 2 F__law_any) := by
  refine has1 (k := 1) (m := 0) T.d__law_any sc__law_any rfl rfl (fun _ _ _ _ _ _ us hl => match us, hl with | [_, _], _ => rfl) fun f cdv A outer s H E hr hgd => ?_
  have u := room_u hr
  have nd := (sc__law_any).nd
  have tk : Takes (cxOf (L2.CX P w) P w K mg base ["hand", "some"] "_law_any" (defScope Hd.s__law_any) f cdv A outer s H E) (fun cls d _ H => E cls d H) := takes_of rfl rfl rfl rfl
  exact (dss_one (ds_ret (de_sub (u1 u) (d_var 1) (de_c1 (ok__law_draw T) tk hr (by decide) hgd (da_cons (d_var 0) (da_cons (w_callB cr_lenA cd_len T.n_len (da_cons (d_var 1) da_nil)) da_nil)) (len_cons (len_cons len_nil))))))
def T__law_mixed_1 : M Bool := (mB (m2 fGt (mCB fLen (mCons (mVar 2) mNil)) (mC (.int 0))))
def K__law_mixed_1 : M Flw := (sEx (mMut 3 fAppend (mCons (mMut 2 fPopAt (mCons (mCall1 F__law_draw (mCons (mVar 0) (mCons (mCB fLen (mCons (mVar 2) mNil)) mNil))) mNil)) mNil)))
def L__law_mixed_1 : M Flw := whileN T__law_mixed_1 K__law_mixed_1 1000000000
def B__law_mixed : M Flw := (sSeq (sPar [2, 3] (mCons (mCB fList (mCons (mVar 1) mNil)) (mCons (mLst mNil) mNil))) (sSeq L__law_mixed_1 (sRet (mVar 3))))
def F__law_mixed : List D → FR := run1 2 2 B__law_mixed
theorem sc__law_mixed : FnScope ["hand", "things", "left", "found"] ["hand", "things"] (defScope Hd.s__law_mixed) := ⟨rfl, rfl, rfl, by decide +kernel, rfl, by decide +kernel, by decide +kernel⟩
theorem ok__law_mixed {P : Program} {w : World} {K : PySem.W.Frag} {mg : Str → Option Value} {base : Heap} (T : Tops K mg) : HasD P w K mg base "_law_mixed" 2 ["hand", "things"] (Prom1 K mg 2 F__law_mixed) := by
  refine has1 (k := 1) (m := 2) T.d__law_mixed sc__law_mixed rfl rfl (fun _ _ _ _ _ _ us hl => match us, hl with | [_, _], _ => rfl) fun f cdv A outer s H E hr hgd => ?_
  have u := room_u hr
  have nd := (sc__law_mixed).nd
  have tk : Takes (cxOf (L2.CX P w) P w K mg base ["hand", "things", "left", "found"] "_law_mixed" (defScope Hd.s__law_mixed) f cdv A outer s H E) (fun cls d _ H => E cls d H) := takes_of rfl rfl rfl rfl
  exact (dss_cons (by first | exact (w_par2 2 3 nd (da_cons (w_callTy call_list_of cd_list T.n_list (da_cons (d_var 1) da_nil)) (da_cons (de_lst da_nil) da_nil))) | exact (ds_parG (is := [2, 3]) rfl ((pgs_cons (w_pg 2 nd) (pgs_cons (w_pg 3 nd) pgs_nil))) (da_cons (w_callTy call_list_of cd_list T.n_list (da_cons (d_var 1) da_nil)) (da_cons (de_lst da_nil) da_nil)) (by decide))) (dss_cons (ds_while 1000000000 (passes_of rfl) (dt_cmp op_gt opd_gt (w_callB cr_lenA cd_len T.n_len (da_cons (d_var 2) da_nil)) d_int (nomark _)) (dss_one (ds_expr (w_mut 3 PySem.F.slot_list_append mt_append mut_append (pv 3) (da_cons (w_mut 2 PySem.F.slot_list_pop mt_popAt mut_popAt (pv 2) (da_cons (de_c1 (ok__law_draw T) tk hr (by decide) hgd (da_cons (d_var 0) (da_cons (w_callB cr_lenA cd_len T.n_len (da_cons (d_var 2) da_nil)) da_nil)) (len_cons (len_cons len_nil))) da_nil)) da_nil))))) (dss_one (ds_ret (d_var 3)))))
def E__law_lots_1 : M Val := (m2 fAdd (mVar 5) (mTup (mCons (mVar 6) mNil)))
def C__law_lots_1 : M Val := mLc [6] (mR2 (mCons (mIf (mB (m2 fGt (mCB fLen (mCons (mVar 5) mNil)) (mC (.int 0)))) (m2 fAdd (m2 fIx (mVar 5) (m1 fNeg (mC (.int 1)))) (mC (.int 1))) (mC (.int 0))) (mCons (mVar 0) mNil))) (gN 6) (M.ret true) E__law_lots_1
def K__law_lots_1 : M Flw := (sEx (mMut 4 fExtend (mCons C__law_lots_1 mNil)))
def L__law_lots_1 : M Flw := sFor (mSeq (mVar 2)) (gN 5) K__law_lots_1
def K__law_lots_2 : M Flw := (sSeq (sSet 4 (mLst mNil)) (sSeq L__law_lots_1 (sSet 2 (mVar 4))))
def L__law_lots_2 : M Flw := sFor (mR1 (mCons (mVar 1) mNil)) (gN 3) K__law_lots_2
def B__law_lots : M Flw := (sSeq (sSet 2 (mLst (mCons (mTup mNil) mNil))) (sSeq L__law_lots_2 (sRet (mVar 2))))
def F__law_lots : List D → FR := run0 2 5 B__law_lots
theorem sc__law_lots : FnScope ["many", "size", "found", "lap_on", "longer", "lot", "one"] ["many", "size"] (defScope Hd.s__law_lots) := ⟨rfl, rfl, rfl, by decide +kernel, rfl, by decide +kernel, by decide +kernel⟩
theorem ok__law_lots {P : Program} {w : World} {K : PySem.W.Frag} {mg : Str → Option Value} {base : Heap} (T : Tops K mg) : HasD P w K mg base "_law_lots" 1 ["many", "size"] (Prom0 K mg 2 F__law_lots) := by
  refine has0 (k := 0) (m := 5) T.d__law_lots sc__law_lots rfl rfl (fun _ _ _ _ _ _ us hl => match us, hl with | [_, _], _ => rfl) fun f cdv A outer s H E hr hgd => ?_
  have u := room_u hr
  have nd := (sc__law_lots).nd
  have tk : Takes (cxOf (L2.CX P w) P w K mg base ["many", "size", "found", "lap_on", "longer", "lot", "one"] "_law_lots" (defScope Hd.s__law_lots) f cdv A outer s H E) (fun cls d _ H => E cls d H) := takes_of rfl rfl rfl rfl
  exact (dss_cons (w_set 2 nd (de_lst (da_cons (de_tup da_nil) da_nil))) (dss_cons (ds_for (passes_of rfl) rfl (w_range1 T.n_range (da_cons (d_var 1) da_nil)) (w_name 3 nd) (dss_cons (w_set 4 nd (de_lst da_nil)) (dss_cons (ds_for (passes_of rfl) rfl (di_seq (d_var 2)) (w_name 5 nd) (dss_one (ds_expr (w_mut 4 PySem.F.slot_list_extend mt_extend mut_extend (pv 4) (da_cons (w_lc [("one", 6)] nd (w_range2 T.n_range (da_cons (de_if (dt_cmp op_gt opd_gt (w_callB cr_lenA cd_len T.n_len (da_cons (d_var 5) da_nil)) d_int (nomark _)) (d_bin opr_add opd_add (de_sub (u1 u) (d_var 5) (d_un un_neg und_neg d_int)) d_int) d_int) (da_cons (d_var 0) da_nil))) (fun s1 H1 C1 cl1 fp1 => (w_name 6 nd)) (fun s1 H1 C1 cl1 fp1 => dts_nil) (fun s1 H1 C1 cl1 fp1 => (d_bin opr_add opd_add (d_var 5) (de_tup (da_cons (d_var 6) da_nil))))) da_nil))))) (dss_one (w_set 2 nd (d_var 4)))))) (dss_one (ds_ret (d_var 2)))))
def E__law_crowd_1 : M Val := (mTup (mCons (m2 fSub (mVar 4) (m2 fDiv (mVar 2) (mC (.int 2)))) (mCons (m2 fSub (mVar 5) (m2 fDiv (mVar 2) (mC (.int 2)))) mNil)))
def C__law_crowd_1 : M Val := mLc [5] (mR1 (mCons (mVar 2) mNil)) (gN 5) (M.ret true) E__law_crowd_1
def K__law_crowd_1 : M Flw := (sEx (mMut 3 fExtend (mCons C__law_crowd_1 mNil)))
def L__law_crowd_1 : M Flw := sFor (mR1 (mCons (mVar 2) mNil)) (gN 4) K__law_crowd_1
def B__law_crowd : M Flw := (sSeq (sSet 3 (mLst mNil)) (sSeq L__law_crowd_1 (sRet (mCB fTuple (mCons (mSl fSl (mCall1 F__law_mixed (mCons (mVar 0) (mCons (mVar 3) mNil))) none (some (mVar 1))) mNil)))))
def F__law_crowd : List D → FR := run1 3 3 B__law_crowd
theorem sc__law_crowd : FnScope ["hand", "many", "size", "every", "x", "y"] ["hand", "many", "size"] (defScope Hd.s__law_crowd) := ⟨rfl, rfl, rfl, by decide +kernel, rfl, by decide +kernel, by decide +kernel⟩
theorem ok__law_crowd {P : Program} {w : World} {K : PySem.W.Frag} {mg : Str → Option Value} {base : Heap} (T : Tops K mg) : HasD P w K mg base "_law_crowd" 3 ["hand", "many", "size"] (Prom1 K mg 3 F__law_crowd) := by
  refine has1 (k := 2) (m := 3) T.d__law_crowd sc__law_crowd rfl rfl (fun _ _ _ _ _ _ us hl => match us, hl with | [_, _, _], _ => rfl) fun f cdv A outer s H E hr hgd => ?_
  have u := room_u hr
  have nd := (sc__law_crowd).nd
  have tk : Takes (cxOf (L2.CX P w) P w K mg base ["hand", "many", "size", "every", "x", "y"] "_law_crowd" (defScope Hd.s__law_crowd) f cdv A outer s H E) (fun cls d _ H => E cls d H) := takes_of rfl rfl rfl rfl
  exact (dss_cons (w_set 3 nd (de_lst da_nil)) (dss_cons (ds_for (passes_of rfl) rfl (w_range1 T.n_range (da_cons (d_var 2) da_nil)) (w_name 4 nd) (dss_one (ds_expr (w_mut 3 PySem.F.slot_list_extend mt_extend mut_extend (pv 3) (da_cons (w_lc [("y", 5)] nd (w_range1 T.n_range (da_cons (d_var 2) da_nil)) (fun s1 H1 C1 cl1 fp1 => (w_name 5 nd)) (fun s1 H1 C1 cl1 fp1 => dts_nil) (fun s1 H1 C1 cl1 fp1 => (de_tup (da_cons (d_bin op_sub opd_sub (d_var 4) (d_bin opr_div opd_div (d_var 2) d_int)) (da_cons (d_bin op_sub opd_sub (d_var 5) (d_bin opr_div opd_div (d_var 2) d_int)) da_nil))))) da_nil))))) (dss_one (ds_ret (w_callTy call_tuple_of cd_tuple T.n_tuple (da_cons (de_sl (de_c1 (ok__law_mixed T) tk hr (by decide) hgd (da_cons (d_var 0) (da_cons (d_var 3) da_nil)) (len_cons (len_cons len_nil))) trivial (d_var 1)) da_nil))))))
def B__law_far : M Flw := (sSeq (sPar [2, 3] (mCons (m2 fSub (m2 fIx (mVar 0) (mC (.int 0))) (m2 fIx (mVar 1) (mC (.int 0)))) (mCons (m2 fSub (m2 fIx (mVar 0) (mC (.int 1))) (m2 fIx (mVar 1) (mC (.int 1)))) mNil))) (sRet (m2 fAdd (m2 fMulI (mVar 2) (mVar 2)) (m2 fMulI (mVar 3) (mVar 3)))))
def F__law_far : List D → FR := run0 2 2 B__law_far
theorem sc__law_far : FnScope ["one", "other", "x", "y"] ["one", "other"] (defScope Hd.s__law_far) := ⟨rfl, rfl, rfl, by decide +kernel, rfl, by decide +kernel, by decide +kernel⟩
theorem ok__law_far {P : Program} {w : World} {K : PySem.W.Frag} {mg : Str → Option Value} {base : Heap} (T : Tops K mg) : HasD P w K mg base "_law_far" 1 ["one", "other"] (Prom0 K mg 2 F__law_far) := by
  refine has0 (k := 0) (m := 2) T.d__law_far sc__law_far rfl rfl (fun _ _ _ _ _ _ us hl => match us, hl with | [_, _], _ => rfl) fun f cdv A outer s H E hr hgd => ?_
  have u := room_u hr
  have nd := (sc__law_far).nd
  have tk : Takes (cxOf (L2.CX P w) P w K mg base ["one", "other", "x", "y"] "_law_far" (defScope Hd.s__law_far) f cdv A outer s H E) (fun cls d _ H => E cls d H) := takes_of rfl rfl rfl rfl
  exact (dss_cons (by first | exact (w_par2 2 3 nd (da_cons (d_bin op_sub opd_sub (de_sub (u1 u) (d_var 0) d_int) (de_sub (u1 u) (d_var 1) d_int)) (da_cons (d_bin op_sub opd_sub (de_sub (u1 u) (d_var 0) d_int) (de_sub (u1 u) (d_var 1) d_int)) da_nil))) | exact (ds_parG (is := [2, 3]) rfl ((pgs_cons (w_pg 2 nd) (pgs_cons (w_pg 3 nd) pgs_nil))) (da_cons (d_bin op_sub opd_sub (de_sub (u1 u) (d_var 0) d_int) (de_sub (u1 u) (d_var 1) d_int)) (da_cons (d_bin op_sub opd_sub (de_sub (u1 u) (d_var 0) d_int) (de_sub (u1 u) (d_var 1) d_int)) da_nil)) (by decide))) (dss_one (ds_ret (d_bin opr_add opd_add (d_bin opr_mul opd_mul (d_var 2) (d_var 2)) (d_bin opr_mul opd_mul (d_var 3) (d_var 3))))))
def K__law_far_counts_1 : M Flw := (sSeq (sSet 4 (mCall0 F__law_far (mCons (m2 fIx (mVar 0) (mVar 2)) (mCons (m2 fIx (mVar 0) (mVar 3)) mNil)))) (sStore 1 (mVar 4) (m2 fAdd (mGet2 (mVar 1) (mVar 4) (mC (.int 0))) (mC (.int 1)))))
def L__law_far_counts_1 : M Flw := sFor (mSeq (mCall0 F__law_lots (mCons (mCB fLen (mCons (mVar 0) mNil)) (mCons (mC (.int 2)) mNil)))) (gT (gsCons (gN 2) (gsCons (gN 3) gsNil))) K__law_far_counts_1
def E__law_far_counts_1 : M Val := (mTup (mCons (mVar 4) (mCons (m2 fIx (mVar 1) (mVar 4)) mNil)))
def C__law_far_counts_1 : M Val := mLc [4] (mAny 1) (gN 4) (M.ret true) E__law_far_counts_1
def B__law_far_counts : M Flw := (sSeq (sSet 1 (mNewD false)) (sSeq L__law_far_counts_1 (sRet (mCB fTuple (mCons (mCB fSortA (mCons C__law_far_counts_1 mNil)) mNil)))))
def F__law_far_counts : List D → FR := run0 1 4 B__law_far_counts
theorem sc__law_far_counts : FnScope ["crowd", "found", "i", "j", "far"] ["crowd"] (defScope Hd.s__law_far_counts) := ⟨rfl, rfl, rfl, by decide +kernel, rfl, by decide +kernel, by decide +kernel⟩
theorem ok__law_far_counts {P : Program} {w : World} {K : PySem.W.Frag} {mg : Str → Option Value} {base : Heap} (T : Tops K mg) : HasD P w K mg base "_law_far_counts" 2 ["crowd"] (Prom0 K mg 1 F__law_far_counts) := by
  refine has0 (k := 1) (m := 4) T.d__law_far_counts sc__law_far_counts rfl rfl (fun _ _ _ _ _ _ us hl => match us, hl with | [_], _ => rfl) fun f cdv A outer s H E hr hgd => ?_
  have u := room_u hr
  have nd := (sc__law_far_counts).nd
  have tk : Takes (cxOf (L2.CX P w) P w K mg base ["crowd", "found", "i", "j", "far"] "_law_far_counts" (defScope Hd.s__law_far_counts) f cdv A outer s H E) (fun cls d _ H => E cls d H) := takes_of rfl rfl rfl rfl
  exact (dss_cons (w_set 1 nd (de_newD false)) (dss_cons (ds_for (passes_of rfl) rfl (di_seq (de_c0 (ok__law_lots T) tk hr (by decide) hgd (da_cons (w_callB cr_lenA cd_len T.n_len (da_cons (d_var 0) da_nil)) (da_cons d_int da_nil)) (len_cons (len_cons len_nil)))) (w_tup 2 (dgs_cons (w_name 2 nd) (dgs_cons (w_name 3 nd) dgs_nil)) (gs_len1 (gs_len1 gs_len0))) (dss_cons (w_set 4 nd (de_c0 (ok__law_far T) tk hr (by decide) hgd (da_cons (de_sub (u1 u) (d_var 0) (d_var 2)) (da_cons (de_sub (u1 u) (d_var 0) (d_var 3)) da_nil)) (len_cons (len_cons len_nil)))) (dss_one (ds_store (u1 u) (pv 1) (d_var 4) (d_bin opr_add opd_add (de_get2 (u1 u) (d_var 1) (d_var 4) d_int ⟨rfl, rfl, rfl, rfl⟩) d_int))))) (dss_one (ds_ret (w_callTy call_tuple_of cd_tuple T.n_tuple (da_cons (w_callB (cr_sortA rfl u) cd_sortA T.n_sorted (da_cons (w_lcN 1 [("far", 4)] nd (pv 1) (d_var 1) (fun s1 H1 C1 cl1 fp1 => (w_name 4 nd)) (fun s1 H1 C1 cl1 fp1 => dts_nil) (fun s1 H1 C1 cl1 fp1 => (de_tup (da_cons (d_var 4) (da_cons (de_sub (u1 u) (d_var 1) (d_var 4)) da_nil))))) da_nil)) da_nil))))))
def E__law_is_right_1 : M Val := (mVar 7)
def C__law_is_right_1 : M Val := mLc [6, 7] (mAny 2) (gT (gsCons (gN 6) (gsCons (gN 7) gsNil))) (M.ret true) E__law_is_right_1
def E__law_is_right_2 : M Val := (mVar 6)
def T__law_is_right_1 : M Bool := (mB (m2 fEq (mVar 7) (mVar 3)))
def C__law_is_right_2 : M Val := mLc [6, 7] (mAny 2) (gT (gsCons (gN 6) (gsCons (gN 7) gsNil))) T__law_is_right_1 E__law_is_right_2
def B__law_is_right : M Flw := (sSeq (sSet 2 (mCall0 F__law_far_counts (mCons (mVar 1) mNil))) (sSeq (sSet 3 (mCB fMax1 (mCons C__law_is_right_1 mNil))) (sSeq (sSet 4 (mCB fMin1 (mCons C__law_is_right_2 mNil))) (sSeq (sIf (mB (m2 fNe (mCB fRepr (mCons (mLst (mCons (mCall0 F_far_counts (mCons (mVar 1) mNil)) (mCons (mCall0 F_most_often (mCons (mVar 1) mNil)) (mCons (mCall0 F_unlike_far_many (mCons (mVar 1) mNil)) mNil)))) mNil)) (mCB fRepr (mCons (mLst (mCons (mVar 2) (mCons (mTup (mCons (mVar 3) (mCons (mVar 4) mNil))) (mCons (mCB fLen (mCons (mVar 2) mNil)) mNil)))) mNil)))) (sRet (mC (.bl false))) sNx) (sSeq (sSet 5 (mTup (mCons (mCall1 F__law_draw (mCons (mVar 0) (mCons (mC (.int 9)) mNil))) (mCons (mCall1 F__law_draw (mCons (mVar 0) (mCons (mC (.int 9)) mNil))) mNil)))) (sRet (mAndV (m2 fEq (mCall0 F_far_counts (mCons (mCall0 F_moved (mCons (mVar 1) (mCons (mVar 5) mNil))) mNil)) (mVar 2)) (m2 fEq (mCall0 F_far_counts (mCons (mCall0 F_mirrored (mCons (mVar 1) mNil)) mNil)) (mVar 2)))))))))
def F__law_is_right : List D → FR := run1 2 6 B__law_is_right
theorem sc__law_is_right : FnScope ["hand", "crowd", "due", "many", "least", "by", "far", "often"] ["hand", "crowd"] (defScope Hd.s__law_is_right) := ⟨rfl, rfl, rfl, by decide +kernel, rfl, by decide +kernel, by decide +kernel⟩
theorem ok__law_is_right {P : Program} {w : World} {K : PySem.W.Frag} {mg : Str → Option Value} {base : Heap} (T : Tops K mg) : HasD P w K mg base "_law_is_right" 7 ["hand", "crowd"] (Prom1 K mg 2 F__law_is_right) := by
  refine has1 (k := 6) (m := 6) T.d__law_is_right sc__law_is_right rfl rfl (fun _ _ _ _ _ _ us hl => match us, hl with | [_, _], _ => rfl) fun f cdv A outer s H E hr hgd => ?_
  have u := room_u hr
  have nd := (sc__law_is_right).nd
  have tk : Takes (cxOf (L2.CX P w) P w K mg base ["hand", "crowd", "due", "many", "least", "by", "far", "often"] "_law_is_right" (defScope Hd.s__law_is_right) f cdv A outer s H E) (fun cls d _ H => E cls d H) := takes_of rfl rfl rfl rfl
  exact (dss_cons (w_set 2 nd (de_c0 (ok__law_far_counts T) tk hr (by decide) hgd (da_cons (d_var 1) da_nil) (len_cons len_nil))) (dss_cons (w_set 3 nd (w_callB (cr_max rfl) cd_max1 T.n_max (da_cons (w_lcN 2 [("far", 6), ("often", 7)] nd (pv 2) (d_var 2) (fun s1 H1 C1 cl1 fp1 => (w_tup 2 (dgs_cons (w_name 6 nd) (dgs_cons (w_name 7 nd) dgs_nil)) (gs_len1 (gs_len1 gs_len0)))) (fun s1 H1 C1 cl1 fp1 => dts_nil) (fun s1 H1 C1 cl1 fp1 => (d_var 7))) da_nil))) (dss_cons (w_set 4 nd (w_callB (cr_min rfl) cd_min1 T.n_min (da_cons (w_lcN 2 [("far", 6), ("often", 7)] nd (pv 2) (d_var 2) (fun s1 H1 C1 cl1 fp1 => (w_tup 2 (dgs_cons (w_name 6 nd) (dgs_cons (w_name 7 nd) dgs_nil)) (gs_len1 (gs_len1 gs_len0)))) (fun s1 H1 C1 cl1 fp1 => (dts_one (dt_cmp (opr_eqU u) opd_eq (d_var 7) (d_var 3) (nomark _)))) (fun s1 H1 C1 cl1 fp1 => (d_var 6))) da_nil))) (dss_cons (ds_if (dt_cmp (opr_neU u) opd_ne (w_callB (cr_reprU hgd u) cd_repr T.n_repr (da_cons (de_lst (da_cons (de_c0 (ok_far_counts T) tk hr (by decide) hgd (da_cons (d_var 1) da_nil) (len_cons len_nil)) (da_cons (de_c0 (ok_most_often T) tk hr (by decide) hgd (da_cons (d_var 1) da_nil) (len_cons len_nil)) (da_cons (de_c0 (ok_unlike_far_many T) tk hr (by decide) hgd (da_cons (d_var 1) da_nil) (len_cons len_nil)) da_nil)))) da_nil)) (w_callB (cr_reprU hgd u) cd_repr T.n_repr (da_cons (de_lst (da_cons (d_var 2) (da_cons (de_tup (da_cons (d_var 3) (da_cons (d_var 4) da_nil))) (da_cons (w_callB cr_lenA cd_len T.n_len (da_cons (d_var 2) da_nil)) da_nil)))) da_nil)) (nomark _)) (dss_one (ds_ret d_bl)) dss_nil) (dss_cons (w_set 5 nd (de_tup (da_cons (de_c1 (ok__law_draw T) tk hr (by decide) hgd (da_cons (d_var 0) (da_cons d_int da_nil)) (len_cons (len_cons len_nil))) (da_cons (de_c1 (ok__law_draw T) tk hr (by decide) hgd (da_cons (d_var 0) (da_cons d_int da_nil)) (len_cons (len_cons len_nil))) da_nil)))) (dss_one (ds_ret (de_and (d_cmp (opr_eqU u) opd_eq (de_c0 (ok_far_counts T) tk hr (by decide) hgd (da_cons (de_c0 (ok_moved T) tk hr (by decide) hgd (da_cons (d_var 1) (da_cons (d_var 5) da_nil)) (len_cons (len_cons len_nil))) da_nil) (len_cons len_nil)) (d_var 2) (nomark _)) (de_one (d_cmp (opr_eqU u) opd_eq (de_c0 (ok_far_counts T) tk hr (by decide) hgd (da_cons (de_c0 (ok_mirrored T) tk hr (by decide) hgd (da_cons (d_var 1) da_nil) (len_cons len_nil)) da_nil) (len_cons len_nil)) (d_var 2) (nomark _)))))))))))
def E_law_1 : M Val := (mCall1 F__law_crowd (mCons (mVar 1) (mCons (m2 fAdd (mC (.int 3)) (mCall1 F__law_draw (mCons (mVar 1) (mCons (mC (.int 9)) mNil)))) (mCons (mCall1 F__law_any (mCons (mVar 1) (mCons (mLst (mCons (mC (.int 4)) (mCons (mC (.int 7)) mNil))) mNil))) mNil))))
def C_law_1 : M Val := mLc [4] (mR1 (mCons (mC (.int 6)) mNil)) (gN 4) (M.ret true) E_law_1
def E_law_2 : M Val := (mCall1 F__law_is_right (mCons (mVar 1) (mCons (mVar 5) mNil)))
def C_law_2 : M Val := mLc [5] (mAny 3) (gN 5) (M.ret true) E_law_2
def B_law : M Flw := (sSeq (sSet 1 (mCall0 F__law_hand (mCons (mVar 0) mNil))) (sSeq (sSet 2 (mTup (mCons (mTup (mCons (mC (.int 0)) (mCons (mC (.int 0)) mNil))) (mCons (mTup (mCons (mC (.int 2)) (mCons (mC (.int 0)) mNil))) (mCons (mTup (mCons (mC (.int 2)) (mCons (mC (.int 2)) mNil))) (mCons (mTup (mCons (mC (.int 0)) (mCons (mC (.int 2)) mNil))) mNil)))))) (sSeq (sIf (mB (m2 fNe (mCall0 F_far_counts (mCons (mVar 2) mNil)) (mTup (mCons (mTup (mCons (mC (.int 4)) (mCons (mC (.int 4)) mNil))) (mCons (mTup (mCons (mC (.int 8)) (mCons (mC (.int 2)) mNil))) mNil))))) (sRet (mC (.bl false))) sNx) (sSeq (sIf (mB (m2 fNe (mCall0 F_most_often (mCons (mVar 2) mNil)) (mTup (mCons (mC (.int 4)) (mCons (mC (.int 4)) mNil))))) (sRet (mC (.bl false))) sNx) (sSeq (sIf (mB (m2 fNe (mCall0 F_unlike_far_many (mCons (mTup (mCons (mTup (mCons (mC (.int 0)) (mCons (mC (.int 0)) mNil))) (mCons (mTup (mCons (mC (.int 1)) (mCons (mC (.int 0)) mNil))) (mCons (mTup (mCons (mC (.int 3)) (mCons (mC (.int 0)) mNil))) mNil)))) mNil)) (mC (.int 3)))) (sRet (mC (.bl false))) sNx) (sSeq (sIf (mB (m2 fNe (mCall0 F_most_often (mCons (mTup (mCons (mTup (mCons (mC (.int 0)) (mCons (mC (.int 0)) mNil))) (mCons (mTup (mCons (mC (.int 1)) (mCons (mC (.int 0)) mNil))) (mCons (mTup (mCons (mC (.int 3)) (mCons (mC (.int 0)) mNil))) mNil)))) mNil)) (mTup (mCons (mC (.int 1)) (mCons (mC (.int 1)) mNil))))) (sRet (mC (.bl false))) sNx) (sSeq (sSet 3 C_law_1) (sRet (mCB fAll (mCons C_law_2 mNil))))))))))
def F_law : List D → FR := run0 1 5 B_law
theorem sc_law : FnScope ["script", "hand", "square", "some", "lap_on", "crowd"] ["script"] (defScope Hd.s_law) := ⟨rfl, rfl, rfl, by decide +kernel, rfl, by decide +kernel, by decide +kernel⟩
theorem fn_law {P : Program} {w : World} {K : PySem.W.Frag} {mg : Str → Option Value} {base : Heap} {f : Addr} {fd : FuncData} (T : Tops K mg) (F : FunD K "law" "law" (defArgs Hd.s_law) (defBody Hd.s_law) (defScope Hd.s_law) [] [] f fd) : FnG P w K mg base 8 f fd ["script"] (Prom0 K mg 1 F_law) := by
  refine fn0 (k := 7) (m := 5) F sc_law rfl rfl fun cdv A outer s H E hr hgd => ?_
  have u := room_u hr
  have nd := sc_law.nd
  have tk : Takes (cxOf (L2.CX P w) P w K mg base ["script", "hand", "square", "some", "lap_on", "crowd"] "law" (defScope Hd.s_law) f cdv A outer s H E) (fun cls d _ H => E cls d H) := takes_of rfl rfl rfl rfl
  exact (dss_cons (w_set 1 nd (de_c0 (ok__law_hand T) tk hr (by decide) hgd (da_cons (d_var 0) da_nil) (len_cons len_nil))) (dss_cons (w_set 2 nd (de_tup (da_cons (de_tup (da_cons d_int (da_cons d_int da_nil))) (da_cons (de_tup (da_cons d_int (da_cons d_int da_nil))) (da_cons (de_tup (da_cons d_int (da_cons d_int da_nil))) (da_cons (de_tup (da_cons d_int (da_cons d_int da_nil))) da_nil)))))) (dss_cons (ds_if (dt_cmp (opr_neU u) opd_ne (de_c0 (ok_far_counts T) tk hr (by decide) hgd (da_cons (d_var 2) da_nil) (len_cons len_nil)) (de_tup (da_cons (de_tup (da_cons d_int (da_cons d_int da_nil))) (da_cons (de_tup (da_cons d_int (da_cons d_int da_nil))) da_nil))) (nomark _)) (dss_one (ds_ret d_bl)) dss_nil) (dss_cons (ds_if (dt_cmp (opr_neU u) opd_ne (de_c0 (ok_most_often T) tk hr (by decide) hgd (da_cons (d_var 2) da_nil) (len_cons len_nil)) (de_tup (da_cons d_int (da_cons d_int da_nil))) (nomark _)) (dss_one (ds_ret d_bl)) dss_nil) (dss_cons (ds_if (dt_cmp (opr_neU u) opd_ne (de_c0 (ok_unlike_far_many T) tk hr (by decide) hgd (da_cons (de_tup (da_cons (de_tup (da_cons d_int (da_cons d_int da_nil))) (da_cons (de_tup (da_cons d_int (da_cons d_int da_nil))) (da_cons (de_tup (da_cons d_int (da_cons d_int da_nil))) da_nil)))) da_nil) (len_cons len_nil)) d_int (nomark _)) (dss_one (ds_ret d_bl)) dss_nil) (dss_cons (ds_if (dt_cmp (opr_neU u) opd_ne (de_c0 (ok_most_often T) tk hr (by decide) hgd (da_cons (de_tup (da_cons (de_tup (da_cons d_int (da_cons d_int da_nil))) (da_cons (de_tup (da_cons d_int (da_cons d_int da_nil))) (da_cons (de_tup (da_cons d_int (da_cons d_int da_nil))) da_nil)))) da_nil) (len_cons len_nil)) (de_tup (da_cons d_int (da_cons d_int da_nil))) (nomark _)) (dss_one (ds_ret d_bl)) dss_nil) (dss_cons (w_setLc 3 [("lap_on", 4)] nd (w_range1 T.n_range (da_cons d_int da_nil)) (fun s1 H1 C1 cl1 fp1 => (w_name 4 nd)) (fun s1 H1 C1 cl1 fp1 => dts_nil) (fun s1 H1 C1 cl1 fp1 => (de_c1 (ok__law_crowd T) takes0 hr (by decide) hgd (da_cons (d_var 1) (da_cons (d_bin opr_add opd_add d_int (de_c1 (ok__law_draw T) takes0 hr (by decide) hgd (da_cons (d_var 1) (da_cons d_int da_nil)) (len_cons (len_cons len_nil)))) (da_cons (de_c1 (ok__law_any T) takes0 hr (by decide) hgd (da_cons (d_var 1) (da_cons (de_lst (da_cons d_int (da_cons d_int da_nil))) da_nil)) (len_cons (len_cons len_nil))) da_nil))) (len_cons (len_cons (len_cons len_nil)))))) (dss_one (ds_ret (w_callB (cr_all rfl) cd_all T.n_all (da_cons (w_lcN 3 [("crowd", 5)] nd (pv 3) (d_var 3) (fun s1 H1 C1 cl1 fp1 => (w_name 5 nd)) (fun s1 H1 C1 cl1 fp1 => dts_nil) (fun s1 H1 C1 cl1 fp1 => (de_c1 (ok__law_is_right T) takes0 hr (by decide) hgd (da_cons (d_var 1) (da_cons (d_var 5) da_nil)) (len_cons (len_cons len_nil))))) da_nil)))))))))))
end
end Lw
namespace Lw
open PySem PySem.Spec PyProof.Rows L2 VS
/-! ### dots, crowds -/
def dotD (p : Int × Int) : D := .tup [.int p.1, .int p.2]
def crowdD (c : List (Int × Int)) : D := .tup (c.map dotD)
theorem is_integer_int (i : Int) : F_is_integer [.int i] = .ok (.sh (.bl true)) .non := rfl
theorem is_within_ok {i a b : Int} (h : a ≤ i ∧ i ≤ b) : F_is_within [.int i, .int a, .int b] = .ok (.sh (.bl true)) .non := by
  have h1 := h.1
  have h2 := h.2
  simp [F_is_within, B_is_within, is_integer_int, h1, h2, run0, run1, sSeq, sNx, sBk, sCt, sEx, sRet, sRetN, sIf, sSet, setC, unbw, putC, Val.cell, sPar, unbws, putCs, sFor, sUnp, sStore, stTo, stD, sRaise, M.bind, M.ret, M.lift, mVar, mC, m2, m1, hold, look, cellD, esc, escs, looks, mTru, dTru, mB, mNot, mAnd, mOr, mBv, mAndV, mOrV, mIf, mChain, mNil, mCons, mTup, mLst, mCB, mPart, mSl, mMut, mMut0, ownD, isLst, relent, mGet2, mCall0, mCall1, outV, lentD, mSeq, gN, gsNil, gsCons, gT, mR1, mR2, asInts, mAny, mKeys, mLc, mLc2, mDc, mNewD, wipeE, back, fI, fAdd, fSub, fNeg, cAll, fC, fLt, fLe, fGt, fGe, fIx, fIxS, D.isDct, atI, ixN, fLen, lenD, fList, fTuple, seqD, lstD, fInt, fAbs, fAppend, fExtend, fIsi, tys, D.ty, isTab, fEq_int, fNe_int, fSl, oneBls, oneInts, fAll, fAny, dec_true, dec_false, fDiv_ok, fMod_ok, fPow_ok, fMulI_l, fMulI_r]
/-- a place within bounds -/
def near (p : Int × Int) : Prop := (-10000 ≤ p.1 ∧ p.1 ≤ 10000) ∧ (-10000 ≤ p.2 ∧ p.2 ≤ 10000)
theorem is_dot_ok {p : Int × Int} (h : near p) : F_is_dot [dotD p] = .ok (.sh (.bl true)) .non := by
  have h1 := is_within_ok h.1
  have h2 := is_within_ok h.2
  simp [F_is_dot, B_is_dot, C_is_dot_1, E_is_dot_1, dotD, h1, h2, lcL, blsOf, run0, run1, sSeq, sNx, sBk, sCt, sEx, sRet, sRetN, sIf, sSet, setC, unbw, putC, Val.cell, sPar, unbws, putCs, sFor, sUnp, sStore, stTo, stD, sRaise, M.bind, M.ret, M.lift, mVar, mC, m2, m1, hold, look, cellD, esc, escs, looks, mTru, dTru, mB, mNot, mAnd, mOr, mBv, mAndV, mOrV, mIf, mChain, mNil, mCons, mTup, mLst, mCB, mPart, mSl, mMut, mMut0, ownD, isLst, relent, mGet2, mCall0, mCall1, outV, lentD, mSeq, gN, gsNil, gsCons, gT, mR1, mR2, asInts, mAny, mKeys, mLc, mLc2, mDc, mNewD, wipeE, back, fI, fAdd, fSub, fNeg, cAll, fC, fLt, fLe, fGt, fGe, fIx, fIxS, D.isDct, atI, ixN, fLen, lenD, fList, fTuple, seqD, lstD, fInt, fAbs, fAppend, fExtend, fIsi, tys, D.ty, isTab, fEq_int, fNe_int, fSl, oneBls, oneInts, fAll, fAny, dec_true, dec_false, fDiv_ok, fMod_ok, fPow_ok, fMulI_l, fMulI_r]
end Lw

namespace Lw
open PySem PySem.Spec PyProof.Rows L2 VS
/-- a crowd as the module takes it -/
structure Crowd (c : List (Int × Int)) : Prop where
  lo : 3 ≤ c.length
  hi : c.length ≤ 12
  nr : ∀ p ∈ c, near p
  nd : c.Nodup
theorem kk_dot (p : Int × Int) : kk true (dotD p) = some [.inl p.1, .inl p.2] := rfl
theorem crowd_nd {c : List (Int × Int)} (h : c.Nodup) : ((c.map dotD).map fun d => kk true d).Nodup := by
  rw [List.map_map]
  refine List.Pairwise.map _ (fun a b hab => ?_) h
  show kk true (dotD a) ≠ kk true (dotD b)
  rw [kk_dot, kk_dot]
  intro z
  apply hab
  simp at z
  exact Prod.ext z.1 z.2
theorem is_crowd_ok {c : List (Int × Int)} (h : Crowd c) : F_is_crowd [crowdD c] = .ok (.sh (.bl true)) .non := by
  have lo := h.lo
  have hi := h.hi
  have q1 : C_is_crowd_1 [.sh (crowdD c), .un] = .ok (.ow (.lst ((c.map dotD).map fun _ => .bl true))) [.sh (crowdD c), .un] := by
    refine mLc_map (fun _ => .bl true) (e0 := [.sh (crowdD c), .un]) (ew := [.sh (crowdD c), .un]) (by simp [crowdD, run0, run1, sSeq, sNx, sBk, sCt, sEx, sRet, sRetN, sIf, sSet, setC, unbw, putC, Val.cell, sPar, unbws, putCs, sFor, sUnp, sStore, stTo, stD, sRaise, M.bind, M.ret, M.lift, mVar, mC, m2, m1, hold, look, cellD, esc, escs, looks, mTru, dTru, mB, mNot, mAnd, mOr, mBv, mAndV, mOrV, mIf, mChain, mNil, mCons, mTup, mLst, mCB, mPart, mSl, mMut, mMut0, ownD, isLst, relent, mGet2, mCall0, mCall1, outV, lentD, mSeq, gN, gsNil, gsCons, gT, mR1, mR2, asInts, mAny, mKeys, mLc, mLc2, mDc, mNewD, wipeE, back, fI, fAdd, fSub, fNeg, cAll, fC, fLt, fLe, fGt, fGe, fIx, fIxS, D.isDct, atI, ixN, fLen, lenD, fList, fTuple, seqD, lstD, fInt, fAbs, fAppend, fExtend, fIsi, tys, D.ty, isTab, fEq_int, fNe_int, fSl, oneBls, oneInts, fAll, fAny, dec_true, dec_false, fDiv_ok, fMod_ok, fPow_ok, fMulI_l, fMulI_r]) (by simp [run0, run1, sSeq, sNx, sBk, sCt, sEx, sRet, sRetN, sIf, sSet, setC, unbw, putC, Val.cell, sPar, unbws, putCs, sFor, sUnp, sStore, stTo, stD, sRaise, M.bind, M.ret, M.lift, mVar, mC, m2, m1, hold, look, cellD, esc, escs, looks, mTru, dTru, mB, mNot, mAnd, mOr, mBv, mAndV, mOrV, mIf, mChain, mNil, mCons, mTup, mLst, mCB, mPart, mSl, mMut, mMut0, ownD, isLst, relent, mGet2, mCall0, mCall1, outV, lentD, mSeq, gN, gsNil, gsCons, gT, mR1, mR2, asInts, mAny, mKeys, mLc, mLc2, mDc, mNewD, wipeE, back, fI, fAdd, fSub, fNeg, cAll, fC, fLt, fLe, fGt, fGe, fIx, fIxS, D.isDct, atI, ixN, fLen, lenD, fList, fTuple, seqD, lstD, fInt, fAbs, fAppend, fExtend, fIsi, tys, D.ty, isTab, fEq_int, fNe_int, fSl, oneBls, oneInts, fAll, fAny, dec_true, dec_false, fDiv_ok, fMod_ok, fPow_ok, fMulI_l, fMulI_r]) (by simp [run0, run1, sSeq, sNx, sBk, sCt, sEx, sRet, sRetN, sIf, sSet, setC, unbw, putC, Val.cell, sPar, unbws, putCs, sFor, sUnp, sStore, stTo, stD, sRaise, M.bind, M.ret, M.lift, mVar, mC, m2, m1, hold, look, cellD, esc, escs, looks, mTru, dTru, mB, mNot, mAnd, mOr, mBv, mAndV, mOrV, mIf, mChain, mNil, mCons, mTup, mLst, mCB, mPart, mSl, mMut, mMut0, ownD, isLst, relent, mGet2, mCall0, mCall1, outV, lentD, mSeq, gN, gsNil, gsCons, gT, mR1, mR2, asInts, mAny, mKeys, mLc, mLc2, mDc, mNewD, wipeE, back, fI, fAdd, fSub, fNeg, cAll, fC, fLt, fLe, fGt, fGe, fIx, fIxS, D.isDct, atI, ixN, fLen, lenD, fList, fTuple, seqD, lstD, fInt, fAbs, fAppend, fExtend, fIsi, tys, D.ty, isTab, fEq_int, fNe_int, fSl, oneBls, oneInts, fAll, fAny, dec_true, dec_false, fDiv_ok, fMod_ok, fPow_ok, fMulI_l, fMulI_r]) (fun d hd => ?_) (by simp; omega)
    obtain ⟨p, hp, rfl⟩ := List.mem_map.mp hd
    have := is_dot_ok (h.nr p hp)
    refine ⟨[.sh (crowdD c), .sh (dotD p)], .sh (.bl true), [.sh (crowdD c), .sh (dotD p)], [.sh (crowdD c), .sh (dotD p)], ?_, ?_, ?_, ?_⟩ <;> simp [this, E_is_crowd_1, run0, run1, sSeq, sNx, sBk, sCt, sEx, sRet, sRetN, sIf, sSet, setC, unbw, putC, Val.cell, sPar, unbws, putCs, sFor, sUnp, sStore, stTo, stD, sRaise, M.bind, M.ret, M.lift, mVar, mC, m2, m1, hold, look, cellD, esc, escs, looks, mTru, dTru, mB, mNot, mAnd, mOr, mBv, mAndV, mOrV, mIf, mChain, mNil, mCons, mTup, mLst, mCB, mPart, mSl, mMut, mMut0, ownD, isLst, relent, mGet2, mCall0, mCall1, outV, lentD, mSeq, gN, gsNil, gsCons, gT, mR1, mR2, asInts, mAny, mKeys, mLc, mLc2, mDc, mNewD, wipeE, back, fI, fAdd, fSub, fNeg, cAll, fC, fLt, fLe, fGt, fGe, fIx, fIxS, D.isDct, atI, ixN, fLen, lenD, fList, fTuple, seqD, lstD, fInt, fAbs, fAppend, fExtend, fIsi, tys, D.ty, isTab, fEq_int, fNe_int, fSl, oneBls, oneInts, fAll, fAny, dec_true, dec_false, fDiv_ok, fMod_ok, fPow_ok, fMulI_l, fMulI_r]
  have q2 : C_is_crowd_2 [.sh (crowdD c), .un] = .ok (.ow (.dct true ((c.map dotD).map fun d => (d, .bl true)))) [.sh (crowdD c), .un] := by
    refine mDc_new (fun d => d) (fun _ => .bl true) (e0 := [.sh (crowdD c), .un]) (ew := [.sh (crowdD c), .un]) (by simp [crowdD, run0, run1, sSeq, sNx, sBk, sCt, sEx, sRet, sRetN, sIf, sSet, setC, unbw, putC, Val.cell, sPar, unbws, putCs, sFor, sUnp, sStore, stTo, stD, sRaise, M.bind, M.ret, M.lift, mVar, mC, m2, m1, hold, look, cellD, esc, escs, looks, mTru, dTru, mB, mNot, mAnd, mOr, mBv, mAndV, mOrV, mIf, mChain, mNil, mCons, mTup, mLst, mCB, mPart, mSl, mMut, mMut0, ownD, isLst, relent, mGet2, mCall0, mCall1, outV, lentD, mSeq, gN, gsNil, gsCons, gT, mR1, mR2, asInts, mAny, mKeys, mLc, mLc2, mDc, mNewD, wipeE, back, fI, fAdd, fSub, fNeg, cAll, fC, fLt, fLe, fGt, fGe, fIx, fIxS, D.isDct, atI, ixN, fLen, lenD, fList, fTuple, seqD, lstD, fInt, fAbs, fAppend, fExtend, fIsi, tys, D.ty, isTab, fEq_int, fNe_int, fSl, oneBls, oneInts, fAll, fAny, dec_true, dec_false, fDiv_ok, fMod_ok, fPow_ok, fMulI_l, fMulI_r]) (by simp [run0, run1, sSeq, sNx, sBk, sCt, sEx, sRet, sRetN, sIf, sSet, setC, unbw, putC, Val.cell, sPar, unbws, putCs, sFor, sUnp, sStore, stTo, stD, sRaise, M.bind, M.ret, M.lift, mVar, mC, m2, m1, hold, look, cellD, esc, escs, looks, mTru, dTru, mB, mNot, mAnd, mOr, mBv, mAndV, mOrV, mIf, mChain, mNil, mCons, mTup, mLst, mCB, mPart, mSl, mMut, mMut0, ownD, isLst, relent, mGet2, mCall0, mCall1, outV, lentD, mSeq, gN, gsNil, gsCons, gT, mR1, mR2, asInts, mAny, mKeys, mLc, mLc2, mDc, mNewD, wipeE, back, fI, fAdd, fSub, fNeg, cAll, fC, fLt, fLe, fGt, fGe, fIx, fIxS, D.isDct, atI, ixN, fLen, lenD, fList, fTuple, seqD, lstD, fInt, fAbs, fAppend, fExtend, fIsi, tys, D.ty, isTab, fEq_int, fNe_int, fSl, oneBls, oneInts, fAll, fAny, dec_true, dec_false, fDiv_ok, fMod_ok, fPow_ok, fMulI_l, fMulI_r]) (by simp [run0, run1, sSeq, sNx, sBk, sCt, sEx, sRet, sRetN, sIf, sSet, setC, unbw, putC, Val.cell, sPar, unbws, putCs, sFor, sUnp, sStore, stTo, stD, sRaise, M.bind, M.ret, M.lift, mVar, mC, m2, m1, hold, look, cellD, esc, escs, looks, mTru, dTru, mB, mNot, mAnd, mOr, mBv, mAndV, mOrV, mIf, mChain, mNil, mCons, mTup, mLst, mCB, mPart, mSl, mMut, mMut0, ownD, isLst, relent, mGet2, mCall0, mCall1, outV, lentD, mSeq, gN, gsNil, gsCons, gT, mR1, mR2, asInts, mAny, mKeys, mLc, mLc2, mDc, mNewD, wipeE, back, fI, fAdd, fSub, fNeg, cAll, fC, fLt, fLe, fGt, fGe, fIx, fIxS, D.isDct, atI, ixN, fLen, lenD, fList, fTuple, seqD, lstD, fInt, fAbs, fAppend, fExtend, fIsi, tys, D.ty, isTab, fEq_int, fNe_int, fSl, oneBls, oneInts, fAll, fAny, dec_true, dec_false, fDiv_ok, fMod_ok, fPow_ok, fMulI_l, fMulI_r]) (fun d hd => ?_) (fun d hd => ?_) (crowd_nd h.nd) (by simp; omega)
    · refine ⟨[.sh (crowdD c), .sh d], .sh d, [.sh (crowdD c), .sh d], [.sh (crowdD c), .sh d], .sh (.bl true), [.sh (crowdD c), .sh d], [.sh (crowdD c), .sh d], ?_, ?_, ?_, ?_, ?_, ?_⟩ <;> simp [Y_is_crowd_1, E_is_crowd_2, run0, run1, sSeq, sNx, sBk, sCt, sEx, sRet, sRetN, sIf, sSet, setC, unbw, putC, Val.cell, sPar, unbws, putCs, sFor, sUnp, sStore, stTo, stD, sRaise, M.bind, M.ret, M.lift, mVar, mC, m2, m1, hold, look, cellD, esc, escs, looks, mTru, dTru, mB, mNot, mAnd, mOr, mBv, mAndV, mOrV, mIf, mChain, mNil, mCons, mTup, mLst, mCB, mPart, mSl, mMut, mMut0, ownD, isLst, relent, mGet2, mCall0, mCall1, outV, lentD, mSeq, gN, gsNil, gsCons, gT, mR1, mR2, asInts, mAny, mKeys, mLc, mLc2, mDc, mNewD, wipeE, back, fI, fAdd, fSub, fNeg, cAll, fC, fLt, fLe, fGt, fGe, fIx, fIxS, D.isDct, atI, ixN, fLen, lenD, fList, fTuple, seqD, lstD, fInt, fAbs, fAppend, fExtend, fIsi, tys, D.ty, isTab, fEq_int, fNe_int, fSl, oneBls, oneInts, fAll, fAny, dec_true, dec_false, fDiv_ok, fMod_ok, fPow_ok, fMulI_l, fMulI_r]
    · obtain ⟨p, hp, rfl⟩ := List.mem_map.mp hd
      rfl
  have a1 := fAll_true (c.map dotD) (f := fun _ => D.bl true) fun _ _ => rfl
  have l1 : (3 : Int) ≤ (c.length : Int) := by omega
  have l2 : (c.length : Int) ≤ 12 := by omega
  simp only [List.map_map, crowdD] at q1 q2 a1
  simp [F_is_crowd, B_is_crowd, q1, q2, a1, crowdD, l1, l2, lo, hi, run0, run1, sSeq, sNx, sBk, sCt, sEx, sRet, sRetN, sIf, sSet, setC, unbw, putC, Val.cell, sPar, unbws, putCs, sFor, sUnp, sStore, stTo, stD, sRaise, M.bind, M.ret, M.lift, mVar, mC, m2, m1, hold, look, cellD, esc, escs, looks, mTru, dTru, mB, mNot, mAnd, mOr, mBv, mAndV, mOrV, mIf, mChain, mNil, mCons, mTup, mLst, mCB, mPart, mSl, mMut, mMut0, ownD, isLst, relent, mGet2, mCall0, mCall1, outV, lentD, mSeq, gN, gsNil, gsCons, gT, mR1, mR2, asInts, mAny, mKeys, mLc, mLc2, mDc, mNewD, wipeE, back, fI, fAdd, fSub, fNeg, cAll, fC, fLt, fLe, fGt, fGe, fIx, fIxS, D.isDct, atI, ixN, fLen, lenD, fList, fTuple, seqD, lstD, fInt, fAbs, fAppend, fExtend, fIsi, tys, D.ty, isTab, fEq_int, fNe_int, fSl, dec_true, dec_false, fDiv_ok, fMod_ok, fPow_ok, fMulI_l, fMulI_r]
end Lw
namespace Lw
open PySem PySem.Spec PyProof.Rows L2 VS
theorem check_crowd_ok {c : List (Int × Int)} (h : Crowd c) : F_check_crowd [crowdD c] = .ok (.sh .non) .non := by
  simp [F_check_crowd, B_check_crowd, is_crowd_ok h, run0, run1, sSeq, sNx, sBk, sCt, sEx, sRet, sRetN, sIf, sSet, setC, unbw, putC, Val.cell, sPar, unbws, putCs, sFor, sUnp, sStore, stTo, stD, sRaise, M.bind, M.ret, M.lift, mVar, mC, m2, m1, hold, look, cellD, esc, escs, looks, mTru, dTru, mB, mNot, mAnd, mOr, mBv, mAndV, mOrV, mIf, mChain, mNil, mCons, mTup, mLst, mCB, mPart, mSl, mMut, mMut0, ownD, isLst, relent, mGet2, mCall0, mCall1, outV, lentD, mSeq, gN, gsNil, gsCons, gT, mR1, mR2, asInts, mAny, mKeys, mLc, mLc2, mDc, mNewD, wipeE, back, fI, fAdd, fSub, fNeg, cAll, fC, fLt, fLe, fGt, fGe, fIx, fIxS, D.isDct, atI, ixN, fLen, lenD, fList, fTuple, seqD, lstD, fInt, fAbs, fAppend, fExtend, fIsi, tys, D.ty, isTab, fEq_int, fNe_int, fSl, oneBls, oneInts, fAll, fAny, dec_true, dec_false, fDiv_ok, fMod_ok, fPow_ok, fMulI_l, fMulI_r]
theorem check_dots_one {p : Int × Int} (h : near p) : F_check_dots [.tup [dotD p]] = .ok (.sh .non) .non := by
  simp [F_check_dots, B_check_dots, L_check_dots_1, K_check_dots_1, is_dot_ok h, forL, run0, run1, sSeq, sNx, sBk, sCt, sEx, sRet, sRetN, sIf, sSet, setC, unbw, putC, Val.cell, sPar, unbws, putCs, sFor, sUnp, sStore, stTo, stD, sRaise, M.bind, M.ret, M.lift, mVar, mC, m2, m1, hold, look, cellD, esc, escs, looks, mTru, dTru, mB, mNot, mAnd, mOr, mBv, mAndV, mOrV, mIf, mChain, mNil, mCons, mTup, mLst, mCB, mPart, mSl, mMut, mMut0, ownD, isLst, relent, mGet2, mCall0, mCall1, outV, lentD, mSeq, gN, gsNil, gsCons, gT, mR1, mR2, asInts, mAny, mKeys, mLc, mLc2, mDc, mNewD, wipeE, back, fI, fAdd, fSub, fNeg, cAll, fC, fLt, fLe, fGt, fGe, fIx, fIxS, D.isDct, atI, ixN, fLen, lenD, fList, fTuple, seqD, lstD, fInt, fAbs, fAppend, fExtend, fIsi, tys, D.ty, isTab, fEq_int, fNe_int, fSl, oneBls, oneInts, fAll, fAny, dec_true, dec_false, fDiv_ok, fMod_ok, fPow_ok, fMulI_l, fMulI_r]
/-! ### lots -/
def nxt (lot : List Nat) : Nat := match lot.getLast? with
  | none => 0
  | some i => i + 1
def lots (n : Nat) : Nat → List (List Nat)
  | 0 => [[]]
  | k + 1 => (lots n k).flatMap fun lot => (List.range (n - nxt lot)).map fun i => lot ++ [nxt lot + i]
def lotD (lot : List Nat) : D := .tup (lot.map fun i : Nat => D.int (i : Int))
theorem lots_few : ∀ n ≤ 12, ∀ k ≤ 4, (lots n k).length ≤ 1000 := by decide +kernel
theorem lots_mem {n : Nat} : ∀ {k : Nat} {lot : List Nat}, lot ∈ lots n k → lot.length = k ∧ (∀ i ∈ lot, i < n) ∧ lot.Pairwise (· < ·)
  | 0, lot, h => by
    rw [lots] at h
    cases List.mem_singleton.mp h
    exact ⟨rfl, fun i h => (nomatch h), .nil⟩
  | k + 1, lot, h => by
    rw [lots] at h
    obtain ⟨l, hl, h⟩ := List.mem_flatMap.mp h
    obtain ⟨i, hi, rfl⟩ := List.mem_map.mp h
    obtain ⟨a, b, c⟩ := lots_mem hl
    have hi := List.mem_range.mp hi
    have hx : ∀ j ∈ l, j < nxt l := fun j hj => by
      unfold nxt
      have hne : l ≠ [] := fun z => by rw [z] at hj; cases hj
      rw [List.getLast?_eq_some_getLast hne]
      show j < l.getLast hne + 1
      have : j ≤ l.getLast hne := by
        have := List.pairwise_iff_getElem.mp c
        obtain ⟨m, hm, rfl⟩ := List.mem_iff_getElem.mp hj
        rw [List.getLast_eq_getElem]
        by_cases z : m = l.length - 1
        · subst z; exact Nat.le_refl _
        · exact Nat.le_of_lt (this m (l.length - 1) hm (by omega) (by omega))
      omega
    refine ⟨by rw [List.length_append, a]; rfl, fun j hj => ?_, ?_⟩
    · rcases List.mem_append.mp hj with hj | hj
      · exact b j hj
      · cases List.mem_singleton.mp hj; omega
    · refine List.pairwise_append.mpr ⟨c, List.pairwise_singleton _ _, fun j hj m hm => ?_⟩
      cases List.mem_singleton.mp hm
      have := hx j hj
      omega
end Lw

namespace Lw
open PySem PySem.Spec PyProof.Rows L2 VS
def exts (n : Nat) (lot : List Nat) : List (List Nat) := (List.range (n - nxt lot)).map fun i => lot ++ [nxt lot + i]
theorem lots_inner {n : Nat} {lot : List Nat} (hn : n ≤ 12) (hl : lot.length ≤ 4) (hx : nxt lot ≤ n) (c1 c2 c3 c4 : Cell) :
    C_lots_of_1 [.sh (.int n), c1, c2, c3, c4, .sh (lotD lot), .un] = .ok (.ow (.lst ((exts n lot).map lotD))) [.sh (.int n), c1, c2, c3, c4, .sh (lotD lot), .un] := by
  have ei : (exts n lot).map lotD = (intsD (nxt lot) ((n : Int) - nxt lot).toNat).map fun d => match d with
      | .int i => lotD (lot ++ [i.toNat])
      | d => d := by
    unfold exts intsD
    rw [List.map_map, List.map_map, show ((n : Int) - nxt lot).toNat = n - nxt lot by omega]
    refine List.map_congr_left fun i _ => ?_
    show lotD (lot ++ [nxt lot + i]) = lotD (lot ++ [((nxt lot : Int) + (i : Int)).toNat])
    rw [show ((nxt lot : Int) + (i : Int)).toNat = nxt lot + i by omega]
  rw [ei]
  unfold C_lots_of_1
  refine mLc_map _ (e0 := [.sh (.int n), c1, c2, c3, c4, .sh (lotD lot), .un]) (ew := [.sh (.int n), c1, c2, c3, c4, .sh (lotD lot), .un]) (mR2_ok (i := nxt lot) (j := n) ?_ (by omega) (by omega)) (by simp [run0, run1, sSeq, sNx, sBk, sCt, sEx, sRet, sRetN, sIf, sSet, setC, unbw, putC, Val.cell, sPar, unbws, putCs, sFor, sUnp, sStore, stTo, stD, sRaise, M.bind, M.ret, M.lift, mVar, mC, m2, m1, hold, look, cellD, esc, escs, looks, mTru, dTru, mB, mNot, mAnd, mOr, mBv, mAndV, mOrV, mIf, mChain, mNil, mCons, mTup, mLst, mCB, mPart, mSl, mMut, mMut0, ownD, isLst, relent, mGet2, mCall0, mCall1, outV, lentD, mSeq, gN, gsNil, gsCons, gT, mR1, mR2, asInts, mAny, mKeys, mLc, mLc2, mDc, mNewD, wipeE, back, fI, fAdd, fSub, fNeg, cAll, fC, fLt, fLe, fGt, fGe, fIx, fIxS, D.isDct, atI, ixN, fLen, lenD, fList, fTuple, seqD, lstD, fInt, fAbs, fAppend, fExtend, fIsi, tys, D.ty, isTab, fEq_int, fNe_int, fSl, oneBls, oneInts, fAll, fAny, dec_true, dec_false, fDiv_ok, fMod_ok, fPow_ok, fMulI_l, fMulI_r]) (by simp [run0, run1, sSeq, sNx, sBk, sCt, sEx, sRet, sRetN, sIf, sSet, setC, unbw, putC, Val.cell, sPar, unbws, putCs, sFor, sUnp, sStore, stTo, stD, sRaise, M.bind, M.ret, M.lift, mVar, mC, m2, m1, hold, look, cellD, esc, escs, looks, mTru, dTru, mB, mNot, mAnd, mOr, mBv, mAndV, mOrV, mIf, mChain, mNil, mCons, mTup, mLst, mCB, mPart, mSl, mMut, mMut0, ownD, isLst, relent, mGet2, mCall0, mCall1, outV, lentD, mSeq, gN, gsNil, gsCons, gT, mR1, mR2, asInts, mAny, mKeys, mLc, mLc2, mDc, mNewD, wipeE, back, fI, fAdd, fSub, fNeg, cAll, fC, fLt, fLe, fGt, fGe, fIx, fIxS, D.isDct, atI, ixN, fLen, lenD, fList, fTuple, seqD, lstD, fInt, fAbs, fAppend, fExtend, fIsi, tys, D.ty, isTab, fEq_int, fNe_int, fSl, oneBls, oneInts, fAll, fAny, dec_true, dec_false, fDiv_ok, fMod_ok, fPow_ok, fMulI_l, fMulI_r]) (fun d hd => ?_) ?_
  · cases q : lot.getLast? with
    | none =>
      have : lot = [] := List.getLast?_eq_none_iff.mp q
      subst this
      simp [nxt, lotD, run0, run1, sSeq, sNx, sBk, sCt, sEx, sRet, sRetN, sIf, sSet, setC, unbw, putC, Val.cell, sPar, unbws, putCs, sFor, sUnp, sStore, stTo, stD, sRaise, M.bind, M.ret, M.lift, mVar, mC, m2, m1, hold, look, cellD, esc, escs, looks, mTru, dTru, mB, mNot, mAnd, mOr, mBv, mAndV, mOrV, mIf, mChain, mNil, mCons, mTup, mLst, mCB, mPart, mSl, mMut, mMut0, ownD, isLst, relent, mGet2, mCall0, mCall1, outV, lentD, mSeq, gN, gsNil, gsCons, gT, mR1, mR2, asInts, mAny, mKeys, mLc, mLc2, mDc, mNewD, wipeE, back, fI, fAdd, fSub, fNeg, cAll, fC, fLt, fLe, fGt, fGe, fIx, fIxS, D.isDct, atI, ixN, fLen, lenD, fList, fTuple, seqD, lstD, fInt, fAbs, fAppend, fExtend, fIsi, tys, D.ty, isTab, fEq_int, fNe_int, fSl, oneBls, oneInts, fAll, fAny, dec_true, dec_false, fDiv_ok, fMod_ok, fPow_ok, fMulI_l, fMulI_r]
    | some i =>
      have hne : lot ≠ [] := fun z => by rw [z] at q; cases q
      have hp : 0 < lot.length := List.length_pos_iff.mpr hne
      have e1 : fIx (lotD lot) (.int (-1)) = some (.sh (.int i)) := by
        show (atI (lot.map fun i : Nat => D.int (i : Int)) (-1)).map Val.sh = _
        rw [atI_last (x := D.int i) (by rw [List.getLast?_map, q]; rfl)]
        rfl
      have e2 : fLen [lotD lot] = some (.sh (.int lot.length)) := by simp [fLen, lenD, lotD]
      have e3 : (0 : Int) < lot.length := by omega
      have e4 : nxt lot = i + 1 := by unfold nxt; rw [q]
      rw [e4]
      simp [e1, e2, e3, hp, fGt, fC, run0, run1, sSeq, sNx, sBk, sCt, sEx, sRet, sRetN, sIf, sSet, setC, unbw, putC, Val.cell, sPar, unbws, putCs, sFor, sUnp, sStore, stTo, stD, sRaise, M.bind, M.ret, M.lift, mVar, mC, m2, m1, hold, look, cellD, esc, escs, looks, mTru, dTru, mB, mNot, mAnd, mOr, mBv, mAndV, mOrV, mIf, mChain, mNil, mCons, mTup, mLst, mCB, mPart, mSl, mMut, mMut0, ownD, isLst, relent, mGet2, mCall0, mCall1, outV, lentD, mSeq, gN, gsNil, gsCons, gT, mR1, mR2, asInts, mAny, mKeys, mLc, mLc2, mDc, mNewD, wipeE, back, fI, fAdd, fSub, fNeg, cAll, fLt, fLe, fGe, D.isDct, fList, fTuple, seqD, lstD, fInt, fAbs, fAppend, fExtend, fIsi, tys, D.ty, isTab, fEq_int, fNe_int, fSl, oneBls, oneInts, fAll, fAny, dec_true, dec_false, fDiv_ok, fMod_ok, fPow_ok, fMulI_l, fMulI_r]
  · unfold intsD at hd
    obtain ⟨i, hi, rfl⟩ := List.mem_map.mp hd
    have hi := List.mem_range.mp hi
    refine ⟨[.sh (.int n), c1, c2, c3, c4, .sh (lotD lot), .sh (.int (nxt lot + (i : Int)))], .sh (lotD (lot ++ [nxt lot + i])), [.sh (.int n), c1, c2, c3, c4, .sh (lotD lot), .sh (.int (nxt lot + (i : Int)))], [.sh (.int n), c1, c2, c3, c4, .sh (lotD lot), .sh (.int (nxt lot + (i : Int)))], ?_, ?_, ?_, ?_⟩
    · simp [run0, run1, sSeq, sNx, sBk, sCt, sEx, sRet, sRetN, sIf, sSet, setC, unbw, putC, Val.cell, sPar, unbws, putCs, sFor, sUnp, sStore, stTo, stD, sRaise, M.bind, M.ret, M.lift, mVar, mC, m2, m1, hold, look, cellD, esc, escs, looks, mTru, dTru, mB, mNot, mAnd, mOr, mBv, mAndV, mOrV, mIf, mChain, mNil, mCons, mTup, mLst, mCB, mPart, mSl, mMut, mMut0, ownD, isLst, relent, mGet2, mCall0, mCall1, outV, lentD, mSeq, gN, gsNil, gsCons, gT, mR1, mR2, asInts, mAny, mKeys, mLc, mLc2, mDc, mNewD, wipeE, back, fI, fAdd, fSub, fNeg, cAll, fC, fLt, fLe, fGt, fGe, fIx, fIxS, D.isDct, atI, ixN, fLen, lenD, fList, fTuple, seqD, lstD, fInt, fAbs, fAppend, fExtend, fIsi, tys, D.ty, isTab, fEq_int, fNe_int, fSl, oneBls, oneInts, fAll, fAny, dec_true, dec_false, fDiv_ok, fMod_ok, fPow_ok, fMulI_l, fMulI_r]
    · have : lot.length ≤ 999999 := by omega
      simp [E_lots_of_1, lotD, this, run0, run1, sSeq, sNx, sBk, sCt, sEx, sRet, sRetN, sIf, sSet, setC, unbw, putC, Val.cell, sPar, unbws, putCs, sFor, sUnp, sStore, stTo, stD, sRaise, M.bind, M.ret, M.lift, mVar, mC, m2, m1, hold, look, cellD, esc, escs, looks, mTru, dTru, mB, mNot, mAnd, mOr, mBv, mAndV, mOrV, mIf, mChain, mNil, mCons, mTup, mLst, mCB, mPart, mSl, mMut, mMut0, ownD, isLst, relent, mGet2, mCall0, mCall1, outV, lentD, mSeq, gN, gsNil, gsCons, gT, mR1, mR2, asInts, mAny, mKeys, mLc, mLc2, mDc, mNewD, wipeE, back, fI, fAdd, fSub, fNeg, cAll, fC, fLt, fLe, fGt, fGe, fIx, fIxS, D.isDct, atI, ixN, fLen, lenD, fList, fTuple, seqD, lstD, fInt, fAbs, fAppend, fExtend, fIsi, tys, D.ty, isTab, fEq_int, fNe_int, fSl, oneBls, oneInts, fAll, fAny, dec_true, dec_false, fDiv_ok, fMod_ok, fPow_ok, fMulI_l, fMulI_r]
    · show some (lotD (lot ++ [nxt lot + i]), _) = some (lotD (lot ++ [((nxt lot : Int) + (i : Int)).toNat]), _)
      rw [show ((nxt lot : Int) + (i : Int)).toNat = nxt lot + i by omega]
    · simp [run0, run1, sSeq, sNx, sBk, sCt, sEx, sRet, sRetN, sIf, sSet, setC, unbw, putC, Val.cell, sPar, unbws, putCs, sFor, sUnp, sStore, stTo, stD, sRaise, M.bind, M.ret, M.lift, mVar, mC, m2, m1, hold, look, cellD, esc, escs, looks, mTru, dTru, mB, mNot, mAnd, mOr, mBv, mAndV, mOrV, mIf, mChain, mNil, mCons, mTup, mLst, mCB, mPart, mSl, mMut, mMut0, ownD, isLst, relent, mGet2, mCall0, mCall1, outV, lentD, mSeq, gN, gsNil, gsCons, gT, mR1, mR2, asInts, mAny, mKeys, mLc, mLc2, mDc, mNewD, wipeE, back, fI, fAdd, fSub, fNeg, cAll, fC, fLt, fLe, fGt, fGe, fIx, fIxS, D.isDct, atI, ixN, fLen, lenD, fList, fTuple, seqD, lstD, fInt, fAbs, fAppend, fExtend, fIsi, tys, D.ty, isTab, fEq_int, fNe_int, fSl, oneBls, oneInts, fAll, fAny, dec_true, dec_false, fDiv_ok, fMod_ok, fPow_ok, fMulI_l, fMulI_r]
  · unfold intsD
    rw [List.length_map, List.length_range]
    omega
end Lw

namespace Lw
open PySem PySem.Spec PyProof.Rows L2 VS
theorem nxt_le {n k : Nat} {lot : List Nat} (h : lot ∈ lots n k) : nxt lot ≤ n := by
  obtain ⟨_, b, _⟩ := lots_mem h
  unfold nxt
  cases q : lot.getLast? with
  | none => exact Nat.zero_le _
  | some i => exact b i (List.mem_of_getLast? q)
theorem lots_step {n k : Nat} : lots n (k + 1) = (lots n k).flatMap (exts n) := rfl
theorem lots_mid {n k j : Nat} (hn : n ≤ 12) (hj : j + 1 ≤ 4) (c1 c3 c5 : Cell) (F : Cell) (h5 : c5.lo) (hF : F = .ow (.lst ((lots n j).map lotD)) ∨ F = .sh (.lst ((lots n j).map lotD))) :
    ∃ c5', Cell.lo c5' ∧ L_lots_of_1 [.sh (.int n), c1, F, c3, .ow (.lst []), c5, .un] = .ok .nx [.sh (.int n), c1, .sh (.lst ((lots n j).map lotD)), c3, .ow (.lst ((lots n (j + 1)).map lotD)), c5', .un] := by
  have hs : mSeq (mVar 2) [.sh (.int n), c1, F, c3, .ow (.lst []), c5, .un] = .ok ((lots n j).map lotD) [.sh (.int n), c1, .sh (.lst ((lots n j).map lotD)), c3, .ow (.lst []), c5, .un] := by
    rcases hF with rfl | rfl <;> simp [run0, run1, sSeq, sNx, sBk, sCt, sEx, sRet, sRetN, sIf, sSet, setC, unbw, putC, Val.cell, sPar, unbws, putCs, sFor, sUnp, sStore, stTo, stD, sRaise, M.bind, M.ret, M.lift, mVar, mC, m2, m1, hold, look, cellD, esc, escs, looks, mTru, dTru, mB, mNot, mAnd, mOr, mBv, mAndV, mOrV, mIf, mChain, mNil, mCons, mTup, mLst, mCB, mPart, mSl, mMut, mMut0, ownD, isLst, relent, mGet2, mCall0, mCall1, outV, lentD, mSeq, gN, gsNil, gsCons, gT, mR1, mR2, asInts, mAny, mKeys, mLc, mLc2, mDc, mNewD, wipeE, back, fI, fAdd, fSub, fNeg, cAll, fC, fLt, fLe, fGt, fGe, fIx, fIxS, D.isDct, atI, ixN, fLen, lenD, fList, fTuple, seqD, lstD, fInt, fAbs, fAppend, fExtend, fIsi, tys, D.ty, isTab, fEq_int, fNe_int, fSl, oneBls, oneInts, fAll, fAny, dec_true, dec_false, fDiv_ok, fMod_ok, fPow_ok, fMulI_l, fMulI_r]
  obtain ⟨e', h1, c5', h2, dn, rs, k1, k2, rfl⟩ := forL_ok (g := gN 5) (b := K_lots_of_1) (fun ds e => ∃ c5', Cell.lo c5' ∧ ∃ dn rs, lots n j = dn ++ rs ∧ ds = rs.map lotD ∧ e = [.sh (.int n), c1, .sh (.lst ((lots n j).map lotD)), c3, .ow (.lst ((dn.flatMap (exts n)).map lotD)), c5', .un]) (fun d ds e i => by
    obtain ⟨c5', h2, dn, rs, h3, h4, rfl⟩ := i
    cases rs with
    | nil => cases h4
    | cons lot rs =>
      rw [List.map_cons] at h4
      injection h4 with a b
      subst a
      subst b
      have hm : lot ∈ lots n j := by rw [h3]; simp
      have hin := lots_inner (n := n) (lot := lot) hn (by have := (lots_mem hm).1; omega) (nxt_le hm) c1 (.sh (.lst ((lots n j).map lotD))) c3 (.ow (.lst ((dn.flatMap (exts n)).map lotD)))
      have hlen : ((dn.flatMap (exts n)).map lotD).length + ((exts n lot).map lotD).length ≤ 1000000 := by
        have := lots_few n hn (j + 1) hj
        rw [lots_step, h3, List.flatMap_append, List.flatMap_cons, List.length_append, List.length_append] at this
        rw [List.length_map, List.length_map]
        omega
      have hlen' : (dn.flatMap (exts n)).length + (exts n lot).length ≤ 1000000 := by simpa using hlen
      refine ⟨[.sh (.int n), c1, .sh (.lst ((lots n j).map lotD)), c3, .ow (.lst ((dn.flatMap (exts n)).map lotD)), .sh (lotD lot), .un], _, ?_, ?_, ⟨.sh (lotD lot), trivial, dn ++ [lot], rs, by rw [h3, List.append_assoc]; rfl, rfl, rfl⟩⟩
      · cases c5' <;> first | exact h2.elim | simp [run0, run1, sSeq, sNx, sBk, sCt, sEx, sRet, sRetN, sIf, sSet, setC, unbw, putC, Val.cell, sPar, unbws, putCs, sFor, sUnp, sStore, stTo, stD, sRaise, M.bind, M.ret, M.lift, mVar, mC, m2, m1, hold, look, cellD, esc, escs, looks, mTru, dTru, mB, mNot, mAnd, mOr, mBv, mAndV, mOrV, mIf, mChain, mNil, mCons, mTup, mLst, mCB, mPart, mSl, mMut, mMut0, ownD, isLst, relent, mGet2, mCall0, mCall1, outV, lentD, mSeq, gN, gsNil, gsCons, gT, mR1, mR2, asInts, mAny, mKeys, mLc, mLc2, mDc, mNewD, wipeE, back, fI, fAdd, fSub, fNeg, cAll, fC, fLt, fLe, fGt, fGe, fIx, fIxS, D.isDct, atI, ixN, fLen, lenD, fList, fTuple, seqD, lstD, fInt, fAbs, fAppend, fExtend, fIsi, tys, D.ty, isTab, fEq_int, fNe_int, fSl, oneBls, oneInts, fAll, fAny, dec_true, dec_false, fDiv_ok, fMod_ok, fPow_ok, fMulI_l, fMulI_r]
      · simp only [K_lots_of_1, sEx, mMut, M.bind, mCons, mNil, M.ret, sNx, ownD, isLst, List.getElem?_cons_succ, List.getElem?_cons_zero, hin, escs, esc, fExtend, if_pos hlen, relent, List.set_cons_succ, List.set_cons_zero, if_true]
        simp) _ _ ⟨c5, h5, [], lots n j, rfl, rfl, rfl⟩
  have hr : rs = [] := by
    cases rs with
    | nil => rfl
    | cons _ _ => cases k2
  subst hr
  rw [List.append_nil] at k1
  refine ⟨c5', h2, ?_⟩
  subst k1
  exact sFor_ok hs h1
theorem lots_outer {n k j : Nat} (hn : n ≤ 12) (hj : j + 1 ≤ 4) (c1 c3 c4 c5 F : Cell) (h4 : c4.lo) (h5 : c5.lo) (hF : F = .ow (.lst ((lots n j).map lotD)) ∨ F = .sh (.lst ((lots n j).map lotD))) :
    ∃ c4' c5', Cell.lo c4' ∧ Cell.lo c5' ∧ K_lots_of_2 [.sh (.int n), c1, F, c3, c4, c5, .un] = .ok .nx [.sh (.int n), c1, .sh (.lst ((lots n (j + 1)).map lotD)), c3, c4', c5', .un] := by
  obtain ⟨c5', h6, h7⟩ := lots_mid (k := k) hn hj c1 c3 c5 F h5 hF
  refine ⟨.sh (.lst ((lots n (j + 1)).map lotD)), c5', trivial, h6, ?_⟩
  cases c4 <;> first | exact h4.elim | simp [K_lots_of_2, h7, run0, run1, sSeq, sNx, sBk, sCt, sEx, sRet, sRetN, sIf, sSet, setC, unbw, putC, Val.cell, sPar, unbws, putCs, sFor, sUnp, sStore, stTo, stD, sRaise, M.bind, M.ret, M.lift, mVar, mC, m2, m1, hold, look, cellD, esc, escs, looks, mTru, dTru, mB, mNot, mAnd, mOr, mBv, mAndV, mOrV, mIf, mChain, mNil, mCons, mTup, mLst, mCB, mPart, mSl, mMut, mMut0, ownD, isLst, relent, mGet2, mCall0, mCall1, outV, lentD, mSeq, gN, gsNil, gsCons, gT, mR1, mR2, asInts, mAny, mKeys, mLc, mLc2, mDc, mNewD, wipeE, back, fI, fAdd, fSub, fNeg, cAll, fC, fLt, fLe, fGt, fGe, fIx, fIxS, D.isDct, atI, ixN, fLen, lenD, fList, fTuple, seqD, lstD, fInt, fAbs, fAppend, fExtend, fIsi, tys, D.ty, isTab, fEq_int, fNe_int, fSl, oneBls, oneInts, fAll, fAny, dec_true, dec_false, fDiv_ok, fMod_ok, fPow_ok, fMulI_l, fMulI_r]
theorem lots_ok {n k : Nat} (hn : n ≤ 12) (hk : k ≤ 4) : ∃ c, (c = Val.ow (.lst ((lots n k).map lotD)) ∨ c = Val.sh (.lst ((lots n k).map lotD))) ∧ F_lots_of [.int n, .int k] = .ok c .non := by
  obtain ⟨e', h1, j, c2, c3, c4, c5, a1, a2, a3, a4, a5, a6⟩ := forL_ok (g := gN 3) (b := K_lots_of_2) (fun ds e => ∃ j c2 c3 c4 c5, Cell.lo c3 ∧ Cell.lo c4 ∧ Cell.lo c5 ∧ (c2 = Cell.ow (.lst ((lots n j).map lotD)) ∨ c2 = Cell.sh (.lst ((lots n j).map lotD))) ∧ j + ds.length = k ∧ e = [.sh (.int n), .sh (.int k), c2, c3, c4, c5, .un])
    (fun d ds e i => by
      obtain ⟨j, c2, c3, c4, c5, a1, a2, a3, a4, a5, rfl⟩ := i
      rw [List.length_cons] at a5
      obtain ⟨c4', c5', b1, b2, b3⟩ := lots_outer (k := k) hn (by omega : j + 1 ≤ 4) (.sh (.int k)) (.sh d) c4 c5 c2 a2 a3 a4
      refine ⟨[.sh (.int n), .sh (.int k), c2, .sh d, c4, c5, .un], _, ?_, b3, j + 1, .sh (.lst ((lots n (j + 1)).map lotD)), .sh d, c4', c5', trivial, b1, b2, .inr rfl, by omega, rfl⟩
      cases c3 <;> first | exact a1.elim | simp [run0, run1, sSeq, sNx, sBk, sCt, sEx, sRet, sRetN, sIf, sSet, setC, unbw, putC, Val.cell, sPar, unbws, putCs, sFor, sUnp, sStore, stTo, stD, sRaise, M.bind, M.ret, M.lift, mVar, mC, m2, m1, hold, look, cellD, esc, escs, looks, mTru, dTru, mB, mNot, mAnd, mOr, mBv, mAndV, mOrV, mIf, mChain, mNil, mCons, mTup, mLst, mCB, mPart, mSl, mMut, mMut0, ownD, isLst, relent, mGet2, mCall0, mCall1, outV, lentD, mSeq, gN, gsNil, gsCons, gT, mR1, mR2, asInts, mAny, mKeys, mLc, mLc2, mDc, mNewD, wipeE, back, fI, fAdd, fSub, fNeg, cAll, fC, fLt, fLe, fGt, fGe, fIx, fIxS, D.isDct, atI, ixN, fLen, lenD, fList, fTuple, seqD, lstD, fInt, fAbs, fAppend, fExtend, fIsi, tys, D.ty, isTab, fEq_int, fNe_int, fSl, oneBls, oneInts, fAll, fAny, dec_true, dec_false, fDiv_ok, fMod_ok, fPow_ok, fMulI_l, fMulI_r]) (intsD 0 k) [.sh (.int n), .sh (.int k), .ow (.lst [.tup []]), .un, .un, .un, .un] ⟨0, .ow (.lst [.tup []]), .un, .un, .un, trivial, trivial, trivial, .inl rfl, by unfold intsD; rw [List.length_map, List.length_range]; omega, rfl⟩
  rw [List.length_nil, Nat.add_zero] at a5
  subst a5
  subst a6
  have hr : mR1 (mCons (mVar 1) mNil) [.sh (.int n), .sh (.int j), .ow (.lst [.tup []]), .un, .un, .un, .un] = .ok (intsD 0 j) [.sh (.int n), .sh (.int j), .ow (.lst [.tup []]), .un, .un, .un, .un] := by
    have := mR1_ok (n := mCons (mVar 1) mNil) (e := [.sh (.int n), .sh (.int j), .ow (.lst [.tup []]), .un, .un, .un, .un]) (j := (j : Int)) (e' := [.sh (.int n), .sh (.int j), .ow (.lst [.tup []]), .un, .un, .un, .un]) (by simp [run0, run1, sSeq, sNx, sBk, sCt, sEx, sRet, sRetN, sIf, sSet, setC, unbw, putC, Val.cell, sPar, unbws, putCs, sFor, sUnp, sStore, stTo, stD, sRaise, M.bind, M.ret, M.lift, mVar, mC, m2, m1, hold, look, cellD, esc, escs, looks, mTru, dTru, mB, mNot, mAnd, mOr, mBv, mAndV, mOrV, mIf, mChain, mNil, mCons, mTup, mLst, mCB, mPart, mSl, mMut, mMut0, ownD, isLst, relent, mGet2, mCall0, mCall1, outV, lentD, mSeq, gN, gsNil, gsCons, gT, mR1, mR2, asInts, mAny, mKeys, mLc, mLc2, mDc, mNewD, wipeE, back, fI, fAdd, fSub, fNeg, cAll, fC, fLt, fLe, fGt, fGe, fIx, fIxS, D.isDct, atI, ixN, fLen, lenD, fList, fTuple, seqD, lstD, fInt, fAbs, fAppend, fExtend, fIsi, tys, D.ty, isTab, fEq_int, fNe_int, fSl, oneBls, oneInts, fAll, fAny, dec_true, dec_false, fDiv_ok, fMod_ok, fPow_ok, fMulI_l, fMulI_r]) (by omega)
    simpa using this
  have hL : L_lots_of_2 [.sh (.int n), .sh (.int j), .ow (.lst [.tup []]), .un, .un, .un, .un] = .ok .nx [.sh (.int n), .sh (.int j), c2, c3, c4, c5, .un] := by
    exact sFor_ok hr h1
  rcases a4 with rfl | rfl
  · exact ⟨_, .inl rfl, by simp [F_lots_of, B_lots_of, hL, run0, run1, sSeq, sNx, sBk, sCt, sEx, sRet, sRetN, sIf, sSet, setC, unbw, putC, Val.cell, sPar, unbws, putCs, sFor, sUnp, sStore, stTo, stD, sRaise, M.bind, M.ret, M.lift, mVar, mC, m2, m1, hold, look, cellD, esc, escs, looks, mTru, dTru, mB, mNot, mAnd, mOr, mBv, mAndV, mOrV, mIf, mChain, mNil, mCons, mTup, mLst, mCB, mPart, mSl, mMut, mMut0, ownD, isLst, relent, mGet2, mCall0, mCall1, outV, lentD, mSeq, gN, gsNil, gsCons, gT, mR1, mR2, asInts, mAny, mKeys, mLc, mLc2, mDc, mNewD, wipeE, back, fI, fAdd, fSub, fNeg, cAll, fC, fLt, fLe, fGt, fGe, fIx, fIxS, D.isDct, atI, ixN, fLen, lenD, fList, fTuple, seqD, lstD, fInt, fAbs, fAppend, fExtend, fIsi, tys, D.ty, isTab, fEq_int, fNe_int, fSl, oneBls, oneInts, fAll, fAny, dec_true, dec_false, fDiv_ok, fMod_ok, fPow_ok, fMulI_l, fMulI_r]⟩
  · exact ⟨_, .inr rfl, by simp [F_lots_of, B_lots_of, hL, run0, run1, sSeq, sNx, sBk, sCt, sEx, sRet, sRetN, sIf, sSet, setC, unbw, putC, Val.cell, sPar, unbws, putCs, sFor, sUnp, sStore, stTo, stD, sRaise, M.bind, M.ret, M.lift, mVar, mC, m2, m1, hold, look, cellD, esc, escs, looks, mTru, dTru, mB, mNot, mAnd, mOr, mBv, mAndV, mOrV, mIf, mChain, mNil, mCons, mTup, mLst, mCB, mPart, mSl, mMut, mMut0, ownD, isLst, relent, mGet2, mCall0, mCall1, outV, lentD, mSeq, gN, gsNil, gsCons, gT, mR1, mR2, asInts, mAny, mKeys, mLc, mLc2, mDc, mNewD, wipeE, back, fI, fAdd, fSub, fNeg, cAll, fC, fLt, fLe, fGt, fGe, fIx, fIxS, D.isDct, atI, ixN, fLen, lenD, fList, fTuple, seqD, lstD, fInt, fAbs, fAppend, fExtend, fIsi, tys, D.ty, isTab, fEq_int, fNe_int, fSl, oneBls, oneInts, fAll, fAny, dec_true, dec_false, fDiv_ok, fMod_ok, fPow_ok, fMulI_l, fMulI_r]⟩
theorem lots_same : F__law_lots = F_lots_of := rfl
end Lw

namespace Lw
open PySem PySem.Spec PyProof.Rows L2 VS
/-! ### how far -/
def far (a b : Int × Int) : Int := (b.1 - a.1) * (b.1 - a.1) + (b.2 - a.2) * (b.2 - a.2)
/-- a place in wider bounds -/
def nearW (p : Int × Int) : Prop := (-100000 ≤ p.1 ∧ p.1 ≤ 100000) ∧ (-100000 ≤ p.2 ∧ p.2 ≤ 100000)
theorem near.w {p : Int × Int} (h : near p) : nearW p := by unfold near nearW at *; omega
theorem raw_far_ok {a b : Int × Int} (ha : nearW a) (hb : nearW b) : F_raw_far [dotD a, dotD b] = .ok (.sh (.int (far a b))) .non := by
  obtain ⟨⟨a1, a2⟩, a3, a4⟩ := ha
  obtain ⟨⟨b1, b2⟩, b3, b4⟩ := hb
  have x : -1000000000000000000 ≤ b.1 - a.1 ∧ b.1 - a.1 ≤ 1000000000000000000 := by omega
  have y : -1000000000000000000 ≤ b.2 - a.2 ∧ b.2 - a.2 ≤ 1000000000000000000 := by omega
  simp [F_raw_far, B_raw_far, dotD, far, fMulI_l x, fMulI_l y, run0, run1, sSeq, sNx, sBk, sCt, sEx, sRet, sRetN, sIf, sSet, setC, unbw, putC, Val.cell, sPar, unbws, putCs, sFor, sUnp, sStore, stTo, stD, sRaise, M.bind, M.ret, M.lift, mVar, mC, m2, m1, hold, look, cellD, esc, escs, looks, mTru, dTru, mB, mNot, mAnd, mOr, mBv, mAndV, mOrV, mIf, mChain, mNil, mCons, mTup, mLst, mCB, mPart, mSl, mMut, mMut0, ownD, isLst, relent, mGet2, mCall0, mCall1, outV, lentD, mSeq, gN, gsNil, gsCons, gT, mR1, mR2, asInts, mAny, mKeys, mLc, mLc2, mDc, mNewD, wipeE, back, fI, fAdd, fSub, fNeg, cAll, fC, fLt, fLe, fGt, fGe, fIx, fIxS, D.isDct, atI, ixN, fLen, lenD, fList, fTuple, seqD, lstD, fInt, fAbs, fAppend, fExtend, fIsi, tys, D.ty, isTab, fEq_int, fNe_int, fSl, oneBls, oneInts, fAll, fAny, dec_true, dec_false, fDiv_ok, fMod_ok, fPow_ok, fMulI_l, fMulI_r]
theorem law_far_ok {a b : Int × Int} (ha : nearW a) (hb : nearW b) : F__law_far [dotD a, dotD b] = .ok (.sh (.int (far a b))) .non := by
  obtain ⟨⟨a1, a2⟩, a3, a4⟩ := ha
  obtain ⟨⟨b1, b2⟩, b3, b4⟩ := hb
  have x : -1000000000000000000 ≤ a.1 - b.1 ∧ a.1 - b.1 ≤ 1000000000000000000 := by omega
  have y : -1000000000000000000 ≤ a.2 - b.2 ∧ a.2 - b.2 ≤ 1000000000000000000 := by omega
  have e : far a b = (a.1 - b.1) * (a.1 - b.1) + (a.2 - b.2) * (a.2 - b.2) := by
    unfold far
    rw [show b.1 - a.1 = -(a.1 - b.1) by omega, show b.2 - a.2 = -(a.2 - b.2) by omega, Int.neg_mul_neg, Int.neg_mul_neg]
  rw [e]
  simp [F__law_far, B__law_far, dotD, fMulI_l x, fMulI_l y, run0, run1, sSeq, sNx, sBk, sCt, sEx, sRet, sRetN, sIf, sSet, setC, unbw, putC, Val.cell, sPar, unbws, putCs, sFor, sUnp, sStore, stTo, stD, sRaise, M.bind, M.ret, M.lift, mVar, mC, m2, m1, hold, look, cellD, esc, escs, looks, mTru, dTru, mB, mNot, mAnd, mOr, mBv, mAndV, mOrV, mIf, mChain, mNil, mCons, mTup, mLst, mCB, mPart, mSl, mMut, mMut0, ownD, isLst, relent, mGet2, mCall0, mCall1, outV, lentD, mSeq, gN, gsNil, gsCons, gT, mR1, mR2, asInts, mAny, mKeys, mLc, mLc2, mDc, mNewD, wipeE, back, fI, fAdd, fSub, fNeg, cAll, fC, fLt, fLe, fGt, fGe, fIx, fIxS, D.isDct, atI, ixN, fLen, lenD, fList, fTuple, seqD, lstD, fInt, fAbs, fAppend, fExtend, fIsi, tys, D.ty, isTab, fEq_int, fNe_int, fSl, oneBls, oneInts, fAll, fAny, dec_true, dec_false, fDiv_ok, fMod_ok, fPow_ok, fMulI_l, fMulI_r]
/-- the counts -/
def bump (l : List (Int × Int)) (k : Int) : List (Int × Int) := putI l k ((getI l k).getD 0 + 1)
def farsOf (c : List (Int × Int)) : List Int := (lots c.length 2).map fun lot => far (c.getD (lot.getD 0 0) (0, 0)) (c.getD (lot.getD 1 0) (0, 0))
def counts (c : List (Int × Int)) : List (Int × Int) := (farsOf c).foldl bump []
theorem lot2 {n : Nat} {lot : List Nat} (h : lot ∈ lots n 2) : ∃ i j, lot = [i, j] ∧ i < n ∧ j < n := by
  obtain ⟨a, b, _⟩ := lots_mem h
  match lot, a with
  | [i, j], _ => exact ⟨i, j, rfl, b i (by simp), b j (by simp)⟩
theorem crowd_ix {c : List (Int × Int)} {i : Nat} (h : i < c.length) : fIx (crowdD c) (.int i) = some (.sh (dotD (c.getD i (0, 0)))) := by
  show (atI (c.map dotD) (i : Int)).map Val.sh = _
  rw [atI_nat' (x := dotD (c.getD i (0, 0))) (by rw [List.getElem?_map, List.getD_eq_getElem?_getD, List.getElem?_eq_getElem h]; rfl)]
  rfl
theorem foldl_len (ks : List Int) : ∀ l : List (Int × Int), (ks.foldl bump l).length ≤ l.length + ks.length := by
  induction ks with
  | nil => intro l; simp
  | cons k ks ih =>
    intro l
    have a := ih (bump l k)
    have b := putI_len l k ((getI l k).getD 0 + 1)
    rw [List.foldl_cons, List.length_cons]
    unfold bump at a ⊢
    omega
theorem get_enc (l : List (Int × Int)) (k : Int) : fGet2 (.dct false (encI l)) (.int k) (.int 0) = some (.int ((getI l k).getD 0)) := by
  unfold fGet2
  rw [keyOfI]
  cases getI l k <;> rfl
theorem st_enc {l : List (Int × Int)} (hl : l.length < 1000000) (k v : Int) : stD (.dct false (encI l)) (.int k) (.int v) = some (.dct false (encI (putI l k v))) := by
  show (if (encI l).length < 1000000 then _ else _) = _
  rw [if_pos (by unfold encI; rw [List.length_map]; exact hl)]
  show some (D.dct false (putL keyK (encI l) (.inl k) (.int k) (.int v))) = _
  rw [putLI]
end Lw

namespace Lw
open PySem PySem.Spec PyProof.Rows L2 VS
def lotFar (c : List (Int × Int)) (lot : List Nat) : Int := far (c.getD (lot.getD 0 0) (0, 0)) (c.getD (lot.getD 1 0) (0, 0))
theorem fars_len {c : List (Int × Int)} (h : c.length ≤ 12) : (farsOf c).length ≤ 1000 := by
  unfold farsOf
  rw [List.length_map]
  exact lots_few _ h 2 (by decide)
theorem counts_len {c : List (Int × Int)} (h : c.length ≤ 12) : (counts c).length ≤ 1000 := by
  have := foldl_len (farsOf c) []
  have := fars_len h
  unfold counts
  simp at *
  omega
theorem getD_near {c : List (Int × Int)} (h : ∀ p ∈ c, nearW p) (i : Nat) : nearW (c.getD i (0, 0)) := by
  rw [List.getD_eq_getElem?_getD]
  cases q : c[i]? with
  | none => unfold nearW; simp
  | some p => exact h p (List.mem_of_getElem? q)
/-- one pair more: the body, whichever of the two defs reckons how far -/
theorem far_loop {b : M Flw} {c : List (Int × Int)} (hc : c.length ≤ 12)
    (hb : ∀ (i j : Nat) (l : List (Int × Int)) (c4 : Cell), c4.lo → i < c.length → j < c.length → l.length < 1000000 → b [.sh (crowdD c), .ow (.dct false (encI l)), .sh (.int i), .sh (.int j), c4] =
      .ok .nx [.sh (crowdD c), .ow (.dct false (encI (bump l (far (c.getD i (0, 0)) (c.getD j (0, 0)))))), .sh (.int i), .sh (.int j), .sh (.int (far (c.getD i (0, 0)) (c.getD j (0, 0))))]) :
    ∃ c2 c3 c4, Cell.lo c4 ∧ forL (gT (gsCons (gN 2) (gsCons (gN 3) gsNil))) b ((lots c.length 2).map lotD) [.sh (crowdD c), .ow (.dct false (encI [])), .un, .un, .un] = .ok .nx [.sh (crowdD c), .ow (.dct false (encI (counts c))), c2, c3, c4] := by
  obtain ⟨e', h1, c2, c3, c4, a2, a3, a4, dn, rs, k1, k2, rfl⟩ := forL_ok (g := gT (gsCons (gN 2) (gsCons (gN 3) gsNil))) (b := b) (fun ds e => ∃ c2 c3 c4, Cell.lo c2 ∧ Cell.lo c3 ∧ Cell.lo c4 ∧ ∃ dn rs, lots c.length 2 = dn ++ rs ∧ ds = rs.map lotD ∧
      e = [.sh (crowdD c), .ow (.dct false (encI ((dn.map (lotFar c)).foldl bump []))), c2, c3, c4]) (fun d ds e i => by
    obtain ⟨c2, c3, c4, a2, a3, a4, dn, rs, h3, h4, rfl⟩ := i
    cases rs with
    | nil => cases h4
    | cons lot rs =>
      rw [List.map_cons] at h4
      injection h4 with x y
      subst x
      subst y
      obtain ⟨i, j, rfl, hi, hj⟩ := lot2 (show lot ∈ lots c.length 2 by rw [h3]; simp)
      have hl : ((dn.map (lotFar c)).foldl bump []).length < 1000000 := by
        have := foldl_len (dn.map (lotFar c)) []
        have := lots_few _ hc 2 (by decide)
        rw [h3] at this
        simp at *
        omega
      refine ⟨[.sh (crowdD c), .ow (.dct false (encI ((dn.map (lotFar c)).foldl bump []))), .sh (.int i), .sh (.int j), c4], _, ?_, hb i j _ c4 a4 hi hj hl, .sh (.int i), .sh (.int j), .sh (.int (far (c.getD i (0, 0)) (c.getD j (0, 0)))), trivial, trivial, trivial, dn ++ [[i, j]], rs, by rw [h3, List.append_assoc]; rfl, rfl, ?_⟩
      · cases c2 <;> first | exact a2.elim | (cases c3 <;> first | exact a3.elim | simp [lotD, run0, run1, sSeq, sNx, sBk, sCt, sEx, sRet, sRetN, sIf, sSet, setC, unbw, putC, Val.cell, sPar, unbws, putCs, sFor, sUnp, sStore, stTo, stD, sRaise, M.bind, M.ret, M.lift, mVar, mC, m2, m1, hold, look, cellD, esc, escs, looks, mTru, dTru, mB, mNot, mAnd, mOr, mBv, mAndV, mOrV, mIf, mChain, mNil, mCons, mTup, mLst, mCB, mPart, mSl, mMut, mMut0, ownD, isLst, relent, mGet2, mCall0, mCall1, outV, lentD, mSeq, gN, gsNil, gsCons, gT, mR1, mR2, asInts, mAny, mKeys, mLc, mLc2, mDc, mNewD, wipeE, back, fI, fAdd, fSub, fNeg, cAll, fC, fLt, fLe, fGt, fGe, fIx, fIxS, D.isDct, atI, ixN, fLen, lenD, fList, fTuple, seqD, lstD, fInt, fAbs, fAppend, fExtend, fIsi, tys, D.ty, isTab, fEq_int, fNe_int, fSl, oneBls, oneInts, fAll, fAny, dec_true, dec_false, fDiv_ok, fMod_ok, fPow_ok, fMulI_l, fMulI_r])
      · rw [List.map_append, List.foldl_append]
        rfl) _ _ ⟨.un, .un, .un, trivial, trivial, trivial, [], lots c.length 2, rfl, rfl, rfl⟩
  have hr : rs = [] := by
    cases rs with
    | nil => rfl
    | cons _ _ => cases k2
  subst hr
  rw [List.append_nil] at k1
  subst k1
  exact ⟨c2, c3, c4, a4, h1⟩
theorem raw_body {c : List (Int × Int)} (hn : ∀ p ∈ c, nearW p) (i j : Nat) (l : List (Int × Int)) (c4 : Cell) (h4 : c4.lo) (hi : i < c.length) (hj : j < c.length) (hl : l.length < 1000000) :
    K_raw_far_counts_1 [.sh (crowdD c), .ow (.dct false (encI l)), .sh (.int i), .sh (.int j), c4] =
      .ok .nx [.sh (crowdD c), .ow (.dct false (encI (bump l (far (c.getD i (0, 0)) (c.getD j (0, 0)))))), .sh (.int i), .sh (.int j), .sh (.int (far (c.getD i (0, 0)) (c.getD j (0, 0))))] := by
  have x := raw_far_ok (getD_near hn i) (getD_near hn j)
  have y := crowd_ix hi
  have z := crowd_ix hj
  generalize c.getD i (0, 0) = p at *
  generalize c.getD j (0, 0) = q at *
  have g := get_enc l (far p q)
  have s := st_enc hl (far p q) ((getI l (far p q)).getD 0 + 1)
  cases c4 <;> first | exact h4.elim | simp [K_raw_far_counts_1, x, y, z, g, s, bump, run0, run1, sSeq, sNx, sBk, sCt, sEx, sRet, sRetN, sIf, sSet, setC, unbw, putC, Val.cell, sPar, unbws, putCs, sFor, sUnp, sStore, stTo, sRaise, M.bind, M.ret, M.lift, mVar, mC, m2, m1, hold, look, cellD, esc, escs, looks, mTru, dTru, mB, mNot, mAnd, mOr, mBv, mAndV, mOrV, mIf, mChain, mNil, mCons, mTup, mLst, mCB, mPart, mSl, mMut, mMut0, ownD, isLst, relent, mGet2, mCall0, mCall1, outV, lentD, mSeq, gN, gsNil, gsCons, gT, mR1, mR2, asInts, mAny, mKeys, mLc, mLc2, mDc, mNewD, wipeE, back, fI, fAdd, fSub, fNeg, cAll, fC, fLt, fLe, fGt, fGe, D.isDct, fLen, lenD, fList, fTuple, seqD, lstD, fInt, fAbs, fAppend, fExtend, fIsi, tys, D.ty, isTab, fEq_int, fNe_int, fSl, oneBls, oneInts, fAll, fAny, dec_true, dec_false, fDiv_ok, fMod_ok, fPow_ok, fMulI_l, fMulI_r]
theorem law_body {c : List (Int × Int)} (hn : ∀ p ∈ c, nearW p) (i j : Nat) (l : List (Int × Int)) (c4 : Cell) (h4 : c4.lo) (hi : i < c.length) (hj : j < c.length) (hl : l.length < 1000000) :
    K__law_far_counts_1 [.sh (crowdD c), .ow (.dct false (encI l)), .sh (.int i), .sh (.int j), c4] =
      .ok .nx [.sh (crowdD c), .ow (.dct false (encI (bump l (far (c.getD i (0, 0)) (c.getD j (0, 0)))))), .sh (.int i), .sh (.int j), .sh (.int (far (c.getD i (0, 0)) (c.getD j (0, 0))))] := by
  have x := law_far_ok (getD_near hn i) (getD_near hn j)
  have y := crowd_ix hi
  have z := crowd_ix hj
  generalize c.getD i (0, 0) = p at *
  generalize c.getD j (0, 0) = q at *
  have g := get_enc l (far p q)
  have s := st_enc hl (far p q) ((getI l (far p q)).getD 0 + 1)
  cases c4 <;> first | exact h4.elim | simp [K__law_far_counts_1, x, y, z, g, s, bump, run0, run1, sSeq, sNx, sBk, sCt, sEx, sRet, sRetN, sIf, sSet, setC, unbw, putC, Val.cell, sPar, unbws, putCs, sFor, sUnp, sStore, stTo, sRaise, M.bind, M.ret, M.lift, mVar, mC, m2, m1, hold, look, cellD, esc, escs, looks, mTru, dTru, mB, mNot, mAnd, mOr, mBv, mAndV, mOrV, mIf, mChain, mNil, mCons, mTup, mLst, mCB, mPart, mSl, mMut, mMut0, ownD, isLst, relent, mGet2, mCall0, mCall1, outV, lentD, mSeq, gN, gsNil, gsCons, gT, mR1, mR2, asInts, mAny, mKeys, mLc, mLc2, mDc, mNewD, wipeE, back, fI, fAdd, fSub, fNeg, cAll, fC, fLt, fLe, fGt, fGe, D.isDct, fLen, lenD, fList, fTuple, seqD, lstD, fInt, fAbs, fAppend, fExtend, fIsi, tys, D.ty, isTab, fEq_int, fNe_int, fSl, oneBls, oneInts, fAll, fAny, dec_true, dec_false, fDiv_ok, fMod_ok, fPow_ok, fMulI_l, fMulI_r]
theorem raw_lots {f : List D → FR} {c : List (Int × Int)} {e : VS.Env} (hf : f = F_lots_of) (hc : c.length ≤ 12) (he : e[0]? = some (Cell.sh (crowdD c))) : mSeq (mCall0 f (mCons (mCB fLen (mCons (mVar 0) mNil)) (mCons (mC (.int 2)) mNil))) e = .ok ((lots c.length 2).map lotD) e := by
  subst hf
  obtain ⟨v, hv, h⟩ := lots_ok hc (show 2 ≤ 4 by decide)
  have h : F_lots_of [.int c.length, .int 2] = .ok v .non := h
  rcases hv with rfl | rfl <;> simp [he, h, crowdD, run0, run1, sSeq, sNx, sBk, sCt, sEx, sRet, sRetN, sIf, sSet, setC, unbw, putC, Val.cell, sPar, unbws, putCs, sFor, sUnp, sStore, stTo, stD, sRaise, M.bind, M.ret, M.lift, mVar, mC, m2, m1, hold, look, cellD, esc, escs, looks, mTru, dTru, mB, mNot, mAnd, mOr, mBv, mAndV, mOrV, mIf, mChain, mNil, mCons, mTup, mLst, mCB, mPart, mSl, mMut, mMut0, ownD, isLst, relent, mGet2, mCall0, mCall1, outV, lentD, mSeq, gN, gsNil, gsCons, gT, mR1, mR2, asInts, mAny, mKeys, mLc, mLc2, mDc, mNewD, wipeE, back, fI, fAdd, fSub, fNeg, cAll, fC, fLt, fLe, fGt, fGe, fIx, fIxS, D.isDct, atI, ixN, fLen, lenD, fList, fTuple, seqD, lstD, fInt, fAbs, fAppend, fExtend, fIsi, tys, D.ty, isTab, fEq_int, fNe_int, fSl, oneBls, oneInts, fAll, fAny, dec_true, dec_false, fDiv_ok, fMod_ok, fPow_ok, fMulI_l, fMulI_r]
theorem raw_far_counts_ok {c : List (Int × Int)} (hc : c.length ≤ 12) (hn : ∀ p ∈ c, nearW p) : F_raw_far_counts [crowdD c] = .ok (.ow (.dct false (encI (counts c)))) .non := by
  obtain ⟨c2, c3, c4, _, h⟩ := far_loop hc (raw_body hn)
  have hL : L_raw_far_counts_1 [.sh (crowdD c), .ow (.dct false []), .un, .un, .un] = _ := sFor_ok (raw_lots rfl hc rfl) h
  simp [F_raw_far_counts, B_raw_far_counts, hL, run0, run1, sSeq, sNx, sBk, sCt, sEx, sRet, sRetN, sIf, sSet, setC, unbw, putC, Val.cell, sPar, unbws, putCs, sFor, sUnp, sStore, stTo, stD, sRaise, M.bind, M.ret, M.lift, mVar, mC, m2, m1, hold, look, cellD, esc, escs, looks, mTru, dTru, mB, mNot, mAnd, mOr, mBv, mAndV, mOrV, mIf, mChain, mNil, mCons, mTup, mLst, mCB, mPart, mSl, mMut, mMut0, ownD, isLst, relent, mGet2, mCall0, mCall1, outV, lentD, mSeq, gN, gsNil, gsCons, gT, mR1, mR2, asInts, mAny, mKeys, mLc, mLc2, mDc, mNewD, wipeE, back, fI, fAdd, fSub, fNeg, cAll, fC, fLt, fLe, fGt, fGe, fIx, fIxS, D.isDct, atI, ixN, fLen, lenD, fList, fTuple, seqD, lstD, fInt, fAbs, fAppend, fExtend, fIsi, tys, D.ty, isTab, fEq_int, fNe_int, fSl, oneBls, oneInts, fAll, fAny, dec_true, dec_false, fDiv_ok, fMod_ok, fPow_ok, fMulI_l, fMulI_r]
end Lw

namespace Lw
open PySem PySem.Spec PyProof.Rows L2 VS
theorem counts_nd (c : List (Int × Int)) : ((counts c).map (·.1)).Nodup := by
  unfold counts
  have : ∀ (ks : List Int) (l : List (Int × Int)), (l.map (·.1)).Nodup → ((ks.foldl bump l).map (·.1)).Nodup := by
    intro ks
    induction ks with
    | nil => intro l h; exact h
    | cons k ks ih => intro l h; exact ih _ (putI_keys l k _ h)
  exact this _ [] (by simp)
theorem ix_enc {l : List (Int × Int)} {p : Int × Int} (hn : (l.map (·.1)).Nodup) (h : p ∈ l) : fIx (.dct false (encI l)) (.int p.1) = some (.sh (.int p.2)) := by
  show fIxD _ _ = _
  unfold fIxD
  rw [keyOfI, getI_mem hn h]
  rfl
def countsD (l : List (Int × Int)) : D := .tup ((inOrder l).map dPair)
theorem as_pairs_ok {l : List (Int × Int)} (hn : (l.map (·.1)).Nodup) (hl : l.length < 64) : F_as_pairs [.dct false (encI l)] = .ok (.sh (countsD l)) .non := by
  have q : C_as_pairs_1 [.sh (.dct false (encI l)), .un] = .ok (.ow (.lst ((inOrder l).map dPair))) [.sh (.dct false (encI l)), .un] := by
    have ei : (inOrder l).map dPair = (((l.map (·.1)).mergeSort).map D.int).map fun d => match d with
        | .int k => dPair (k, (getI l k).getD 0)
        | d => d := by
      unfold inOrder
      rw [List.map_map, List.map_map]
      rfl
    rw [ei]
    refine mLc_map _ (e0 := [.sh (.dct false (encI l)), .un]) (ew := [.sh (.dct false (encI l)), .un]) (by simp [fSort_keys hl, run0, run1, sSeq, sNx, sBk, sCt, sEx, sRet, sRetN, sIf, sSet, setC, unbw, putC, Val.cell, sPar, unbws, putCs, sFor, sUnp, sStore, stTo, stD, sRaise, M.bind, M.ret, M.lift, mVar, mC, m2, m1, hold, look, cellD, esc, escs, looks, mTru, dTru, mB, mNot, mAnd, mOr, mBv, mAndV, mOrV, mIf, mChain, mNil, mCons, mTup, mLst, mCB, mPart, mSl, mMut, mMut0, ownD, isLst, relent, mGet2, mCall0, mCall1, outV, lentD, mSeq, gN, gsNil, gsCons, gT, mR1, mR2, asInts, mAny, mKeys, mLc, mLc2, mDc, mNewD, wipeE, back, fI, fAdd, fSub, fNeg, cAll, fC, fLt, fLe, fGt, fGe, fIx, fIxS, D.isDct, atI, ixN, fLen, lenD, fList, fTuple, seqD, lstD, fInt, fAbs, fAppend, fExtend, fIsi, tys, D.ty, isTab, fEq_int, fNe_int, fSl, oneBls, oneInts, fAll, fAny, dec_true, dec_false, fDiv_ok, fMod_ok, fPow_ok, fMulI_l, fMulI_r]) (by simp [run0, run1, sSeq, sNx, sBk, sCt, sEx, sRet, sRetN, sIf, sSet, setC, unbw, putC, Val.cell, sPar, unbws, putCs, sFor, sUnp, sStore, stTo, stD, sRaise, M.bind, M.ret, M.lift, mVar, mC, m2, m1, hold, look, cellD, esc, escs, looks, mTru, dTru, mB, mNot, mAnd, mOr, mBv, mAndV, mOrV, mIf, mChain, mNil, mCons, mTup, mLst, mCB, mPart, mSl, mMut, mMut0, ownD, isLst, relent, mGet2, mCall0, mCall1, outV, lentD, mSeq, gN, gsNil, gsCons, gT, mR1, mR2, asInts, mAny, mKeys, mLc, mLc2, mDc, mNewD, wipeE, back, fI, fAdd, fSub, fNeg, cAll, fC, fLt, fLe, fGt, fGe, fIx, fIxS, D.isDct, atI, ixN, fLen, lenD, fList, fTuple, seqD, lstD, fInt, fAbs, fAppend, fExtend, fIsi, tys, D.ty, isTab, fEq_int, fNe_int, fSl, oneBls, oneInts, fAll, fAny, dec_true, dec_false, fDiv_ok, fMod_ok, fPow_ok, fMulI_l, fMulI_r]) (by simp [run0, run1, sSeq, sNx, sBk, sCt, sEx, sRet, sRetN, sIf, sSet, setC, unbw, putC, Val.cell, sPar, unbws, putCs, sFor, sUnp, sStore, stTo, stD, sRaise, M.bind, M.ret, M.lift, mVar, mC, m2, m1, hold, look, cellD, esc, escs, looks, mTru, dTru, mB, mNot, mAnd, mOr, mBv, mAndV, mOrV, mIf, mChain, mNil, mCons, mTup, mLst, mCB, mPart, mSl, mMut, mMut0, ownD, isLst, relent, mGet2, mCall0, mCall1, outV, lentD, mSeq, gN, gsNil, gsCons, gT, mR1, mR2, asInts, mAny, mKeys, mLc, mLc2, mDc, mNewD, wipeE, back, fI, fAdd, fSub, fNeg, cAll, fC, fLt, fLe, fGt, fGe, fIx, fIxS, D.isDct, atI, ixN, fLen, lenD, fList, fTuple, seqD, lstD, fInt, fAbs, fAppend, fExtend, fIsi, tys, D.ty, isTab, fEq_int, fNe_int, fSl, oneBls, oneInts, fAll, fAny, dec_true, dec_false, fDiv_ok, fMod_ok, fPow_ok, fMulI_l, fMulI_r]) (fun d hd => ?_) (by simp; omega)
    obtain ⟨k, hk, rfl⟩ := List.mem_map.mp hd
    have hk := (List.mergeSort_perm _ _).mem_iff.mp hk
    obtain ⟨p, hp, rfl⟩ := List.mem_map.mp hk
    have x := ix_enc hn hp
    have y := getI_mem hn hp
    refine ⟨[.sh (.dct false (encI l)), .sh (.int p.1)], .sh (dPair p), [.sh (.dct false (encI l)), .sh (.int p.1)], [.sh (.dct false (encI l)), .sh (.int p.1)], ?_, ?_, ?_, ?_⟩
    · simp [run0, run1, sSeq, sNx, sBk, sCt, sEx, sRet, sRetN, sIf, sSet, setC, unbw, putC, Val.cell, sPar, unbws, putCs, sFor, sUnp, sStore, stTo, stD, sRaise, M.bind, M.ret, M.lift, mVar, mC, m2, m1, hold, look, cellD, esc, escs, looks, mTru, dTru, mB, mNot, mAnd, mOr, mBv, mAndV, mOrV, mIf, mChain, mNil, mCons, mTup, mLst, mCB, mPart, mSl, mMut, mMut0, ownD, isLst, relent, mGet2, mCall0, mCall1, outV, lentD, mSeq, gN, gsNil, gsCons, gT, mR1, mR2, asInts, mAny, mKeys, mLc, mLc2, mDc, mNewD, wipeE, back, fI, fAdd, fSub, fNeg, cAll, fC, fLt, fLe, fGt, fGe, fIx, fIxS, D.isDct, atI, ixN, fLen, lenD, fList, fTuple, seqD, lstD, fInt, fAbs, fAppend, fExtend, fIsi, tys, D.ty, isTab, fEq_int, fNe_int, fSl, oneBls, oneInts, fAll, fAny, dec_true, dec_false, fDiv_ok, fMod_ok, fPow_ok, fMulI_l, fMulI_r]
    · simp [E_as_pairs_1, x, dPair, run0, run1, sSeq, sNx, sBk, sCt, sEx, sRet, sRetN, sIf, sSet, setC, unbw, putC, Val.cell, sPar, unbws, putCs, sFor, sUnp, sStore, stTo, sRaise, M.bind, M.ret, M.lift, mVar, mC, m2, m1, hold, look, cellD, esc, escs, looks, mTru, dTru, mB, mNot, mAnd, mOr, mBv, mAndV, mOrV, mIf, mChain, mNil, mCons, mTup, mLst, mCB, mPart, mSl, mMut, mMut0, ownD, isLst, relent, mGet2, mCall0, mCall1, outV, lentD, mSeq, gN, gsNil, gsCons, gT, mR1, mR2, asInts, mAny, mKeys, mLc, mLc2, mDc, mNewD, wipeE, back, fI, fAdd, fSub, fNeg, cAll, fC, fLt, fLe, fGt, fGe, D.isDct, fLen, lenD, fList, fTuple, seqD, lstD, fInt, fAbs, fAppend, fExtend, fIsi, tys, D.ty, isTab, fEq_int, fNe_int, fSl, oneBls, oneInts, fAll, fAny, dec_true, dec_false, fDiv_ok, fMod_ok, fPow_ok, fMulI_l, fMulI_r]
    · simp [y, run0, run1, sSeq, sNx, sBk, sCt, sEx, sRet, sRetN, sIf, sSet, setC, unbw, putC, Val.cell, sPar, unbws, putCs, sFor, sUnp, sStore, stTo, stD, sRaise, M.bind, M.ret, M.lift, mVar, mC, m2, m1, hold, look, cellD, esc, escs, looks, mTru, dTru, mB, mNot, mAnd, mOr, mBv, mAndV, mOrV, mIf, mChain, mNil, mCons, mTup, mLst, mCB, mPart, mSl, mMut, mMut0, ownD, isLst, relent, mGet2, mCall0, mCall1, outV, lentD, mSeq, gN, gsNil, gsCons, gT, mR1, mR2, asInts, mAny, mKeys, mLc, mLc2, mDc, mNewD, wipeE, back, fI, fAdd, fSub, fNeg, cAll, fC, fLt, fLe, fGt, fGe, fIx, fIxS, D.isDct, atI, ixN, fLen, lenD, fList, fTuple, seqD, lstD, fInt, fAbs, fAppend, fExtend, fIsi, tys, D.ty, isTab, fEq_int, fNe_int, fSl, oneBls, oneInts, fAll, fAny, dec_true, dec_false, fDiv_ok, fMod_ok, fPow_ok, fMulI_l, fMulI_r]
    · simp [run0, run1, sSeq, sNx, sBk, sCt, sEx, sRet, sRetN, sIf, sSet, setC, unbw, putC, Val.cell, sPar, unbws, putCs, sFor, sUnp, sStore, stTo, stD, sRaise, M.bind, M.ret, M.lift, mVar, mC, m2, m1, hold, look, cellD, esc, escs, looks, mTru, dTru, mB, mNot, mAnd, mOr, mBv, mAndV, mOrV, mIf, mChain, mNil, mCons, mTup, mLst, mCB, mPart, mSl, mMut, mMut0, ownD, isLst, relent, mGet2, mCall0, mCall1, outV, lentD, mSeq, gN, gsNil, gsCons, gT, mR1, mR2, asInts, mAny, mKeys, mLc, mLc2, mDc, mNewD, wipeE, back, fI, fAdd, fSub, fNeg, cAll, fC, fLt, fLe, fGt, fGe, fIx, fIxS, D.isDct, atI, ixN, fLen, lenD, fList, fTuple, seqD, lstD, fInt, fAbs, fAppend, fExtend, fIsi, tys, D.ty, isTab, fEq_int, fNe_int, fSl, oneBls, oneInts, fAll, fAny, dec_true, dec_false, fDiv_ok, fMod_ok, fPow_ok, fMulI_l, fMulI_r]
  simp [F_as_pairs, B_as_pairs, q, countsD, run0, run1, sSeq, sNx, sBk, sCt, sEx, sRet, sRetN, sIf, sSet, setC, unbw, putC, Val.cell, sPar, unbws, putCs, sFor, sUnp, sStore, stTo, stD, sRaise, M.bind, M.ret, M.lift, mVar, mC, m2, m1, hold, look, cellD, esc, escs, looks, mTru, dTru, mB, mNot, mAnd, mOr, mBv, mAndV, mOrV, mIf, mChain, mNil, mCons, mTup, mLst, mCB, mPart, mSl, mMut, mMut0, ownD, isLst, relent, mGet2, mCall0, mCall1, outV, lentD, mSeq, gN, gsNil, gsCons, gT, mR1, mR2, asInts, mAny, mKeys, mLc, mLc2, mDc, mNewD, wipeE, back, fI, fAdd, fSub, fNeg, cAll, fC, fLt, fLe, fGt, fGe, fIx, fIxS, D.isDct, atI, ixN, fLen, lenD, fList, fTuple, seqD, lstD, fInt, fAbs, fAppend, fExtend, fIsi, tys, D.ty, isTab, fEq_int, fNe_int, fSl, oneBls, oneInts, fAll, fAny, dec_true, dec_false, fDiv_ok, fMod_ok, fPow_ok, fMulI_l, fMulI_r]
theorem far_counts_ok {c : List (Int × Int)} (h : Crowd c) (h64 : (counts c).length < 64) : F_far_counts [crowdD c] = .ok (.sh (countsD (counts c))) .non := by
  have a := check_crowd_ok h
  have b := raw_far_counts_ok h.hi fun p m => (h.nr p m).w
  have d := as_pairs_ok (counts_nd c) h64
  simp [F_far_counts, B_far_counts, a, b, d, run0, run1, sSeq, sNx, sBk, sCt, sEx, sRet, sRetN, sIf, sSet, setC, unbw, putC, Val.cell, sPar, unbws, putCs, sFor, sUnp, sStore, stTo, stD, sRaise, M.bind, M.ret, M.lift, mVar, mC, m2, m1, hold, look, cellD, esc, escs, looks, mTru, dTru, mB, mNot, mAnd, mOr, mBv, mAndV, mOrV, mIf, mChain, mNil, mCons, mTup, mLst, mCB, mPart, mSl, mMut, mMut0, ownD, isLst, relent, mGet2, mCall0, mCall1, outV, lentD, mSeq, gN, gsNil, gsCons, gT, mR1, mR2, asInts, mAny, mKeys, mLc, mLc2, mDc, mNewD, wipeE, back, fI, fAdd, fSub, fNeg, cAll, fC, fLt, fLe, fGt, fGe, fIx, fIxS, D.isDct, atI, ixN, fLen, lenD, fList, fTuple, seqD, lstD, fInt, fAbs, fAppend, fExtend, fIsi, tys, D.ty, isTab, fEq_int, fNe_int, fSl, oneBls, oneInts, fAll, fAny, dec_true, dec_false, fDiv_ok, fMod_ok, fPow_ok, fMulI_l, fMulI_r]
theorem unlike_ok {c : List (Int × Int)} (h : Crowd c) : F_unlike_far_many [crowdD c] = .ok (.sh (.int (counts c).length)) .non := by
  have a := check_crowd_ok h
  have b := raw_far_counts_ok h.hi fun p m => (h.nr p m).w
  simp [F_unlike_far_many, B_unlike_far_many, a, b, encI, run0, run1, sSeq, sNx, sBk, sCt, sEx, sRet, sRetN, sIf, sSet, setC, unbw, putC, Val.cell, sPar, unbws, putCs, sFor, sUnp, sStore, stTo, stD, sRaise, M.bind, M.ret, M.lift, mVar, mC, m2, m1, hold, look, cellD, esc, escs, looks, mTru, dTru, mB, mNot, mAnd, mOr, mBv, mAndV, mOrV, mIf, mChain, mNil, mCons, mTup, mLst, mCB, mPart, mSl, mMut, mMut0, ownD, isLst, relent, mGet2, mCall0, mCall1, outV, lentD, mSeq, gN, gsNil, gsCons, gT, mR1, mR2, asInts, mAny, mKeys, mLc, mLc2, mDc, mNewD, wipeE, back, fI, fAdd, fSub, fNeg, cAll, fC, fLt, fLe, fGt, fGe, fIx, fIxS, D.isDct, atI, ixN, fLen, lenD, fList, fTuple, seqD, lstD, fInt, fAbs, fAppend, fExtend, fIsi, tys, D.ty, isTab, fEq_int, fNe_int, fSl, oneBls, oneInts, fAll, fAny, dec_true, dec_false, fDiv_ok, fMod_ok, fPow_ok, fMulI_l, fMulI_r]
end Lw

namespace Lw
open PySem PySem.Spec PyProof.Rows L2 VS
theorem putI_pos (l : List (Int × Int)) (k v : Int) : l.length ≤ (putI l k v).length ∧ 0 < (putI l k v).length := by
  unfold putI
  split
  · rename_i h
    rw [List.length_map]
    obtain ⟨p, hp, _⟩ := List.any_eq_true.mp h
    exact ⟨Nat.le_refl _, List.length_pos_of_mem hp⟩
  · rw [List.length_append]; simp
theorem counts_ne {c : List (Int × Int)} (h : 3 ≤ c.length) (hi : c.length ≤ 12) : counts c ≠ [] := by
  have grow : ∀ (ks : List Int) (l : List (Int × Int)), l.length ≤ (ks.foldl bump l).length := by
    intro ks
    induction ks with
    | nil => intro l; exact Nat.le_refl _
    | cons k ks ih => intro l; exact Nat.le_trans (putI_pos l k _).1 (ih _)
  have ne : farsOf c ≠ [] := by
    unfold farsOf
    intro z
    have z := List.map_eq_nil_iff.mp z
    have : ∀ n ≤ 12, 3 ≤ n → lots n 2 ≠ [] := by decide +kernel
    exact this _ hi h z
  unfold counts
  cases q : farsOf c with
  | nil => exact absurd q ne
  | cons k ks =>
    intro z
    have a := grow ks (bump [] k)
    have b := (putI_pos [] k ((getI [] k).getD 0 + 1)).2
    rw [List.foldl_cons] at z
    rw [z] at a
    unfold bump at a
    simp at a
    rw [a] at b
    simp at b
/-- the greatest count, the least of these -/
def most (l : List (Int × Int)) (m k : Int) : Prop := maxI (l.map (·.2)) = some m ∧ minI ((l.filter fun p => p.2 == m).map (·.1)) = some k
theorem most_some {l : List (Int × Int)} (h : l ≠ []) : ∃ m k, most l m k := by
  obtain ⟨m, hm⟩ := maxI_some (ns := l.map (·.2)) (by simpa using h)
  obtain ⟨_, a, _⟩ := maxI_ok hm
  obtain ⟨p, hp, e⟩ := List.mem_map.mp a
  obtain ⟨k, hk⟩ := minI_some (ns := (l.filter fun p => p.2 == m).map (·.1)) (by
    intro z
    have z := List.map_eq_nil_iff.mp z
    have : p ∈ l.filter fun p => p.2 == m := List.mem_filter.mpr ⟨hp, by simp [e]⟩
    rw [z] at this
    cases this)
  exact ⟨m, k, hm, hk⟩
theorem most_perm {a b : List (Int × Int)} (h : a.Perm b) {m k : Int} (hm : most a m k) : most b m k := by
  obtain ⟨h1, h2⟩ := hm
  exact ⟨by rw [← maxI_perm (h.map _)]; exact h1, by rw [← minI_perm ((h.filter _).map _)]; exact h2⟩
theorem most_often_ok {c : List (Int × Int)} (h : Crowd c) {m k : Int} (hm : most (counts c) m k) : F_most_often [crowdD c] = .ok (.sh (.tup [.int m, .int k])) .non := by
  have a := check_crowd_ok h
  have b := raw_far_counts_ok h.hi fun p m => (h.nr p m).w
  have hn := counts_nd c
  have hl := counts_len h.hi
  generalize counts c = l at *
  have q1 : C_most_often_1 [.sh (crowdD c), .ow (.dct false (encI l)), .un, .un] = .ok (.ow (.lst (l.map fun p => .int p.2))) [.sh (crowdD c), .sh (.dct false (encI l)), .un, .un] := by
    have ei : (l.map fun p => D.int p.2) = (l.map fun p => D.int p.1).map fun d => match d with
        | .int k => .int ((getI l k).getD 0)
        | d => d := by
      rw [List.map_map]
      refine List.map_congr_left fun p hp => ?_
      show _ = D.int ((getI l p.1).getD 0)
      rw [getI_mem hn hp]; rfl
    rw [ei]
    refine mLc_map _ (e0 := [.sh (crowdD c), .sh (.dct false (encI l)), .un, .un]) (ew := [.sh (crowdD c), .sh (.dct false (encI l)), .un, .un]) (by simp [encI, run0, run1, sSeq, sNx, sBk, sCt, sEx, sRet, sRetN, sIf, sSet, setC, unbw, putC, Val.cell, sPar, unbws, putCs, sFor, sUnp, sStore, stTo, stD, sRaise, M.bind, M.ret, M.lift, mVar, mC, m2, m1, hold, look, cellD, esc, escs, looks, mTru, dTru, mB, mNot, mAnd, mOr, mBv, mAndV, mOrV, mIf, mChain, mNil, mCons, mTup, mLst, mCB, mPart, mSl, mMut, mMut0, ownD, isLst, relent, mGet2, mCall0, mCall1, outV, lentD, mSeq, gN, gsNil, gsCons, gT, mR1, mR2, asInts, mAny, mKeys, mLc, mLc2, mDc, mNewD, wipeE, back, fI, fAdd, fSub, fNeg, cAll, fC, fLt, fLe, fGt, fGe, fIx, fIxS, D.isDct, atI, ixN, fLen, lenD, fList, fTuple, seqD, lstD, fInt, fAbs, fAppend, fExtend, fIsi, tys, D.ty, isTab, fEq_int, fNe_int, fSl, oneBls, oneInts, fAll, fAny, dec_true, dec_false, fDiv_ok, fMod_ok, fPow_ok, fMulI_l, fMulI_r]) (by simp [run0, run1, sSeq, sNx, sBk, sCt, sEx, sRet, sRetN, sIf, sSet, setC, unbw, putC, Val.cell, sPar, unbws, putCs, sFor, sUnp, sStore, stTo, stD, sRaise, M.bind, M.ret, M.lift, mVar, mC, m2, m1, hold, look, cellD, esc, escs, looks, mTru, dTru, mB, mNot, mAnd, mOr, mBv, mAndV, mOrV, mIf, mChain, mNil, mCons, mTup, mLst, mCB, mPart, mSl, mMut, mMut0, ownD, isLst, relent, mGet2, mCall0, mCall1, outV, lentD, mSeq, gN, gsNil, gsCons, gT, mR1, mR2, asInts, mAny, mKeys, mLc, mLc2, mDc, mNewD, wipeE, back, fI, fAdd, fSub, fNeg, cAll, fC, fLt, fLe, fGt, fGe, fIx, fIxS, D.isDct, atI, ixN, fLen, lenD, fList, fTuple, seqD, lstD, fInt, fAbs, fAppend, fExtend, fIsi, tys, D.ty, isTab, fEq_int, fNe_int, fSl, oneBls, oneInts, fAll, fAny, dec_true, dec_false, fDiv_ok, fMod_ok, fPow_ok, fMulI_l, fMulI_r]) (by simp [run0, run1, sSeq, sNx, sBk, sCt, sEx, sRet, sRetN, sIf, sSet, setC, unbw, putC, Val.cell, sPar, unbws, putCs, sFor, sUnp, sStore, stTo, stD, sRaise, M.bind, M.ret, M.lift, mVar, mC, m2, m1, hold, look, cellD, esc, escs, looks, mTru, dTru, mB, mNot, mAnd, mOr, mBv, mAndV, mOrV, mIf, mChain, mNil, mCons, mTup, mLst, mCB, mPart, mSl, mMut, mMut0, ownD, isLst, relent, mGet2, mCall0, mCall1, outV, lentD, mSeq, gN, gsNil, gsCons, gT, mR1, mR2, asInts, mAny, mKeys, mLc, mLc2, mDc, mNewD, wipeE, back, fI, fAdd, fSub, fNeg, cAll, fC, fLt, fLe, fGt, fGe, fIx, fIxS, D.isDct, atI, ixN, fLen, lenD, fList, fTuple, seqD, lstD, fInt, fAbs, fAppend, fExtend, fIsi, tys, D.ty, isTab, fEq_int, fNe_int, fSl, oneBls, oneInts, fAll, fAny, dec_true, dec_false, fDiv_ok, fMod_ok, fPow_ok, fMulI_l, fMulI_r]) (fun d hd => ?_) (by simp; omega)
    obtain ⟨p, hp, rfl⟩ := List.mem_map.mp hd
    have x := ix_enc hn hp
    have y := getI_mem hn hp
    refine ⟨[.sh (crowdD c), .sh (.dct false (encI l)), .un, .sh (.int p.1)], .sh (.int p.2), [.sh (crowdD c), .sh (.dct false (encI l)), .un, .sh (.int p.1)], [.sh (crowdD c), .sh (.dct false (encI l)), .un, .sh (.int p.1)], ?_, ?_, ?_, ?_⟩
    · simp [run0, run1, sSeq, sNx, sBk, sCt, sEx, sRet, sRetN, sIf, sSet, setC, unbw, putC, Val.cell, sPar, unbws, putCs, sFor, sUnp, sStore, stTo, stD, sRaise, M.bind, M.ret, M.lift, mVar, mC, m2, m1, hold, look, cellD, esc, escs, looks, mTru, dTru, mB, mNot, mAnd, mOr, mBv, mAndV, mOrV, mIf, mChain, mNil, mCons, mTup, mLst, mCB, mPart, mSl, mMut, mMut0, ownD, isLst, relent, mGet2, mCall0, mCall1, outV, lentD, mSeq, gN, gsNil, gsCons, gT, mR1, mR2, asInts, mAny, mKeys, mLc, mLc2, mDc, mNewD, wipeE, back, fI, fAdd, fSub, fNeg, cAll, fC, fLt, fLe, fGt, fGe, fIx, fIxS, D.isDct, atI, ixN, fLen, lenD, fList, fTuple, seqD, lstD, fInt, fAbs, fAppend, fExtend, fIsi, tys, D.ty, isTab, fEq_int, fNe_int, fSl, oneBls, oneInts, fAll, fAny, dec_true, dec_false, fDiv_ok, fMod_ok, fPow_ok, fMulI_l, fMulI_r]
    · simp [E_most_often_1, x, run0, run1, sSeq, sNx, sBk, sCt, sEx, sRet, sRetN, sIf, sSet, setC, unbw, putC, Val.cell, sPar, unbws, putCs, sFor, sUnp, sStore, stTo, sRaise, M.bind, M.ret, M.lift, mVar, mC, m2, m1, hold, look, cellD, esc, escs, looks, mTru, dTru, mB, mNot, mAnd, mOr, mBv, mAndV, mOrV, mIf, mChain, mNil, mCons, mTup, mLst, mCB, mPart, mSl, mMut, mMut0, ownD, isLst, relent, mGet2, mCall0, mCall1, outV, lentD, mSeq, gN, gsNil, gsCons, gT, mR1, mR2, asInts, mAny, mKeys, mLc, mLc2, mDc, mNewD, wipeE, back, fI, fAdd, fSub, fNeg, cAll, fC, fLt, fLe, fGt, fGe, D.isDct, fLen, lenD, fList, fTuple, seqD, lstD, fInt, fAbs, fAppend, fExtend, fIsi, tys, D.ty, isTab, fEq_int, fNe_int, fSl, oneBls, oneInts, fAll, fAny, dec_true, dec_false, fDiv_ok, fMod_ok, fPow_ok, fMulI_l, fMulI_r]
    · simp [y, run0, run1, sSeq, sNx, sBk, sCt, sEx, sRet, sRetN, sIf, sSet, setC, unbw, putC, Val.cell, sPar, unbws, putCs, sFor, sUnp, sStore, stTo, stD, sRaise, M.bind, M.ret, M.lift, mVar, mC, m2, m1, hold, look, cellD, esc, escs, looks, mTru, dTru, mB, mNot, mAnd, mOr, mBv, mAndV, mOrV, mIf, mChain, mNil, mCons, mTup, mLst, mCB, mPart, mSl, mMut, mMut0, ownD, isLst, relent, mGet2, mCall0, mCall1, outV, lentD, mSeq, gN, gsNil, gsCons, gT, mR1, mR2, asInts, mAny, mKeys, mLc, mLc2, mDc, mNewD, wipeE, back, fI, fAdd, fSub, fNeg, cAll, fC, fLt, fLe, fGt, fGe, fIx, fIxS, D.isDct, atI, ixN, fLen, lenD, fList, fTuple, seqD, lstD, fInt, fAbs, fAppend, fExtend, fIsi, tys, D.ty, isTab, fEq_int, fNe_int, fSl, oneBls, oneInts, fAll, fAny, dec_true, dec_false, fDiv_ok, fMod_ok, fPow_ok, fMulI_l, fMulI_r]
    · simp [run0, run1, sSeq, sNx, sBk, sCt, sEx, sRet, sRetN, sIf, sSet, setC, unbw, putC, Val.cell, sPar, unbws, putCs, sFor, sUnp, sStore, stTo, stD, sRaise, M.bind, M.ret, M.lift, mVar, mC, m2, m1, hold, look, cellD, esc, escs, looks, mTru, dTru, mB, mNot, mAnd, mOr, mBv, mAndV, mOrV, mIf, mChain, mNil, mCons, mTup, mLst, mCB, mPart, mSl, mMut, mMut0, ownD, isLst, relent, mGet2, mCall0, mCall1, outV, lentD, mSeq, gN, gsNil, gsCons, gT, mR1, mR2, asInts, mAny, mKeys, mLc, mLc2, mDc, mNewD, wipeE, back, fI, fAdd, fSub, fNeg, cAll, fC, fLt, fLe, fGt, fGe, fIx, fIxS, D.isDct, atI, ixN, fLen, lenD, fList, fTuple, seqD, lstD, fInt, fAbs, fAppend, fExtend, fIsi, tys, D.ty, isTab, fEq_int, fNe_int, fSl, oneBls, oneInts, fAll, fAny, dec_true, dec_false, fDiv_ok, fMod_ok, fPow_ok, fMulI_l, fMulI_r]
  have q2 : C_most_often_2 [.sh (crowdD c), .sh (.dct false (encI l)), .sh (.int m), .un] = .ok (.ow (.lst ((l.filter fun p => p.2 == m).map fun p => .int p.1))) [.sh (crowdD c), .sh (.dct false (encI l)), .sh (.int m), .un] := by
    have ei : ((l.filter fun p => p.2 == m).map fun p => D.int p.1) = ((l.map fun p => D.int p.1).filter fun d => match d with
        | .int k => (getI l k).getD 0 == m
        | _ => false).map fun d => d := by
      rw [List.map_id', List.filter_map]
      congr 1
      refine List.filter_congr fun p hp => ?_
      show _ = ((getI l p.1).getD 0 == m)
      rw [getI_mem hn hp]; rfl
    rw [ei]
    refine mLc_fil _ _ (e0 := [.sh (crowdD c), .sh (.dct false (encI l)), .sh (.int m), .un]) (ew := [.sh (crowdD c), .sh (.dct false (encI l)), .sh (.int m), .un]) (by simp [encI, run0, run1, sSeq, sNx, sBk, sCt, sEx, sRet, sRetN, sIf, sSet, setC, unbw, putC, Val.cell, sPar, unbws, putCs, sFor, sUnp, sStore, stTo, stD, sRaise, M.bind, M.ret, M.lift, mVar, mC, m2, m1, hold, look, cellD, esc, escs, looks, mTru, dTru, mB, mNot, mAnd, mOr, mBv, mAndV, mOrV, mIf, mChain, mNil, mCons, mTup, mLst, mCB, mPart, mSl, mMut, mMut0, ownD, isLst, relent, mGet2, mCall0, mCall1, outV, lentD, mSeq, gN, gsNil, gsCons, gT, mR1, mR2, asInts, mAny, mKeys, mLc, mLc2, mDc, mNewD, wipeE, back, fI, fAdd, fSub, fNeg, cAll, fC, fLt, fLe, fGt, fGe, fIx, fIxS, D.isDct, atI, ixN, fLen, lenD, fList, fTuple, seqD, lstD, fInt, fAbs, fAppend, fExtend, fIsi, tys, D.ty, isTab, fEq_int, fNe_int, fSl, oneBls, oneInts, fAll, fAny, dec_true, dec_false, fDiv_ok, fMod_ok, fPow_ok, fMulI_l, fMulI_r]) (by simp [run0, run1, sSeq, sNx, sBk, sCt, sEx, sRet, sRetN, sIf, sSet, setC, unbw, putC, Val.cell, sPar, unbws, putCs, sFor, sUnp, sStore, stTo, stD, sRaise, M.bind, M.ret, M.lift, mVar, mC, m2, m1, hold, look, cellD, esc, escs, looks, mTru, dTru, mB, mNot, mAnd, mOr, mBv, mAndV, mOrV, mIf, mChain, mNil, mCons, mTup, mLst, mCB, mPart, mSl, mMut, mMut0, ownD, isLst, relent, mGet2, mCall0, mCall1, outV, lentD, mSeq, gN, gsNil, gsCons, gT, mR1, mR2, asInts, mAny, mKeys, mLc, mLc2, mDc, mNewD, wipeE, back, fI, fAdd, fSub, fNeg, cAll, fC, fLt, fLe, fGt, fGe, fIx, fIxS, D.isDct, atI, ixN, fLen, lenD, fList, fTuple, seqD, lstD, fInt, fAbs, fAppend, fExtend, fIsi, tys, D.ty, isTab, fEq_int, fNe_int, fSl, oneBls, oneInts, fAll, fAny, dec_true, dec_false, fDiv_ok, fMod_ok, fPow_ok, fMulI_l, fMulI_r]) (by simp [run0, run1, sSeq, sNx, sBk, sCt, sEx, sRet, sRetN, sIf, sSet, setC, unbw, putC, Val.cell, sPar, unbws, putCs, sFor, sUnp, sStore, stTo, stD, sRaise, M.bind, M.ret, M.lift, mVar, mC, m2, m1, hold, look, cellD, esc, escs, looks, mTru, dTru, mB, mNot, mAnd, mOr, mBv, mAndV, mOrV, mIf, mChain, mNil, mCons, mTup, mLst, mCB, mPart, mSl, mMut, mMut0, ownD, isLst, relent, mGet2, mCall0, mCall1, outV, lentD, mSeq, gN, gsNil, gsCons, gT, mR1, mR2, asInts, mAny, mKeys, mLc, mLc2, mDc, mNewD, wipeE, back, fI, fAdd, fSub, fNeg, cAll, fC, fLt, fLe, fGt, fGe, fIx, fIxS, D.isDct, atI, ixN, fLen, lenD, fList, fTuple, seqD, lstD, fInt, fAbs, fAppend, fExtend, fIsi, tys, D.ty, isTab, fEq_int, fNe_int, fSl, oneBls, oneInts, fAll, fAny, dec_true, dec_false, fDiv_ok, fMod_ok, fPow_ok, fMulI_l, fMulI_r]) (fun d hd => ?_) (by simp; omega)
    obtain ⟨p, hp, rfl⟩ := List.mem_map.mp hd
    have x := ix_enc hn hp
    have y := getI_mem hn hp
    refine ⟨[.sh (crowdD c), .sh (.dct false (encI l)), .sh (.int m), .sh (.int p.1)], [.sh (crowdD c), .sh (.dct false (encI l)), .sh (.int m), .sh (.int p.1)], ?_, ?_, ?_, fun _ => ⟨.sh (.int p.1), [.sh (crowdD c), .sh (.dct false (encI l)), .sh (.int m), .sh (.int p.1)], [.sh (crowdD c), .sh (.dct false (encI l)), .sh (.int m), .sh (.int p.1)], ?_, ?_, ?_⟩⟩
    · simp [run0, run1, sSeq, sNx, sBk, sCt, sEx, sRet, sRetN, sIf, sSet, setC, unbw, putC, Val.cell, sPar, unbws, putCs, sFor, sUnp, sStore, stTo, stD, sRaise, M.bind, M.ret, M.lift, mVar, mC, m2, m1, hold, look, cellD, esc, escs, looks, mTru, dTru, mB, mNot, mAnd, mOr, mBv, mAndV, mOrV, mIf, mChain, mNil, mCons, mTup, mLst, mCB, mPart, mSl, mMut, mMut0, ownD, isLst, relent, mGet2, mCall0, mCall1, outV, lentD, mSeq, gN, gsNil, gsCons, gT, mR1, mR2, asInts, mAny, mKeys, mLc, mLc2, mDc, mNewD, wipeE, back, fI, fAdd, fSub, fNeg, cAll, fC, fLt, fLe, fGt, fGe, fIx, fIxS, D.isDct, atI, ixN, fLen, lenD, fList, fTuple, seqD, lstD, fInt, fAbs, fAppend, fExtend, fIsi, tys, D.ty, isTab, fEq_int, fNe_int, fSl, oneBls, oneInts, fAll, fAny, dec_true, dec_false, fDiv_ok, fMod_ok, fPow_ok, fMulI_l, fMulI_r]
    · simp [T_most_often_1, x, y, run0, run1, sSeq, sNx, sBk, sCt, sEx, sRet, sRetN, sIf, sSet, setC, unbw, putC, Val.cell, sPar, unbws, putCs, sFor, sUnp, sStore, stTo, sRaise, M.bind, M.ret, M.lift, mVar, mC, m2, m1, hold, look, cellD, esc, escs, looks, mTru, dTru, mB, mNot, mAnd, mOr, mBv, mAndV, mOrV, mIf, mChain, mNil, mCons, mTup, mLst, mCB, mPart, mSl, mMut, mMut0, ownD, isLst, relent, mGet2, mCall0, mCall1, outV, lentD, mSeq, gN, gsNil, gsCons, gT, mR1, mR2, asInts, mAny, mKeys, mLc, mLc2, mDc, mNewD, wipeE, back, fI, fAdd, fSub, fNeg, cAll, fC, fLt, fLe, fGt, fGe, D.isDct, fLen, lenD, fList, fTuple, seqD, lstD, fInt, fAbs, fAppend, fExtend, fIsi, tys, D.ty, isTab, fEq_int, fNe_int, fSl, oneBls, oneInts, fAll, fAny, dec_true, dec_false, fDiv_ok, fMod_ok, fPow_ok, fMulI_l, fMulI_r]
    · simp [run0, run1, sSeq, sNx, sBk, sCt, sEx, sRet, sRetN, sIf, sSet, setC, unbw, putC, Val.cell, sPar, unbws, putCs, sFor, sUnp, sStore, stTo, stD, sRaise, M.bind, M.ret, M.lift, mVar, mC, m2, m1, hold, look, cellD, esc, escs, looks, mTru, dTru, mB, mNot, mAnd, mOr, mBv, mAndV, mOrV, mIf, mChain, mNil, mCons, mTup, mLst, mCB, mPart, mSl, mMut, mMut0, ownD, isLst, relent, mGet2, mCall0, mCall1, outV, lentD, mSeq, gN, gsNil, gsCons, gT, mR1, mR2, asInts, mAny, mKeys, mLc, mLc2, mDc, mNewD, wipeE, back, fI, fAdd, fSub, fNeg, cAll, fC, fLt, fLe, fGt, fGe, fIx, fIxS, D.isDct, atI, ixN, fLen, lenD, fList, fTuple, seqD, lstD, fInt, fAbs, fAppend, fExtend, fIsi, tys, D.ty, isTab, fEq_int, fNe_int, fSl, oneBls, oneInts, fAll, fAny, dec_true, dec_false, fDiv_ok, fMod_ok, fPow_ok, fMulI_l, fMulI_r]
    · simp [E_most_often_2, run0, run1, sSeq, sNx, sBk, sCt, sEx, sRet, sRetN, sIf, sSet, setC, unbw, putC, Val.cell, sPar, unbws, putCs, sFor, sUnp, sStore, stTo, stD, sRaise, M.bind, M.ret, M.lift, mVar, mC, m2, m1, hold, look, cellD, esc, escs, looks, mTru, dTru, mB, mNot, mAnd, mOr, mBv, mAndV, mOrV, mIf, mChain, mNil, mCons, mTup, mLst, mCB, mPart, mSl, mMut, mMut0, ownD, isLst, relent, mGet2, mCall0, mCall1, outV, lentD, mSeq, gN, gsNil, gsCons, gT, mR1, mR2, asInts, mAny, mKeys, mLc, mLc2, mDc, mNewD, wipeE, back, fI, fAdd, fSub, fNeg, cAll, fC, fLt, fLe, fGt, fGe, fIx, fIxS, D.isDct, atI, ixN, fLen, lenD, fList, fTuple, seqD, lstD, fInt, fAbs, fAppend, fExtend, fIsi, tys, D.ty, isTab, fEq_int, fNe_int, fSl, oneBls, oneInts, fAll, fAny, dec_true, dec_false, fDiv_ok, fMod_ok, fPow_ok, fMulI_l, fMulI_r]
    · simp [run0, run1, sSeq, sNx, sBk, sCt, sEx, sRet, sRetN, sIf, sSet, setC, unbw, putC, Val.cell, sPar, unbws, putCs, sFor, sUnp, sStore, stTo, stD, sRaise, M.bind, M.ret, M.lift, mVar, mC, m2, m1, hold, look, cellD, esc, escs, looks, mTru, dTru, mB, mNot, mAnd, mOr, mBv, mAndV, mOrV, mIf, mChain, mNil, mCons, mTup, mLst, mCB, mPart, mSl, mMut, mMut0, ownD, isLst, relent, mGet2, mCall0, mCall1, outV, lentD, mSeq, gN, gsNil, gsCons, gT, mR1, mR2, asInts, mAny, mKeys, mLc, mLc2, mDc, mNewD, wipeE, back, fI, fAdd, fSub, fNeg, cAll, fC, fLt, fLe, fGt, fGe, fIx, fIxS, D.isDct, atI, ixN, fLen, lenD, fList, fTuple, seqD, lstD, fInt, fAbs, fAppend, fExtend, fIsi, tys, D.ty, isTab, fEq_int, fNe_int, fSl, oneBls, oneInts, fAll, fAny, dec_true, dec_false, fDiv_ok, fMod_ok, fPow_ok, fMulI_l, fMulI_r]
    · simp [run0, run1, sSeq, sNx, sBk, sCt, sEx, sRet, sRetN, sIf, sSet, setC, unbw, putC, Val.cell, sPar, unbws, putCs, sFor, sUnp, sStore, stTo, stD, sRaise, M.bind, M.ret, M.lift, mVar, mC, m2, m1, hold, look, cellD, esc, escs, looks, mTru, dTru, mB, mNot, mAnd, mOr, mBv, mAndV, mOrV, mIf, mChain, mNil, mCons, mTup, mLst, mCB, mPart, mSl, mMut, mMut0, ownD, isLst, relent, mGet2, mCall0, mCall1, outV, lentD, mSeq, gN, gsNil, gsCons, gT, mR1, mR2, asInts, mAny, mKeys, mLc, mLc2, mDc, mNewD, wipeE, back, fI, fAdd, fSub, fNeg, cAll, fC, fLt, fLe, fGt, fGe, fIx, fIxS, D.isDct, atI, ixN, fLen, lenD, fList, fTuple, seqD, lstD, fInt, fAbs, fAppend, fExtend, fIsi, tys, D.ty, isTab, fEq_int, fNe_int, fSl, oneBls, oneInts, fAll, fAny, dec_true, dec_false, fDiv_ok, fMod_ok, fPow_ok, fMulI_l, fMulI_r]
  have m1 := fMax1_ok hm.1
  have m3 := fMin1_ok hm.2
  simp [F_most_often, B_most_often, a, b, q1, q2, m1, m3, run0, run1, sSeq, sNx, sBk, sCt, sEx, sRet, sRetN, sIf, sSet, setC, unbw, putC, Val.cell, sPar, unbws, putCs, sFor, sUnp, sStore, stTo, stD, sRaise, M.bind, M.ret, M.lift, mVar, mC, m2, m1, hold, look, cellD, esc, escs, looks, mTru, dTru, mB, mNot, mAnd, mOr, mBv, mAndV, mOrV, mIf, mChain, mNil, mCons, mTup, mLst, mCB, mPart, mSl, mMut, mMut0, ownD, isLst, relent, mGet2, mCall0, mCall1, outV, lentD, mSeq, gN, gsNil, gsCons, gT, mR1, mR2, asInts, mAny, mKeys, mLc, mLc2, mDc, mNewD, wipeE, back, fI, fAdd, fSub, fNeg, cAll, fC, fLt, fLe, fGt, fGe, fIx, fIxS, D.isDct, atI, ixN, fLen, lenD, fList, fTuple, seqD, lstD, fInt, fAbs, fAppend, fExtend, fIsi, tys, D.ty, isTab, fEq_int, fNe_int, fSl, oneBls, oneInts, fAll, fAny, dec_true, dec_false, fDiv_ok, fMod_ok, fPow_ok, fMulI_l, fMulI_r]
end Lw

namespace Lw
open PySem PySem.Spec PyProof.Rows L2 VS
theorem near_abs {i : Int} (h : -10000 ≤ i ∧ i ≤ 10000) : (if i < 0 then -i else i) ≤ 10000 := by split <;> omega
theorem near_enough_ok {c : List (Int × Int)} (hl : c.length ≤ 1000) (h : ∀ p ∈ c, near p) : F_near_enough [crowdD c] = .ok (.sh (crowdD c)) .non := by
  have fl : ∀ xs : List D, (xs.flatMap fun _ => [D.bl true, D.bl true]).length = 2 * xs.length := by
    intro xs
    induction xs with
    | nil => rfl
    | cons x xs ih => rw [List.flatMap_cons, List.length_append, ih, List.length_cons]; simp; omega
  have q : C_near_enough_1 [.sh (crowdD c), .un, .un] = .ok (.ow (.lst ((c.map dotD).flatMap fun _ => [.bl true, .bl true]))) [.sh (crowdD c), .un, .un] := by
    refine mLc2_map (fun _ => [.bl true, .bl true]) (e0 := [.sh (crowdD c), .un, .un]) (ew := [.sh (crowdD c), .un, .un]) (by simp [crowdD, run0, run1, sSeq, sNx, sBk, sCt, sEx, sRet, sRetN, sIf, sSet, setC, unbw, putC, Val.cell, sPar, unbws, putCs, sFor, sUnp, sStore, stTo, stD, sRaise, M.bind, M.ret, M.lift, mVar, mC, m2, m1, hold, look, cellD, esc, escs, looks, mTru, dTru, mB, mNot, mAnd, mOr, mBv, mAndV, mOrV, mIf, mChain, mNil, mCons, mTup, mLst, mCB, mPart, mSl, mMut, mMut0, ownD, isLst, relent, mGet2, mCall0, mCall1, outV, lentD, mSeq, gN, gsNil, gsCons, gT, mR1, mR2, asInts, mAny, mKeys, mLc, mLc2, mDc, mNewD, wipeE, back, fI, fAdd, fSub, fNeg, cAll, fC, fLt, fLe, fGt, fGe, fIx, fIxS, D.isDct, atI, ixN, fLen, lenD, fList, fTuple, seqD, lstD, fInt, fAbs, fAppend, fExtend, fIsi, tys, D.ty, isTab, fEq_int, fNe_int, fSl, oneBls, oneInts, fAll, fAny, dec_true, dec_false, fDiv_ok, fMod_ok, fPow_ok, fMulI_l, fMulI_r]) (by simp [run0, run1, sSeq, sNx, sBk, sCt, sEx, sRet, sRetN, sIf, sSet, setC, unbw, putC, Val.cell, sPar, unbws, putCs, sFor, sUnp, sStore, stTo, stD, sRaise, M.bind, M.ret, M.lift, mVar, mC, m2, m1, hold, look, cellD, esc, escs, looks, mTru, dTru, mB, mNot, mAnd, mOr, mBv, mAndV, mOrV, mIf, mChain, mNil, mCons, mTup, mLst, mCB, mPart, mSl, mMut, mMut0, ownD, isLst, relent, mGet2, mCall0, mCall1, outV, lentD, mSeq, gN, gsNil, gsCons, gT, mR1, mR2, asInts, mAny, mKeys, mLc, mLc2, mDc, mNewD, wipeE, back, fI, fAdd, fSub, fNeg, cAll, fC, fLt, fLe, fGt, fGe, fIx, fIxS, D.isDct, atI, ixN, fLen, lenD, fList, fTuple, seqD, lstD, fInt, fAbs, fAppend, fExtend, fIsi, tys, D.ty, isTab, fEq_int, fNe_int, fSl, oneBls, oneInts, fAll, fAny, dec_true, dec_false, fDiv_ok, fMod_ok, fPow_ok, fMulI_l, fMulI_r]) (by simp [run0, run1, sSeq, sNx, sBk, sCt, sEx, sRet, sRetN, sIf, sSet, setC, unbw, putC, Val.cell, sPar, unbws, putCs, sFor, sUnp, sStore, stTo, stD, sRaise, M.bind, M.ret, M.lift, mVar, mC, m2, m1, hold, look, cellD, esc, escs, looks, mTru, dTru, mB, mNot, mAnd, mOr, mBv, mAndV, mOrV, mIf, mChain, mNil, mCons, mTup, mLst, mCB, mPart, mSl, mMut, mMut0, ownD, isLst, relent, mGet2, mCall0, mCall1, outV, lentD, mSeq, gN, gsNil, gsCons, gT, mR1, mR2, asInts, mAny, mKeys, mLc, mLc2, mDc, mNewD, wipeE, back, fI, fAdd, fSub, fNeg, cAll, fC, fLt, fLe, fGt, fGe, fIx, fIxS, D.isDct, atI, ixN, fLen, lenD, fList, fTuple, seqD, lstD, fInt, fAbs, fAppend, fExtend, fIsi, tys, D.ty, isTab, fEq_int, fNe_int, fSl, oneBls, oneInts, fAll, fAny, dec_true, dec_false, fDiv_ok, fMod_ok, fPow_ok, fMulI_l, fMulI_r]) (fun d hd => ?_) (by rw [fl, List.length_map]; omega)
    obtain ⟨p, hp, rfl⟩ := List.mem_map.mp hd
    have hn := h p hp
    refine ⟨[.sh (crowdD c), .sh (dotD p), .un], [.int p.1, .int p.2], [.sh (crowdD c), .sh (dotD p), .un], [.sh (crowdD c), .sh (dotD p), .un], by simp [run0, run1, sSeq, sNx, sBk, sCt, sEx, sRet, sRetN, sIf, sSet, setC, unbw, putC, Val.cell, sPar, unbws, putCs, sFor, sUnp, sStore, stTo, stD, sRaise, M.bind, M.ret, M.lift, mVar, mC, m2, m1, hold, look, cellD, esc, escs, looks, mTru, dTru, mB, mNot, mAnd, mOr, mBv, mAndV, mOrV, mIf, mChain, mNil, mCons, mTup, mLst, mCB, mPart, mSl, mMut, mMut0, ownD, isLst, relent, mGet2, mCall0, mCall1, outV, lentD, mSeq, gN, gsNil, gsCons, gT, mR1, mR2, asInts, mAny, mKeys, mLc, mLc2, mDc, mNewD, wipeE, back, fI, fAdd, fSub, fNeg, cAll, fC, fLt, fLe, fGt, fGe, fIx, fIxS, D.isDct, atI, ixN, fLen, lenD, fList, fTuple, seqD, lstD, fInt, fAbs, fAppend, fExtend, fIsi, tys, D.ty, isTab, fEq_int, fNe_int, fSl, oneBls, oneInts, fAll, fAny, dec_true, dec_false, fDiv_ok, fMod_ok, fPow_ok, fMulI_l, fMulI_r], by simp [J_near_enough_1, dotD, run0, run1, sSeq, sNx, sBk, sCt, sEx, sRet, sRetN, sIf, sSet, setC, unbw, putC, Val.cell, sPar, unbws, putCs, sFor, sUnp, sStore, stTo, stD, sRaise, M.bind, M.ret, M.lift, mVar, mC, m2, m1, hold, look, cellD, esc, escs, looks, mTru, dTru, mB, mNot, mAnd, mOr, mBv, mAndV, mOrV, mIf, mChain, mNil, mCons, mTup, mLst, mCB, mPart, mSl, mMut, mMut0, ownD, isLst, relent, mGet2, mCall0, mCall1, outV, lentD, mSeq, gN, gsNil, gsCons, gT, mR1, mR2, asInts, mAny, mKeys, mLc, mLc2, mDc, mNewD, wipeE, back, fI, fAdd, fSub, fNeg, cAll, fC, fLt, fLe, fGt, fGe, fIx, fIxS, D.isDct, atI, ixN, fLen, lenD, fList, fTuple, seqD, lstD, fInt, fAbs, fAppend, fExtend, fIsi, tys, D.ty, isTab, fEq_int, fNe_int, fSl, oneBls, oneInts, fAll, fAny, dec_true, dec_false, fDiv_ok, fMod_ok, fPow_ok, fMulI_l, fMulI_r], by simp [run0, run1, sSeq, sNx, sBk, sCt, sEx, sRet, sRetN, sIf, sSet, setC, unbw, putC, Val.cell, sPar, unbws, putCs, sFor, sUnp, sStore, stTo, stD, sRaise, M.bind, M.ret, M.lift, mVar, mC, m2, m1, hold, look, cellD, esc, escs, looks, mTru, dTru, mB, mNot, mAnd, mOr, mBv, mAndV, mOrV, mIf, mChain, mNil, mCons, mTup, mLst, mCB, mPart, mSl, mMut, mMut0, ownD, isLst, relent, mGet2, mCall0, mCall1, outV, lentD, mSeq, gN, gsNil, gsCons, gT, mR1, mR2, asInts, mAny, mKeys, mLc, mLc2, mDc, mNewD, wipeE, back, fI, fAdd, fSub, fNeg, cAll, fC, fLt, fLe, fGt, fGe, fIx, fIxS, D.isDct, atI, ixN, fLen, lenD, fList, fTuple, seqD, lstD, fInt, fAbs, fAppend, fExtend, fIsi, tys, D.ty, isTab, fEq_int, fNe_int, fSl, oneBls, oneInts, fAll, fAny, dec_true, dec_false, fDiv_ok, fMod_ok, fPow_ok, fMulI_l, fMulI_r], by simp [run0, run1, sSeq, sNx, sBk, sCt, sEx, sRet, sRetN, sIf, sSet, setC, unbw, putC, Val.cell, sPar, unbws, putCs, sFor, sUnp, sStore, stTo, stD, sRaise, M.bind, M.ret, M.lift, mVar, mC, m2, m1, hold, look, cellD, esc, escs, looks, mTru, dTru, mB, mNot, mAnd, mOr, mBv, mAndV, mOrV, mIf, mChain, mNil, mCons, mTup, mLst, mCB, mPart, mSl, mMut, mMut0, ownD, isLst, relent, mGet2, mCall0, mCall1, outV, lentD, mSeq, gN, gsNil, gsCons, gT, mR1, mR2, asInts, mAny, mKeys, mLc, mLc2, mDc, mNewD, wipeE, back, fI, fAdd, fSub, fNeg, cAll, fC, fLt, fLe, fGt, fGe, fIx, fIxS, D.isDct, atI, ixN, fLen, lenD, fList, fTuple, seqD, lstD, fInt, fAbs, fAppend, fExtend, fIsi, tys, D.ty, isTab, fEq_int, fNe_int, fSl, oneBls, oneInts, fAll, fAny, dec_true, dec_false, fDiv_ok, fMod_ok, fPow_ok, fMulI_l, fMulI_r], fun _ => .bl true, rfl, fun d1 hd1 => ?_⟩
    have : ∃ i : Int, d1 = .int i ∧ (-10000 ≤ i ∧ i ≤ 10000) := by
      simp at hd1
      rcases hd1 with rfl | rfl
      · exact ⟨_, rfl, hn.1⟩
      · exact ⟨_, rfl, hn.2⟩
    obtain ⟨i, rfl, hi⟩ := this
    have na := near_abs hi
    refine ⟨[.sh (crowdD c), .sh (dotD p), .sh (.int i)], .sh (.bl true), [.sh (crowdD c), .sh (dotD p), .sh (.int i)], [.sh (crowdD c), .sh (dotD p), .sh (.int i)], by simp [run0, run1, sSeq, sNx, sBk, sCt, sEx, sRet, sRetN, sIf, sSet, setC, unbw, putC, Val.cell, sPar, unbws, putCs, sFor, sUnp, sStore, stTo, stD, sRaise, M.bind, M.ret, M.lift, mVar, mC, m2, m1, hold, look, cellD, esc, escs, looks, mTru, dTru, mB, mNot, mAnd, mOr, mBv, mAndV, mOrV, mIf, mChain, mNil, mCons, mTup, mLst, mCB, mPart, mSl, mMut, mMut0, ownD, isLst, relent, mGet2, mCall0, mCall1, outV, lentD, mSeq, gN, gsNil, gsCons, gT, mR1, mR2, asInts, mAny, mKeys, mLc, mLc2, mDc, mNewD, wipeE, back, fI, fAdd, fSub, fNeg, cAll, fC, fLt, fLe, fGt, fGe, fIx, fIxS, D.isDct, atI, ixN, fLen, lenD, fList, fTuple, seqD, lstD, fInt, fAbs, fAppend, fExtend, fIsi, tys, D.ty, isTab, fEq_int, fNe_int, fSl, oneBls, oneInts, fAll, fAny, dec_true, dec_false, fDiv_ok, fMod_ok, fPow_ok, fMulI_l, fMulI_r], ?_, by simp [run0, run1, sSeq, sNx, sBk, sCt, sEx, sRet, sRetN, sIf, sSet, setC, unbw, putC, Val.cell, sPar, unbws, putCs, sFor, sUnp, sStore, stTo, stD, sRaise, M.bind, M.ret, M.lift, mVar, mC, m2, m1, hold, look, cellD, esc, escs, looks, mTru, dTru, mB, mNot, mAnd, mOr, mBv, mAndV, mOrV, mIf, mChain, mNil, mCons, mTup, mLst, mCB, mPart, mSl, mMut, mMut0, ownD, isLst, relent, mGet2, mCall0, mCall1, outV, lentD, mSeq, gN, gsNil, gsCons, gT, mR1, mR2, asInts, mAny, mKeys, mLc, mLc2, mDc, mNewD, wipeE, back, fI, fAdd, fSub, fNeg, cAll, fC, fLt, fLe, fGt, fGe, fIx, fIxS, D.isDct, atI, ixN, fLen, lenD, fList, fTuple, seqD, lstD, fInt, fAbs, fAppend, fExtend, fIsi, tys, D.ty, isTab, fEq_int, fNe_int, fSl, oneBls, oneInts, fAll, fAny, dec_true, dec_false, fDiv_ok, fMod_ok, fPow_ok, fMulI_l, fMulI_r], by simp [run0, run1, sSeq, sNx, sBk, sCt, sEx, sRet, sRetN, sIf, sSet, setC, unbw, putC, Val.cell, sPar, unbws, putCs, sFor, sUnp, sStore, stTo, stD, sRaise, M.bind, M.ret, M.lift, mVar, mC, m2, m1, hold, look, cellD, esc, escs, looks, mTru, dTru, mB, mNot, mAnd, mOr, mBv, mAndV, mOrV, mIf, mChain, mNil, mCons, mTup, mLst, mCB, mPart, mSl, mMut, mMut0, ownD, isLst, relent, mGet2, mCall0, mCall1, outV, lentD, mSeq, gN, gsNil, gsCons, gT, mR1, mR2, asInts, mAny, mKeys, mLc, mLc2, mDc, mNewD, wipeE, back, fI, fAdd, fSub, fNeg, cAll, fC, fLt, fLe, fGt, fGe, fIx, fIxS, D.isDct, atI, ixN, fLen, lenD, fList, fTuple, seqD, lstD, fInt, fAbs, fAppend, fExtend, fIsi, tys, D.ty, isTab, fEq_int, fNe_int, fSl, oneBls, oneInts, fAll, fAny, dec_true, dec_false, fDiv_ok, fMod_ok, fPow_ok, fMulI_l, fMulI_r]⟩
    simp [E_near_enough_1, na, run0, run1, sSeq, sNx, sBk, sCt, sEx, sRet, sRetN, sIf, sSet, setC, unbw, putC, Val.cell, sPar, unbws, putCs, sFor, sUnp, sStore, stTo, stD, sRaise, M.bind, M.ret, M.lift, mVar, mC, m2, m1, hold, look, cellD, esc, escs, looks, mTru, dTru, mB, mNot, mAnd, mOr, mBv, mAndV, mOrV, mIf, mChain, mNil, mCons, mTup, mLst, mCB, mPart, mSl, mMut, mMut0, ownD, isLst, relent, mGet2, mCall0, mCall1, outV, lentD, mSeq, gN, gsNil, gsCons, gT, mR1, mR2, asInts, mAny, mKeys, mLc, mLc2, mDc, mNewD, wipeE, back, fI, fAdd, fSub, fNeg, cAll, fC, fLt, fLe, fGt, fGe, fIx, fIxS, D.isDct, atI, ixN, fLen, lenD, fList, fTuple, seqD, lstD, fInt, fAbs, fAppend, fExtend, fIsi, tys, D.ty, isTab, fEq_int, fNe_int, fSl, oneBls, oneInts, fAll, fAny, dec_true, dec_false, fDiv_ok, fMod_ok, fPow_ok, fMulI_l, fMulI_r]
  have a1 : fAll [.lst ((c.map dotD).flatMap fun _ => [.bl true, .bl true])] = some (.sh (.bl true)) := by
    have : ∀ xs : List D, xs.flatMap (fun _ => [D.bl true, D.bl true]) = (xs.flatMap fun _ => [(), ()]).map fun _ => D.bl true := by
      intro xs
      induction xs with
      | nil => rfl
      | cons x xs ih => simp [List.flatMap_cons, ih]
    rw [this]
    exact fAll_true _ fun _ _ => rfl
  simp [F_near_enough, B_near_enough, q, a1, run0, run1, sSeq, sNx, sBk, sCt, sEx, sRet, sRetN, sIf, sSet, setC, unbw, putC, Val.cell, sPar, unbws, putCs, sFor, sUnp, sStore, stTo, stD, sRaise, M.bind, M.ret, M.lift, mVar, mC, m2, m1, hold, look, cellD, esc, escs, looks, mTru, dTru, mB, mNot, mAnd, mOr, mBv, mAndV, mOrV, mIf, mChain, mNil, mCons, mTup, mLst, mCB, mPart, mSl, mMut, mMut0, ownD, isLst, relent, mGet2, mCall0, mCall1, outV, lentD, mSeq, gN, gsNil, gsCons, gT, mR1, mR2, asInts, mAny, mKeys, mLc, mLc2, mDc, mNewD, wipeE, back, fI, fAdd, fSub, fNeg, cAll, fC, fLt, fLe, fGt, fGe, fIx, fIxS, D.isDct, atI, ixN, fLen, lenD, fList, fTuple, seqD, lstD, fInt, fAbs, fAppend, fExtend, fIsi, tys, D.ty, isTab, fEq_int, fNe_int, fSl, dec_true, dec_false, fDiv_ok, fMod_ok, fPow_ok, fMulI_l, fMulI_r]
def shift (by' p : Int × Int) : Int × Int := (p.1 + by'.1, p.2 + by'.2)
def flip (p : Int × Int) : Int × Int := (-p.1, p.2)
theorem moved_ok {c : List (Int × Int)} {v : Int × Int} (h : Crowd c) (hv : near v) (hm : ∀ p ∈ c, near (shift v p)) : F_moved [crowdD c, dotD v] = .ok (.sh (crowdD (c.map (shift v)))) .non := by
  have a := check_crowd_ok h
  have b := check_dots_one hv
  have hi := h.hi
  have q : C_moved_1 [.sh (crowdD c), .sh (dotD v), .un, .un] = .ok (.ow (.lst ((c.map (shift v)).map dotD))) [.sh (crowdD c), .sh (dotD v), .un, .un] := by
    have ei : (c.map (shift v)).map dotD = (c.map dotD).map fun d => match d with
        | .tup [.int x, .int y] => dotD (shift v (x, y))
        | d => d := by
      rw [List.map_map, List.map_map]; rfl
    rw [ei]
    refine mLc_map _ (e0 := [.sh (crowdD c), .sh (dotD v), .un, .un]) (ew := [.sh (crowdD c), .sh (dotD v), .un, .un]) (by simp [crowdD, run0, run1, sSeq, sNx, sBk, sCt, sEx, sRet, sRetN, sIf, sSet, setC, unbw, putC, Val.cell, sPar, unbws, putCs, sFor, sUnp, sStore, stTo, stD, sRaise, M.bind, M.ret, M.lift, mVar, mC, m2, m1, hold, look, cellD, esc, escs, looks, mTru, dTru, mB, mNot, mAnd, mOr, mBv, mAndV, mOrV, mIf, mChain, mNil, mCons, mTup, mLst, mCB, mPart, mSl, mMut, mMut0, ownD, isLst, relent, mGet2, mCall0, mCall1, outV, lentD, mSeq, gN, gsNil, gsCons, gT, mR1, mR2, asInts, mAny, mKeys, mLc, mLc2, mDc, mNewD, wipeE, back, fI, fAdd, fSub, fNeg, cAll, fC, fLt, fLe, fGt, fGe, fIx, fIxS, D.isDct, atI, ixN, fLen, lenD, fList, fTuple, seqD, lstD, fInt, fAbs, fAppend, fExtend, fIsi, tys, D.ty, isTab, fEq_int, fNe_int, fSl, oneBls, oneInts, fAll, fAny, dec_true, dec_false, fDiv_ok, fMod_ok, fPow_ok, fMulI_l, fMulI_r]) (by simp [run0, run1, sSeq, sNx, sBk, sCt, sEx, sRet, sRetN, sIf, sSet, setC, unbw, putC, Val.cell, sPar, unbws, putCs, sFor, sUnp, sStore, stTo, stD, sRaise, M.bind, M.ret, M.lift, mVar, mC, m2, m1, hold, look, cellD, esc, escs, looks, mTru, dTru, mB, mNot, mAnd, mOr, mBv, mAndV, mOrV, mIf, mChain, mNil, mCons, mTup, mLst, mCB, mPart, mSl, mMut, mMut0, ownD, isLst, relent, mGet2, mCall0, mCall1, outV, lentD, mSeq, gN, gsNil, gsCons, gT, mR1, mR2, asInts, mAny, mKeys, mLc, mLc2, mDc, mNewD, wipeE, back, fI, fAdd, fSub, fNeg, cAll, fC, fLt, fLe, fGt, fGe, fIx, fIxS, D.isDct, atI, ixN, fLen, lenD, fList, fTuple, seqD, lstD, fInt, fAbs, fAppend, fExtend, fIsi, tys, D.ty, isTab, fEq_int, fNe_int, fSl, oneBls, oneInts, fAll, fAny, dec_true, dec_false, fDiv_ok, fMod_ok, fPow_ok, fMulI_l, fMulI_r]) (by simp [run0, run1, sSeq, sNx, sBk, sCt, sEx, sRet, sRetN, sIf, sSet, setC, unbw, putC, Val.cell, sPar, unbws, putCs, sFor, sUnp, sStore, stTo, stD, sRaise, M.bind, M.ret, M.lift, mVar, mC, m2, m1, hold, look, cellD, esc, escs, looks, mTru, dTru, mB, mNot, mAnd, mOr, mBv, mAndV, mOrV, mIf, mChain, mNil, mCons, mTup, mLst, mCB, mPart, mSl, mMut, mMut0, ownD, isLst, relent, mGet2, mCall0, mCall1, outV, lentD, mSeq, gN, gsNil, gsCons, gT, mR1, mR2, asInts, mAny, mKeys, mLc, mLc2, mDc, mNewD, wipeE, back, fI, fAdd, fSub, fNeg, cAll, fC, fLt, fLe, fGt, fGe, fIx, fIxS, D.isDct, atI, ixN, fLen, lenD, fList, fTuple, seqD, lstD, fInt, fAbs, fAppend, fExtend, fIsi, tys, D.ty, isTab, fEq_int, fNe_int, fSl, oneBls, oneInts, fAll, fAny, dec_true, dec_false, fDiv_ok, fMod_ok, fPow_ok, fMulI_l, fMulI_r]) (fun d hd => ?_) (by simp; omega)
    obtain ⟨p, hp, rfl⟩ := List.mem_map.mp hd
    refine ⟨[.sh (crowdD c), .sh (dotD v), .sh (.int p.1), .sh (.int p.2)], .sh (dotD (shift v p)), [.sh (crowdD c), .sh (dotD v), .sh (.int p.1), .sh (.int p.2)], [.sh (crowdD c), .sh (dotD v), .sh (.int p.1), .sh (.int p.2)], ?_, ?_, ?_, ?_⟩
    · simp [dotD, run0, run1, sSeq, sNx, sBk, sCt, sEx, sRet, sRetN, sIf, sSet, setC, unbw, putC, Val.cell, sPar, unbws, putCs, sFor, sUnp, sStore, stTo, stD, sRaise, M.bind, M.ret, M.lift, mVar, mC, m2, m1, hold, look, cellD, esc, escs, looks, mTru, dTru, mB, mNot, mAnd, mOr, mBv, mAndV, mOrV, mIf, mChain, mNil, mCons, mTup, mLst, mCB, mPart, mSl, mMut, mMut0, ownD, isLst, relent, mGet2, mCall0, mCall1, outV, lentD, mSeq, gN, gsNil, gsCons, gT, mR1, mR2, asInts, mAny, mKeys, mLc, mLc2, mDc, mNewD, wipeE, back, fI, fAdd, fSub, fNeg, cAll, fC, fLt, fLe, fGt, fGe, fIx, fIxS, D.isDct, atI, ixN, fLen, lenD, fList, fTuple, seqD, lstD, fInt, fAbs, fAppend, fExtend, fIsi, tys, D.ty, isTab, fEq_int, fNe_int, fSl, oneBls, oneInts, fAll, fAny, dec_true, dec_false, fDiv_ok, fMod_ok, fPow_ok, fMulI_l, fMulI_r]
    · simp [E_moved_1, dotD, shift, run0, run1, sSeq, sNx, sBk, sCt, sEx, sRet, sRetN, sIf, sSet, setC, unbw, putC, Val.cell, sPar, unbws, putCs, sFor, sUnp, sStore, stTo, stD, sRaise, M.bind, M.ret, M.lift, mVar, mC, m2, m1, hold, look, cellD, esc, escs, looks, mTru, dTru, mB, mNot, mAnd, mOr, mBv, mAndV, mOrV, mIf, mChain, mNil, mCons, mTup, mLst, mCB, mPart, mSl, mMut, mMut0, ownD, isLst, relent, mGet2, mCall0, mCall1, outV, lentD, mSeq, gN, gsNil, gsCons, gT, mR1, mR2, asInts, mAny, mKeys, mLc, mLc2, mDc, mNewD, wipeE, back, fI, fAdd, fSub, fNeg, cAll, fC, fLt, fLe, fGt, fGe, fIx, fIxS, D.isDct, atI, ixN, fLen, lenD, fList, fTuple, seqD, lstD, fInt, fAbs, fAppend, fExtend, fIsi, tys, D.ty, isTab, fEq_int, fNe_int, fSl, oneBls, oneInts, fAll, fAny, dec_true, dec_false, fDiv_ok, fMod_ok, fPow_ok, fMulI_l, fMulI_r]
    · simp [dotD, run0, run1, sSeq, sNx, sBk, sCt, sEx, sRet, sRetN, sIf, sSet, setC, unbw, putC, Val.cell, sPar, unbws, putCs, sFor, sUnp, sStore, stTo, stD, sRaise, M.bind, M.ret, M.lift, mVar, mC, m2, m1, hold, look, cellD, esc, escs, looks, mTru, dTru, mB, mNot, mAnd, mOr, mBv, mAndV, mOrV, mIf, mChain, mNil, mCons, mTup, mLst, mCB, mPart, mSl, mMut, mMut0, ownD, isLst, relent, mGet2, mCall0, mCall1, outV, lentD, mSeq, gN, gsNil, gsCons, gT, mR1, mR2, asInts, mAny, mKeys, mLc, mLc2, mDc, mNewD, wipeE, back, fI, fAdd, fSub, fNeg, cAll, fC, fLt, fLe, fGt, fGe, fIx, fIxS, D.isDct, atI, ixN, fLen, lenD, fList, fTuple, seqD, lstD, fInt, fAbs, fAppend, fExtend, fIsi, tys, D.ty, isTab, fEq_int, fNe_int, fSl, oneBls, oneInts, fAll, fAny, dec_true, dec_false, fDiv_ok, fMod_ok, fPow_ok, fMulI_l, fMulI_r]
    · simp [run0, run1, sSeq, sNx, sBk, sCt, sEx, sRet, sRetN, sIf, sSet, setC, unbw, putC, Val.cell, sPar, unbws, putCs, sFor, sUnp, sStore, stTo, stD, sRaise, M.bind, M.ret, M.lift, mVar, mC, m2, m1, hold, look, cellD, esc, escs, looks, mTru, dTru, mB, mNot, mAnd, mOr, mBv, mAndV, mOrV, mIf, mChain, mNil, mCons, mTup, mLst, mCB, mPart, mSl, mMut, mMut0, ownD, isLst, relent, mGet2, mCall0, mCall1, outV, lentD, mSeq, gN, gsNil, gsCons, gT, mR1, mR2, asInts, mAny, mKeys, mLc, mLc2, mDc, mNewD, wipeE, back, fI, fAdd, fSub, fNeg, cAll, fC, fLt, fLe, fGt, fGe, fIx, fIxS, D.isDct, atI, ixN, fLen, lenD, fList, fTuple, seqD, lstD, fInt, fAbs, fAppend, fExtend, fIsi, tys, D.ty, isTab, fEq_int, fNe_int, fSl, oneBls, oneInts, fAll, fAny, dec_true, dec_false, fDiv_ok, fMod_ok, fPow_ok, fMulI_l, fMulI_r]
  have d := near_enough_ok (c := c.map (shift v)) (by rw [List.length_map]; omega) (fun p m => by obtain ⟨p', m', rfl⟩ := List.mem_map.mp m; exact hm p' m')
  simp only [crowdD] at q d a ⊢
  simp only [List.map_map] at q d ⊢
  simp [F_moved, B_moved, a, b, q, d, run0, run1, sSeq, sNx, sBk, sCt, sEx, sRet, sRetN, sIf, sSet, setC, unbw, putC, Val.cell, sPar, unbws, putCs, sFor, sUnp, sStore, stTo, stD, sRaise, M.bind, M.ret, M.lift, mVar, mC, m2, m1, hold, look, cellD, esc, escs, looks, mTru, dTru, mB, mNot, mAnd, mOr, mBv, mAndV, mOrV, mIf, mChain, mNil, mCons, mTup, mLst, mCB, mPart, mSl, mMut, mMut0, ownD, isLst, relent, mGet2, mCall0, mCall1, outV, lentD, mSeq, gN, gsNil, gsCons, gT, mR1, mR2, asInts, mAny, mKeys, mLc, mLc2, mDc, mNewD, wipeE, back, fI, fAdd, fSub, fNeg, cAll, fC, fLt, fLe, fGt, fGe, fIx, fIxS, D.isDct, atI, ixN, fLen, lenD, fList, fTuple, seqD, lstD, fInt, fAbs, fAppend, fExtend, fIsi, tys, D.ty, isTab, fEq_int, fNe_int, fSl, oneBls, oneInts, fAll, fAny, dec_true, dec_false, fDiv_ok, fMod_ok, fPow_ok, fMulI_l, fMulI_r]
theorem mirrored_ok {c : List (Int × Int)} (h : Crowd c) : F_mirrored [crowdD c] = .ok (.sh (crowdD (c.map flip))) .non := by
  have a := check_crowd_ok h
  have hi := h.hi
  have q : C_mirrored_1 [.sh (crowdD c), .un, .un] = .ok (.ow (.lst ((c.map flip).map dotD))) [.sh (crowdD c), .un, .un] := by
    have ei : (c.map flip).map dotD = (c.map dotD).map fun d => match d with
        | .tup [.int x, .int y] => dotD (flip (x, y))
        | d => d := by
      rw [List.map_map, List.map_map]; rfl
    rw [ei]
    refine mLc_map _ (e0 := [.sh (crowdD c), .un, .un]) (ew := [.sh (crowdD c), .un, .un]) (by simp [crowdD, run0, run1, sSeq, sNx, sBk, sCt, sEx, sRet, sRetN, sIf, sSet, setC, unbw, putC, Val.cell, sPar, unbws, putCs, sFor, sUnp, sStore, stTo, stD, sRaise, M.bind, M.ret, M.lift, mVar, mC, m2, m1, hold, look, cellD, esc, escs, looks, mTru, dTru, mB, mNot, mAnd, mOr, mBv, mAndV, mOrV, mIf, mChain, mNil, mCons, mTup, mLst, mCB, mPart, mSl, mMut, mMut0, ownD, isLst, relent, mGet2, mCall0, mCall1, outV, lentD, mSeq, gN, gsNil, gsCons, gT, mR1, mR2, asInts, mAny, mKeys, mLc, mLc2, mDc, mNewD, wipeE, back, fI, fAdd, fSub, fNeg, cAll, fC, fLt, fLe, fGt, fGe, fIx, fIxS, D.isDct, atI, ixN, fLen, lenD, fList, fTuple, seqD, lstD, fInt, fAbs, fAppend, fExtend, fIsi, tys, D.ty, isTab, fEq_int, fNe_int, fSl, oneBls, oneInts, fAll, fAny, dec_true, dec_false, fDiv_ok, fMod_ok, fPow_ok, fMulI_l, fMulI_r]) (by simp [run0, run1, sSeq, sNx, sBk, sCt, sEx, sRet, sRetN, sIf, sSet, setC, unbw, putC, Val.cell, sPar, unbws, putCs, sFor, sUnp, sStore, stTo, stD, sRaise, M.bind, M.ret, M.lift, mVar, mC, m2, m1, hold, look, cellD, esc, escs, looks, mTru, dTru, mB, mNot, mAnd, mOr, mBv, mAndV, mOrV, mIf, mChain, mNil, mCons, mTup, mLst, mCB, mPart, mSl, mMut, mMut0, ownD, isLst, relent, mGet2, mCall0, mCall1, outV, lentD, mSeq, gN, gsNil, gsCons, gT, mR1, mR2, asInts, mAny, mKeys, mLc, mLc2, mDc, mNewD, wipeE, back, fI, fAdd, fSub, fNeg, cAll, fC, fLt, fLe, fGt, fGe, fIx, fIxS, D.isDct, atI, ixN, fLen, lenD, fList, fTuple, seqD, lstD, fInt, fAbs, fAppend, fExtend, fIsi, tys, D.ty, isTab, fEq_int, fNe_int, fSl, oneBls, oneInts, fAll, fAny, dec_true, dec_false, fDiv_ok, fMod_ok, fPow_ok, fMulI_l, fMulI_r]) (by simp [run0, run1, sSeq, sNx, sBk, sCt, sEx, sRet, sRetN, sIf, sSet, setC, unbw, putC, Val.cell, sPar, unbws, putCs, sFor, sUnp, sStore, stTo, stD, sRaise, M.bind, M.ret, M.lift, mVar, mC, m2, m1, hold, look, cellD, esc, escs, looks, mTru, dTru, mB, mNot, mAnd, mOr, mBv, mAndV, mOrV, mIf, mChain, mNil, mCons, mTup, mLst, mCB, mPart, mSl, mMut, mMut0, ownD, isLst, relent, mGet2, mCall0, mCall1, outV, lentD, mSeq, gN, gsNil, gsCons, gT, mR1, mR2, asInts, mAny, mKeys, mLc, mLc2, mDc, mNewD, wipeE, back, fI, fAdd, fSub, fNeg, cAll, fC, fLt, fLe, fGt, fGe, fIx, fIxS, D.isDct, atI, ixN, fLen, lenD, fList, fTuple, seqD, lstD, fInt, fAbs, fAppend, fExtend, fIsi, tys, D.ty, isTab, fEq_int, fNe_int, fSl, oneBls, oneInts, fAll, fAny, dec_true, dec_false, fDiv_ok, fMod_ok, fPow_ok, fMulI_l, fMulI_r]) (fun d hd => ?_) (by simp; omega)
    obtain ⟨p, hp, rfl⟩ := List.mem_map.mp hd
    refine ⟨[.sh (crowdD c), .sh (.int p.1), .sh (.int p.2)], .sh (dotD (flip p)), [.sh (crowdD c), .sh (.int p.1), .sh (.int p.2)], [.sh (crowdD c), .sh (.int p.1), .sh (.int p.2)], ?_, ?_, ?_, ?_⟩
    · simp [dotD, run0, run1, sSeq, sNx, sBk, sCt, sEx, sRet, sRetN, sIf, sSet, setC, unbw, putC, Val.cell, sPar, unbws, putCs, sFor, sUnp, sStore, stTo, stD, sRaise, M.bind, M.ret, M.lift, mVar, mC, m2, m1, hold, look, cellD, esc, escs, looks, mTru, dTru, mB, mNot, mAnd, mOr, mBv, mAndV, mOrV, mIf, mChain, mNil, mCons, mTup, mLst, mCB, mPart, mSl, mMut, mMut0, ownD, isLst, relent, mGet2, mCall0, mCall1, outV, lentD, mSeq, gN, gsNil, gsCons, gT, mR1, mR2, asInts, mAny, mKeys, mLc, mLc2, mDc, mNewD, wipeE, back, fI, fAdd, fSub, fNeg, cAll, fC, fLt, fLe, fGt, fGe, fIx, fIxS, D.isDct, atI, ixN, fLen, lenD, fList, fTuple, seqD, lstD, fInt, fAbs, fAppend, fExtend, fIsi, tys, D.ty, isTab, fEq_int, fNe_int, fSl, oneBls, oneInts, fAll, fAny, dec_true, dec_false, fDiv_ok, fMod_ok, fPow_ok, fMulI_l, fMulI_r]
    · simp [E_mirrored_1, dotD, flip, run0, run1, sSeq, sNx, sBk, sCt, sEx, sRet, sRetN, sIf, sSet, setC, unbw, putC, Val.cell, sPar, unbws, putCs, sFor, sUnp, sStore, stTo, stD, sRaise, M.bind, M.ret, M.lift, mVar, mC, m2, m1, hold, look, cellD, esc, escs, looks, mTru, dTru, mB, mNot, mAnd, mOr, mBv, mAndV, mOrV, mIf, mChain, mNil, mCons, mTup, mLst, mCB, mPart, mSl, mMut, mMut0, ownD, isLst, relent, mGet2, mCall0, mCall1, outV, lentD, mSeq, gN, gsNil, gsCons, gT, mR1, mR2, asInts, mAny, mKeys, mLc, mLc2, mDc, mNewD, wipeE, back, fI, fAdd, fSub, fNeg, cAll, fC, fLt, fLe, fGt, fGe, fIx, fIxS, D.isDct, atI, ixN, fLen, lenD, fList, fTuple, seqD, lstD, fInt, fAbs, fAppend, fExtend, fIsi, tys, D.ty, isTab, fEq_int, fNe_int, fSl, oneBls, oneInts, fAll, fAny, dec_true, dec_false, fDiv_ok, fMod_ok, fPow_ok, fMulI_l, fMulI_r]
    · simp [dotD, run0, run1, sSeq, sNx, sBk, sCt, sEx, sRet, sRetN, sIf, sSet, setC, unbw, putC, Val.cell, sPar, unbws, putCs, sFor, sUnp, sStore, stTo, stD, sRaise, M.bind, M.ret, M.lift, mVar, mC, m2, m1, hold, look, cellD, esc, escs, looks, mTru, dTru, mB, mNot, mAnd, mOr, mBv, mAndV, mOrV, mIf, mChain, mNil, mCons, mTup, mLst, mCB, mPart, mSl, mMut, mMut0, ownD, isLst, relent, mGet2, mCall0, mCall1, outV, lentD, mSeq, gN, gsNil, gsCons, gT, mR1, mR2, asInts, mAny, mKeys, mLc, mLc2, mDc, mNewD, wipeE, back, fI, fAdd, fSub, fNeg, cAll, fC, fLt, fLe, fGt, fGe, fIx, fIxS, D.isDct, atI, ixN, fLen, lenD, fList, fTuple, seqD, lstD, fInt, fAbs, fAppend, fExtend, fIsi, tys, D.ty, isTab, fEq_int, fNe_int, fSl, oneBls, oneInts, fAll, fAny, dec_true, dec_false, fDiv_ok, fMod_ok, fPow_ok, fMulI_l, fMulI_r]
    · simp [run0, run1, sSeq, sNx, sBk, sCt, sEx, sRet, sRetN, sIf, sSet, setC, unbw, putC, Val.cell, sPar, unbws, putCs, sFor, sUnp, sStore, stTo, stD, sRaise, M.bind, M.ret, M.lift, mVar, mC, m2, m1, hold, look, cellD, esc, escs, looks, mTru, dTru, mB, mNot, mAnd, mOr, mBv, mAndV, mOrV, mIf, mChain, mNil, mCons, mTup, mLst, mCB, mPart, mSl, mMut, mMut0, ownD, isLst, relent, mGet2, mCall0, mCall1, outV, lentD, mSeq, gN, gsNil, gsCons, gT, mR1, mR2, asInts, mAny, mKeys, mLc, mLc2, mDc, mNewD, wipeE, back, fI, fAdd, fSub, fNeg, cAll, fC, fLt, fLe, fGt, fGe, fIx, fIxS, D.isDct, atI, ixN, fLen, lenD, fList, fTuple, seqD, lstD, fInt, fAbs, fAppend, fExtend, fIsi, tys, D.ty, isTab, fEq_int, fNe_int, fSl, oneBls, oneInts, fAll, fAny, dec_true, dec_false, fDiv_ok, fMod_ok, fPow_ok, fMulI_l, fMulI_r]
  simp only [crowdD] at q a ⊢
  simp only [List.map_map] at q ⊢
  simp [F_mirrored, B_mirrored, a, q, run0, run1, sSeq, sNx, sBk, sCt, sEx, sRet, sRetN, sIf, sSet, setC, unbw, putC, Val.cell, sPar, unbws, putCs, sFor, sUnp, sStore, stTo, stD, sRaise, M.bind, M.ret, M.lift, mVar, mC, m2, m1, hold, look, cellD, esc, escs, looks, mTru, dTru, mB, mNot, mAnd, mOr, mBv, mAndV, mOrV, mIf, mChain, mNil, mCons, mTup, mLst, mCB, mPart, mSl, mMut, mMut0, ownD, isLst, relent, mGet2, mCall0, mCall1, outV, lentD, mSeq, gN, gsNil, gsCons, gT, mR1, mR2, asInts, mAny, mKeys, mLc, mLc2, mDc, mNewD, wipeE, back, fI, fAdd, fSub, fNeg, cAll, fC, fLt, fLe, fGt, fGe, fIx, fIxS, D.isDct, atI, ixN, fLen, lenD, fList, fTuple, seqD, lstD, fInt, fAbs, fAppend, fExtend, fIsi, tys, D.ty, isTab, fEq_int, fNe_int, fSl, oneBls, oneInts, fAll, fAny, dec_true, dec_false, fDiv_ok, fMod_ok, fPow_ok, fMulI_l, fMulI_r]
/-! ### what does not change -/
theorem fars_same {c : List (Int × Int)} {f : Int × Int → Int × Int} (h : ∀ p q, far (f p) (f q) = far p q) : farsOf (c.map f) = farsOf c := by
  unfold farsOf
  rw [List.length_map]
  refine List.map_congr_left fun lot hl => ?_
  obtain ⟨i, j, rfl, hi, hj⟩ := lot2 hl
  have g : ∀ i, i < c.length → (c.map f).getD i (0, 0) = f (c.getD i (0, 0)) := fun i hi => by
    rw [List.getD_eq_getElem?_getD, List.getD_eq_getElem?_getD, List.getElem?_map, List.getElem?_eq_getElem hi]; rfl
  show far ((c.map f).getD i (0, 0)) ((c.map f).getD j (0, 0)) = far (c.getD i (0, 0)) (c.getD j (0, 0))
  rw [g i hi, g j hj, h]
theorem far_shift (v p q : Int × Int) : far (shift v p) (shift v q) = far p q := by
  unfold far shift
  show (q.1 + v.1 - (p.1 + v.1)) * (q.1 + v.1 - (p.1 + v.1)) + (q.2 + v.2 - (p.2 + v.2)) * (q.2 + v.2 - (p.2 + v.2)) = _
  rw [show q.1 + v.1 - (p.1 + v.1) = q.1 - p.1 by omega, show q.2 + v.2 - (p.2 + v.2) = q.2 - p.2 by omega]
theorem far_flip (p q : Int × Int) : far (flip p) (flip q) = far p q := by
  unfold far flip
  show (-q.1 - -p.1) * (-q.1 - -p.1) + (q.2 - p.2) * (q.2 - p.2) = _
  rw [show -q.1 - -p.1 = -(q.1 - p.1) by omega, Int.neg_mul_neg]
theorem Crowd.map {c : List (Int × Int)} {f : Int × Int → Int × Int} (h : Crowd c) (hn : ∀ p ∈ c, near (f p)) (hf : ∀ p q, f p = f q → p = q) : Crowd (c.map f) :=
  ⟨by rw [List.length_map]; exact h.lo, by rw [List.length_map]; exact h.hi, fun p m => by obtain ⟨q, hq, rfl⟩ := List.mem_map.mp m; exact hn q hq, List.Pairwise.map _ (fun a b hab z => hab (hf a b z)) h.nd⟩
end Lw

namespace Lw
open PySem PySem.Spec PyProof.Rows L2 VS
/-! ### the hand: a list of five, drawn from -/
def handD (cells : List Int) (p r n k : Int) : D := .lst [.lst (cells.map .int), .int p, .int r, .int n, .int k]
def Hand (h : D) : Prop := ∃ (cells : List Int) (p : Nat) (r n k : Int), h = handD cells p r n k ∧ 0 ≤ r
/-- the number that is drawn where the hand has none -/
def numOf (n k : Int) : Int := ((n + 7919 * k) * 48271 % 2147483647 * ((n + 7919 * k) * 48271 % 2147483647 / 1009 + 69621) % 2147483647) * (((n + 7919 * k) * 48271 % 2147483647 * ((n + 7919 * k) * 48271 % 2147483647 / 1009 + 69621) % 2147483647) / 2003 + 40014) % 2147483563 / 16
theorem small_mod (a b : Int) (h : 0 < b ∧ b ≤ 1000000000000000000) : -1000000000000000000 ≤ a % b ∧ a % b ≤ 1000000000000000000 := by
  have := Int.emod_nonneg a (show b ≠ 0 by omega)
  have := Int.emod_lt_of_pos a h.1
  omega
theorem draw_num {cells : List Int} {p n k b : Int} (hb : 0 < b) (hc : ¬ p < (cells.length : Int)) : F__law_draw [handD cells p 0 n k, .int b] = .ok (.sh (.int (numOf n (k + 1) % b))) (handD cells p 0 n (k + 1)) := by
  have x1 := small_mod ((n + 7919 * (k + 1)) * 48271) 2147483647 (by decide)
  have x2 := small_mod ((n + 7919 * (k + 1)) * 48271 % 2147483647 * ((n + 7919 * (k + 1)) * 48271 % 2147483647 / 1009 + 69621)) 2147483647 (by decide)
  simp [F__law_draw, B__law_draw, handD, hc, hb, numOf, fMulI_l x1, fMulI_l x2, run0, run1, sSeq, sNx, sBk, sCt, sEx, sRet, sRetN, sIf, sSet, setC, unbw, putC, Val.cell, sPar, unbws, putCs, sFor, sUnp, sStore, stTo, stD, sRaise, M.bind, M.ret, M.lift, mVar, mC, m2, m1, hold, look, cellD, esc, escs, looks, mTru, dTru, mB, mNot, mAnd, mOr, mBv, mAndV, mOrV, mIf, mChain, mNil, mCons, mTup, mLst, mCB, mPart, mSl, mMut, mMut0, ownD, isLst, relent, mGet2, mCall0, mCall1, outV, lentD, mSeq, gN, gsNil, gsCons, gT, mR1, mR2, asInts, mAny, mKeys, mLc, mLc2, mDc, mNewD, wipeE, back, fI, fAdd, fSub, fNeg, cAll, fC, fLt, fLe, fGt, fGe, fIx, fIxS, D.isDct, atI, ixN, fLen, lenD, fList, fTuple, seqD, lstD, fInt, fAbs, fAppend, fExtend, fIsi, tys, D.ty, isTab, fEq_int, fNe_int, fSl, oneBls, oneInts, fAll, fAny, dec_true, dec_false, fDiv_ok, fMod_ok, fPow_ok, fMulI_l, fMulI_r]
theorem draw_rest {cells : List Int} {p r n k b : Int} (hb : 0 < b ∧ b ≤ 1000000000) (hr : 0 < r) : F__law_draw [handD cells p r n k, .int b] = .ok (.sh (.int (r % b))) (handD cells p (r / b) n k) := by
  have z : ¬ r = 0 := by omega
  have b1 := hb.1
  have b2 := hb.2
  simp [F__law_draw, B__law_draw, handD, z, hr, b1, b2, run0, run1, sSeq, sNx, sBk, sCt, sEx, sRet, sRetN, sIf, sSet, setC, unbw, putC, Val.cell, sPar, unbws, putCs, sFor, sUnp, sStore, stTo, stD, sRaise, M.bind, M.ret, M.lift, mVar, mC, m2, m1, hold, look, cellD, esc, escs, looks, mTru, dTru, mB, mNot, mAnd, mOr, mBv, mAndV, mOrV, mIf, mChain, mNil, mCons, mTup, mLst, mCB, mPart, mSl, mMut, mMut0, ownD, isLst, relent, mGet2, mCall0, mCall1, outV, lentD, mSeq, gN, gsNil, gsCons, gT, mR1, mR2, asInts, mAny, mKeys, mLc, mLc2, mDc, mNewD, wipeE, back, fI, fAdd, fSub, fNeg, cAll, fC, fLt, fLe, fGt, fGe, fIx, fIxS, D.isDct, atI, ixN, fLen, lenD, fList, fTuple, seqD, lstD, fInt, fAbs, fAppend, fExtend, fIsi, tys, D.ty, isTab, fEq_int, fNe_int, fSl, oneBls, oneInts, fAll, fAny, dec_true, dec_false, fDiv_ok, fMod_ok, fPow_ok, fMulI_l, fMulI_r]
def nextN (n cell : Int) : Int := (n * 69621 + cell * 40692 + 31) % 2147483629
theorem draw_small {cells : List Int} {p : Nat} {n k b cell : Int} (hb : 0 < b) (hc : cells[p]? = some cell) (hs : ¬ 1000000000000000000 ≤ cell) : F__law_draw [handD cells p 0 n k, .int b] = .ok (.sh (.int (numOf (nextN n cell) (k + 1) % b))) (handD cells (p + 1) 0 (nextN n cell) (k + 1)) := by
  have hp : p < cells.length := (List.getElem?_eq_some_iff.mp hc).1
  have hp' : (p : Int) < (cells.length : Int) := by omega
  have e1 : fIx (.lst (cells.map .int)) (.int p) = some (.sh (.int cell)) := by
    show (atI (cells.map D.int) (p : Int)).map Val.sh = _
    rw [atI_nat' (x := D.int cell) (by rw [List.getElem?_map, hc]; rfl)]
    rfl
  have f0 : ∀ a b c d e : D, fIx (.lst [a, b, c, d, e]) (.int 0) = some (.sh a) := fun _ _ _ _ _ => rfl
  have f1 : ∀ a b c d e : D, fIx (.lst [a, b, c, d, e]) (.int 1) = some (.sh b) := fun _ _ _ _ _ => rfl
  have f2 : ∀ a b c d e : D, fIx (.lst [a, b, c, d, e]) (.int 2) = some (.sh c) := fun _ _ _ _ _ => rfl
  have f3 : ∀ a b c d e : D, fIx (.lst [a, b, c, d, e]) (.int 3) = some (.sh d) := fun _ _ _ _ _ => rfl
  have f4 : ∀ a b c d e : D, fIx (.lst [a, b, c, d, e]) (.int 4) = some (.sh e) := fun _ _ _ _ _ => rfl
  have x1 := small_mod ((nextN n cell + 7919 * (k + 1)) * 48271) 2147483647 (by decide)
  have x2 := small_mod ((nextN n cell + 7919 * (k + 1)) * 48271 % 2147483647 * ((nextN n cell + 7919 * (k + 1)) * 48271 % 2147483647 / 1009 + 69621)) 2147483647 (by decide)
  unfold nextN at *
  simp [F__law_draw, B__law_draw, handD, hp, hp', hb, hs, e1, f0, f1, f2, f3, f4, numOf, fMulI_l x1, fMulI_l x2, ixN, run0, run1, sSeq, sNx, sBk, sCt, sEx, sRet, sRetN, sIf, sSet, setC, unbw, putC, Val.cell, sPar, unbws, putCs, sFor, sUnp, sStore, stTo, stD, sRaise, M.bind, M.ret, M.lift, mVar, mC, m2, m1, hold, look, cellD, esc, escs, looks, mTru, dTru, mB, mNot, mAnd, mOr, mBv, mAndV, mOrV, mIf, mChain, mNil, mCons, mTup, mLst, mCB, mPart, mSl, mMut, mMut0, ownD, isLst, relent, mGet2, mCall0, mCall1, outV, lentD, mSeq, gN, gsNil, gsCons, gT, mR1, mR2, asInts, mAny, mKeys, mLc, mLc2, mDc, mNewD, wipeE, back, fI, fAdd, fSub, fNeg, cAll, fC, fLt, fLe, fGt, fGe, D.isDct, ixN, fLen, lenD, fList, fTuple, seqD, lstD, fInt, fAbs, fAppend, fExtend, fIsi, tys, D.ty, isTab, fEq_int, fNe_int, fSl, oneBls, oneInts, fAll, fAny, dec_true, dec_false, fDiv_ok, fMod_ok, fPow_ok, fMulI_l, fMulI_r]
theorem draw_big {cells : List Int} {p : Nat} {n k b cell : Int} (hb : 0 < b ∧ b ≤ 1000000000) (hc : cells[p]? = some cell) (hs : 1000000000000000000 ≤ cell) : F__law_draw [handD cells p 0 n k, .int b] = .ok (.sh (.int (cell % b))) (handD cells (p + 1) (cell / b) (nextN n cell) k) := by
  have hp : p < cells.length := (List.getElem?_eq_some_iff.mp hc).1
  have hp' : (p : Int) < (cells.length : Int) := by omega
  have b1 := hb.1
  have b2 := hb.2
  have e1 : fIx (.lst (cells.map .int)) (.int p) = some (.sh (.int cell)) := by
    show (atI (cells.map D.int) (p : Int)).map Val.sh = _
    rw [atI_nat' (x := D.int cell) (by rw [List.getElem?_map, hc]; rfl)]
    rfl
  have f0 : ∀ a b c d e : D, fIx (.lst [a, b, c, d, e]) (.int 0) = some (.sh a) := fun _ _ _ _ _ => rfl
  have f1 : ∀ a b c d e : D, fIx (.lst [a, b, c, d, e]) (.int 1) = some (.sh b) := fun _ _ _ _ _ => rfl
  have f2 : ∀ a b c d e : D, fIx (.lst [a, b, c, d, e]) (.int 2) = some (.sh c) := fun _ _ _ _ _ => rfl
  have f3 : ∀ a b c d e : D, fIx (.lst [a, b, c, d, e]) (.int 3) = some (.sh d) := fun _ _ _ _ _ => rfl
  have f4 : ∀ a b c d e : D, fIx (.lst [a, b, c, d, e]) (.int 4) = some (.sh e) := fun _ _ _ _ _ => rfl
  have g : (0 : Int) < cell := by omega
  simp [F__law_draw, B__law_draw, handD, hp, hp', b1, b2, hs, g, e1, f0, f1, f2, f3, f4, nextN, ixN, run0, run1, sSeq, sNx, sBk, sCt, sEx, sRet, sRetN, sIf, sSet, setC, unbw, putC, Val.cell, sPar, unbws, putCs, sFor, sUnp, sStore, stTo, stD, sRaise, M.bind, M.ret, M.lift, mVar, mC, m2, m1, hold, look, cellD, esc, escs, looks, mTru, dTru, mB, mNot, mAnd, mOr, mBv, mAndV, mOrV, mIf, mChain, mNil, mCons, mTup, mLst, mCB, mPart, mSl, mMut, mMut0, ownD, isLst, relent, mGet2, mCall0, mCall1, outV, lentD, mSeq, gN, gsNil, gsCons, gT, mR1, mR2, asInts, mAny, mKeys, mLc, mLc2, mDc, mNewD, wipeE, back, fI, fAdd, fSub, fNeg, cAll, fC, fLt, fLe, fGt, fGe, D.isDct, ixN, fLen, lenD, fList, fTuple, seqD, lstD, fInt, fAbs, fAppend, fExtend, fIsi, tys, D.ty, isTab, fEq_int, fNe_int, fSl, oneBls, oneInts, fAll, fAny, dec_true, dec_false, fDiv_ok, fMod_ok, fPow_ok, fMulI_l, fMulI_r]
/-- what is drawn lies below -/
theorem draw_ok {h : D} {b : Int} (H : Hand h) (hb : 0 < b ∧ b ≤ 1000000000) : ∃ (d : Int) (h' : D), F__law_draw [h, .int b] = .ok (.sh (.int d)) h' ∧ Hand h' ∧ 0 ≤ d ∧ d < b := by
  obtain ⟨cells, p, r, n, k, rfl, r0⟩ := H
  have m : ∀ x : Int, 0 ≤ x % b ∧ x % b < b := fun x => ⟨Int.emod_nonneg x (by omega), Int.emod_lt_of_pos x hb.1⟩
  by_cases hr : 0 < r
  · exact ⟨_, _, draw_rest hb hr, ⟨cells, p, _, n, k, rfl, Int.ediv_nonneg r0 (by omega)⟩, m _⟩
  · have : r = 0 := by omega
    subst this
    by_cases hp : p < cells.length
    · have hc : cells[p]? = some cells[p] := List.getElem?_eq_getElem hp
      by_cases hs : 1000000000000000000 ≤ cells[p]
      · exact ⟨_, _, draw_big hb hc hs, ⟨cells, p + 1, _, _, k, rfl, Int.ediv_nonneg (by omega) (by omega)⟩, m _⟩
      · exact ⟨_, _, draw_small hb.1 hc hs, ⟨cells, p + 1, _, _, _, rfl, by omega⟩, m _⟩
    · exact ⟨_, _, draw_num hb.1 (by omega), ⟨cells, p, _, _, _, rfl, by omega⟩, m _⟩
theorem any_ok {h : D} {xs : List D} (H : Hand h) (h0 : xs ≠ []) (hl : xs.length ≤ 1000000) : ∃ (x : D) (h' : D), F__law_any [h, .lst xs] = .ok (.sh x) h' ∧ Hand h' ∧ x ∈ xs := by
  have hp := List.length_pos_iff.mpr h0
  obtain ⟨d, h', e, H', d0, d1⟩ := draw_ok H (b := xs.length) (by omega)
  obtain ⟨i, rfl⟩ : ∃ i : Nat, d = i := ⟨d.toNat, by omega⟩
  have hi : i < xs.length := by omega
  have x : fIx (.lst xs) (.int i) = some (.sh xs[i]) := by
    show (atI xs (i : Int)).map Val.sh = _
    rw [atI_nat' (List.getElem?_eq_getElem hi)]
    rfl
  exact ⟨xs[i], h', by simp [F__law_any, B__law_any, e, x, run0, run1, sSeq, sNx, sBk, sCt, sEx, sRet, sRetN, sIf, sSet, setC, unbw, putC, Val.cell, sPar, unbws, putCs, sFor, sUnp, sStore, stTo, stD, sRaise, M.bind, M.ret, M.lift, mVar, mC, m2, m1, hold, look, cellD, esc, escs, looks, mTru, dTru, mB, mNot, mAnd, mOr, mBv, mAndV, mOrV, mIf, mChain, mNil, mCons, mTup, mLst, mCB, mPart, mSl, mMut, mMut0, ownD, isLst, relent, mGet2, mCall0, mCall1, outV, lentD, mSeq, gN, gsNil, gsCons, gT, mR1, mR2, asInts, mAny, mKeys, mLc, mLc2, mDc, mNewD, wipeE, back, fI, fAdd, fSub, fNeg, cAll, fC, fLt, fLe, fGt, fGe, D.isDct, ixN, fLen, lenD, fList, fTuple, seqD, lstD, fInt, fAbs, fAppend, fExtend, fIsi, tys, D.ty, isTab, fEq_int, fNe_int, fSl, oneBls, oneInts, fAll, fAny, dec_true, dec_false, fDiv_ok, fMod_ok, fPow_ok, fMulI_l, fMulI_r], H', List.getElem_mem hi⟩
theorem perm_erase {α : Type} : ∀ {xs : List α} {i : Nat} (h : i < xs.length), (xs[i] :: xs.eraseIdx i).Perm xs
  | [], i, h => by simp at h
  | x :: xs, 0, _ => List.Perm.refl _
  | x :: xs, i + 1, h => by
    rw [List.getElem_cons_succ, List.eraseIdx_cons_succ]
    exact (List.Perm.swap _ _ _).trans ((perm_erase (by simpa using h)).cons x)
/-- things mixed: the same things -/
theorem mixed_ok {h : D} {xs : List D} (H : Hand h) (hl : xs.length ≤ 100000) : ∃ (ys : List D) (h' : D), F__law_mixed [h, .lst xs] = .ok (.ow (.lst ys)) h' ∧ Hand h' ∧ ys.Perm xs := by
  obtain ⟨e', m, h1, ⟨h', left, found, H', rfl, hp, hm⟩, m0⟩ := while_ok (c := T__law_mixed_1) (b := K__law_mixed_1) (fun m e => ∃ h left found, Hand h ∧ e = [.ln h, .sh (.lst xs), .ow (.lst left), .ow (.lst found)] ∧ (found ++ left).Perm xs ∧ left.length = m) (fun m e i => by
    obtain ⟨h, left, found, H, rfl, hp, rfl⟩ := i
    have hlen := hp.length_eq
    rw [List.length_append] at hlen
    by_cases c : 0 < left.length
    · left
      obtain ⟨d, h', e, H', d0, d1⟩ := draw_ok H (b := left.length) (by omega)
      obtain ⟨i, rfl⟩ : ∃ i : Nat, d = i := ⟨d.toNat, by omega⟩
      have hi : i < left.length := by omega
      have x := fPopAt_ok (List.getElem?_eq_getElem hi) (by omega)
      have y := fAppend_ok (xs := found) (d := left[i]) (by omega)
      have c' : (0 : Int) < left.length := by omega
      refine ⟨[.ln h, .sh (.lst xs), .ow (.lst left), .ow (.lst found)], [.ln h', .sh (.lst xs), .ow (.lst (left.eraseIdx i)), .ow (.lst (found ++ [left[i]]))], (left.eraseIdx i).length, ?_, ?_, ?_, h', left.eraseIdx i, found ++ [left[i]], H', rfl, ?_, rfl⟩
      · simp [T__law_mixed_1, c, c', run0, run1, sSeq, sNx, sBk, sCt, sEx, sRet, sRetN, sIf, sSet, setC, unbw, putC, Val.cell, sPar, unbws, putCs, sFor, sUnp, sStore, stTo, stD, sRaise, M.bind, M.ret, M.lift, mVar, mC, m2, m1, hold, look, cellD, esc, escs, looks, mTru, dTru, mB, mNot, mAnd, mOr, mBv, mAndV, mOrV, mIf, mChain, mNil, mCons, mTup, mLst, mCB, mPart, mSl, mMut, mMut0, ownD, isLst, relent, mGet2, mCall0, mCall1, outV, lentD, mSeq, gN, gsNil, gsCons, gT, mR1, mR2, asInts, mAny, mKeys, mLc, mLc2, mDc, mNewD, wipeE, back, fI, fAdd, fSub, fNeg, cAll, fC, fLt, fLe, fGt, fGe, fIx, fIxS, D.isDct, atI, ixN, fLen, lenD, fList, fTuple, seqD, lstD, fInt, fAbs, fAppend, fExtend, fIsi, tys, D.ty, isTab, fEq_int, fNe_int, fSl, oneBls, oneInts, fAll, fAny, dec_true, dec_false, fDiv_ok, fMod_ok, fPow_ok, fMulI_l, fMulI_r]
      · simp [K__law_mixed_1, e, x, y, run0, run1, sSeq, sNx, sBk, sCt, sEx, sRet, sRetN, sIf, sSet, setC, unbw, putC, Val.cell, sPar, unbws, putCs, sFor, sUnp, sStore, stTo, stD, sRaise, M.bind, M.ret, M.lift, mVar, mC, m2, m1, hold, look, cellD, esc, escs, looks, mTru, dTru, mB, mNot, mAnd, mOr, mBv, mAndV, mOrV, mIf, mChain, mNil, mCons, mTup, mLst, mCB, mPart, mSl, mMut, mMut0, ownD, isLst, relent, mGet2, mCall0, mCall1, outV, lentD, mSeq, gN, gsNil, gsCons, gT, mR1, mR2, asInts, mAny, mKeys, mLc, mLc2, mDc, mNewD, wipeE, back, fI, fAdd, fSub, fNeg, cAll, fC, fLt, fLe, fGt, fGe, D.isDct, fLen, lenD, fList, fTuple, seqD, lstD, fInt, fAbs, fExtend, fIsi, tys, D.ty, isTab, fEq_int, fNe_int, fSl, oneBls, oneInts, fAll, fAny, dec_true, dec_false, fDiv_ok, fMod_ok, fPow_ok, fMulI_l, fMulI_r]
      · rw [List.length_eraseIdx_of_lt hi]; omega
      · refine List.Perm.trans ?_ hp
        rw [List.append_assoc]
        refine List.Perm.append_left _ ?_
        exact perm_erase hi
    · right
      have z : left = [] := List.length_eq_zero_iff.mp (by omega)
      subst z
      exact ⟨[.ln h, .sh (.lst xs), .ow (.lst []), .ow (.lst found)], by simp [T__law_mixed_1, run0, run1, sSeq, sNx, sBk, sCt, sEx, sRet, sRetN, sIf, sSet, setC, unbw, putC, Val.cell, sPar, unbws, putCs, sFor, sUnp, sStore, stTo, stD, sRaise, M.bind, M.ret, M.lift, mVar, mC, m2, m1, hold, look, cellD, esc, escs, looks, mTru, dTru, mB, mNot, mAnd, mOr, mBv, mAndV, mOrV, mIf, mChain, mNil, mCons, mTup, mLst, mCB, mPart, mSl, mMut, mMut0, ownD, isLst, relent, mGet2, mCall0, mCall1, outV, lentD, mSeq, gN, gsNil, gsCons, gT, mR1, mR2, asInts, mAny, mKeys, mLc, mLc2, mDc, mNewD, wipeE, back, fI, fAdd, fSub, fNeg, cAll, fC, fLt, fLe, fGt, fGe, fIx, fIxS, D.isDct, atI, ixN, fLen, lenD, fList, fTuple, seqD, lstD, fInt, fAbs, fAppend, fExtend, fIsi, tys, D.ty, isTab, fEq_int, fNe_int, fSl, oneBls, oneInts, fAll, fAny, dec_true, dec_false, fDiv_ok, fMod_ok, fPow_ok, fMulI_l, fMulI_r], h, [], found, H, rfl, hp, rfl⟩) 1000000000 xs.length [.ln h, .sh (.lst xs), .ow (.lst xs), .ow (.lst [])] ⟨h, xs, [], H, rfl, List.Perm.refl _, rfl⟩ (by omega)
  subst m0
  have z : left = [] := List.length_eq_zero_iff.mp hm
  subst z
  rw [List.append_nil] at hp
  have hL : L__law_mixed_1 [.ln h, .sh (.lst xs), .ow (.lst xs), .ow (.lst [])] = _ := h1
  exact ⟨found, h', by simp [F__law_mixed, B__law_mixed, hL, run0, run1, sSeq, sNx, sBk, sCt, sEx, sRet, sRetN, sIf, sSet, setC, unbw, putC, Val.cell, sPar, unbws, putCs, sFor, sUnp, sStore, stTo, stD, sRaise, M.bind, M.ret, M.lift, mVar, mC, m2, m1, hold, look, cellD, esc, escs, looks, mTru, dTru, mB, mNot, mAnd, mOr, mBv, mAndV, mOrV, mIf, mChain, mNil, mCons, mTup, mLst, mCB, mPart, mSl, mMut, mMut0, ownD, isLst, relent, mGet2, mCall0, mCall1, outV, lentD, mSeq, gN, gsNil, gsCons, gT, mR1, mR2, asInts, mAny, mKeys, mLc, mLc2, mDc, mNewD, wipeE, back, fI, fAdd, fSub, fNeg, cAll, fC, fLt, fLe, fGt, fGe, fIx, fIxS, D.isDct, atI, ixN, fLen, lenD, fList, fTuple, seqD, lstD, fInt, fAbs, fAppend, fExtend, fIsi, tys, D.ty, isTab, fEq_int, fNe_int, fSl, oneBls, oneInts, fAll, fAny, dec_true, dec_false, fDiv_ok, fMod_ok, fPow_ok, fMulI_l, fMulI_r], H', hp⟩
end Lw

namespace Lw
open PySem PySem.Spec PyProof.Rows L2 VS
theorem cut_take {xs : List D} {n : Nat} : cutD xs none (some (n : Int)) = xs.take n := by
  unfold VS.cutD HT.sIx
  simp only [List.drop_zero]
  rw [if_neg (by omega), Nat.sub_zero]
  show xs.take (min (n : Int).toNat xs.length) = _
  rw [show (n : Int).toNat = n by omega, ← List.take_eq_take_min]
theorem law_hand_ok {ns : List Int} (hl : ns.length ≤ 63) : ∃ h, F__law_hand [.fl (ns.map .int)] = .ok (.ow h) .non ∧ Hand h := by
  have q : C__law_hand_1 [.sh (.fl (ns.map .int)), .un, .un] = .ok (.ow (.lst ((ns.map fun i => if i < 0 then -i else i).map .int))) [.sh (.fl (ns.map .int)), .un, .un] := by
    have ei : ((ns.map fun i => if i < 0 then -i else i).map D.int) = (ns.map D.int).map fun d => match d with
        | .int i => .int (if i < 0 then -i else i)
        | d => d := by
      rw [List.map_map, List.map_map]; rfl
    have ec : cutD (ns.map D.int) none (some 63) = ns.map D.int := by
      have := cut_take (xs := ns.map D.int) (n := 63)
      rw [show (63 : Int) = ((63 : Nat) : Int) from rfl, this]
      exact List.take_of_length_le (by rw [List.length_map]; exact hl)
    rw [ei]
    refine mLc_map _ (e0 := [.sh (.fl (ns.map .int)), .un, .un]) (ew := [.sh (.fl (ns.map .int)), .un, .un]) (by simp [ec, run0, run1, sSeq, sNx, sBk, sCt, sEx, sRet, sRetN, sIf, sSet, setC, unbw, putC, Val.cell, sPar, unbws, putCs, sFor, sUnp, sStore, stTo, stD, sRaise, M.bind, M.ret, M.lift, mVar, mC, m2, m1, hold, look, cellD, esc, escs, looks, mTru, dTru, mB, mNot, mAnd, mOr, mBv, mAndV, mOrV, mIf, mChain, mNil, mCons, mTup, mLst, mCB, mPart, mSl, mMut, mMut0, ownD, isLst, relent, mGet2, mCall0, mCall1, outV, lentD, mSeq, gN, gsNil, gsCons, gT, mR1, mR2, asInts, mAny, mKeys, mLc, mLc2, mDc, mNewD, wipeE, back, fI, fAdd, fSub, fNeg, cAll, fC, fLt, fLe, fGt, fGe, fIx, fIxS, D.isDct, atI, ixN, fLen, lenD, fList, fTuple, seqD, lstD, fInt, fAbs, fAppend, fExtend, fIsi, tys, D.ty, isTab, fEq_int, fNe_int, fSl, oneBls, oneInts, fAll, fAny, dec_true, dec_false, fDiv_ok, fMod_ok, fPow_ok, fMulI_l, fMulI_r]) (by simp [run0, run1, sSeq, sNx, sBk, sCt, sEx, sRet, sRetN, sIf, sSet, setC, unbw, putC, Val.cell, sPar, unbws, putCs, sFor, sUnp, sStore, stTo, stD, sRaise, M.bind, M.ret, M.lift, mVar, mC, m2, m1, hold, look, cellD, esc, escs, looks, mTru, dTru, mB, mNot, mAnd, mOr, mBv, mAndV, mOrV, mIf, mChain, mNil, mCons, mTup, mLst, mCB, mPart, mSl, mMut, mMut0, ownD, isLst, relent, mGet2, mCall0, mCall1, outV, lentD, mSeq, gN, gsNil, gsCons, gT, mR1, mR2, asInts, mAny, mKeys, mLc, mLc2, mDc, mNewD, wipeE, back, fI, fAdd, fSub, fNeg, cAll, fC, fLt, fLe, fGt, fGe, fIx, fIxS, D.isDct, atI, ixN, fLen, lenD, fList, fTuple, seqD, lstD, fInt, fAbs, fAppend, fExtend, fIsi, tys, D.ty, isTab, fEq_int, fNe_int, fSl, oneBls, oneInts, fAll, fAny, dec_true, dec_false, fDiv_ok, fMod_ok, fPow_ok, fMulI_l, fMulI_r]) (by simp [run0, run1, sSeq, sNx, sBk, sCt, sEx, sRet, sRetN, sIf, sSet, setC, unbw, putC, Val.cell, sPar, unbws, putCs, sFor, sUnp, sStore, stTo, stD, sRaise, M.bind, M.ret, M.lift, mVar, mC, m2, m1, hold, look, cellD, esc, escs, looks, mTru, dTru, mB, mNot, mAnd, mOr, mBv, mAndV, mOrV, mIf, mChain, mNil, mCons, mTup, mLst, mCB, mPart, mSl, mMut, mMut0, ownD, isLst, relent, mGet2, mCall0, mCall1, outV, lentD, mSeq, gN, gsNil, gsCons, gT, mR1, mR2, asInts, mAny, mKeys, mLc, mLc2, mDc, mNewD, wipeE, back, fI, fAdd, fSub, fNeg, cAll, fC, fLt, fLe, fGt, fGe, fIx, fIxS, D.isDct, atI, ixN, fLen, lenD, fList, fTuple, seqD, lstD, fInt, fAbs, fAppend, fExtend, fIsi, tys, D.ty, isTab, fEq_int, fNe_int, fSl, oneBls, oneInts, fAll, fAny, dec_true, dec_false, fDiv_ok, fMod_ok, fPow_ok, fMulI_l, fMulI_r]) (fun d hd => ?_) (by simp; omega)
    obtain ⟨i, _, rfl⟩ := List.mem_map.mp hd
    exact ⟨[.sh (.fl (ns.map .int)), .un, .sh (.int i)], .sh (.int (if i < 0 then -i else i)), [.sh (.fl (ns.map .int)), .un, .sh (.int i)], [.sh (.fl (ns.map .int)), .un, .sh (.int i)], by simp [run0, run1, sSeq, sNx, sBk, sCt, sEx, sRet, sRetN, sIf, sSet, setC, unbw, putC, Val.cell, sPar, unbws, putCs, sFor, sUnp, sStore, stTo, stD, sRaise, M.bind, M.ret, M.lift, mVar, mC, m2, m1, hold, look, cellD, esc, escs, looks, mTru, dTru, mB, mNot, mAnd, mOr, mBv, mAndV, mOrV, mIf, mChain, mNil, mCons, mTup, mLst, mCB, mPart, mSl, mMut, mMut0, ownD, isLst, relent, mGet2, mCall0, mCall1, outV, lentD, mSeq, gN, gsNil, gsCons, gT, mR1, mR2, asInts, mAny, mKeys, mLc, mLc2, mDc, mNewD, wipeE, back, fI, fAdd, fSub, fNeg, cAll, fC, fLt, fLe, fGt, fGe, fIx, fIxS, D.isDct, atI, ixN, fLen, lenD, fList, fTuple, seqD, lstD, fInt, fAbs, fAppend, fExtend, fIsi, tys, D.ty, isTab, fEq_int, fNe_int, fSl, oneBls, oneInts, fAll, fAny, dec_true, dec_false, fDiv_ok, fMod_ok, fPow_ok, fMulI_l, fMulI_r], by simp [E__law_hand_1, run0, run1, sSeq, sNx, sBk, sCt, sEx, sRet, sRetN, sIf, sSet, setC, unbw, putC, Val.cell, sPar, unbws, putCs, sFor, sUnp, sStore, stTo, stD, sRaise, M.bind, M.ret, M.lift, mVar, mC, m2, m1, hold, look, cellD, esc, escs, looks, mTru, dTru, mB, mNot, mAnd, mOr, mBv, mAndV, mOrV, mIf, mChain, mNil, mCons, mTup, mLst, mCB, mPart, mSl, mMut, mMut0, ownD, isLst, relent, mGet2, mCall0, mCall1, outV, lentD, mSeq, gN, gsNil, gsCons, gT, mR1, mR2, asInts, mAny, mKeys, mLc, mLc2, mDc, mNewD, wipeE, back, fI, fAdd, fSub, fNeg, cAll, fC, fLt, fLe, fGt, fGe, fIx, fIxS, D.isDct, atI, ixN, fLen, lenD, fList, fTuple, seqD, lstD, fInt, fAbs, fAppend, fExtend, fIsi, tys, D.ty, isTab, fEq_int, fNe_int, fSl, oneBls, oneInts, fAll, fAny, dec_true, dec_false, fDiv_ok, fMod_ok, fPow_ok, fMulI_l, fMulI_r], by simp [run0, run1, sSeq, sNx, sBk, sCt, sEx, sRet, sRetN, sIf, sSet, setC, unbw, putC, Val.cell, sPar, unbws, putCs, sFor, sUnp, sStore, stTo, stD, sRaise, M.bind, M.ret, M.lift, mVar, mC, m2, m1, hold, look, cellD, esc, escs, looks, mTru, dTru, mB, mNot, mAnd, mOr, mBv, mAndV, mOrV, mIf, mChain, mNil, mCons, mTup, mLst, mCB, mPart, mSl, mMut, mMut0, ownD, isLst, relent, mGet2, mCall0, mCall1, outV, lentD, mSeq, gN, gsNil, gsCons, gT, mR1, mR2, asInts, mAny, mKeys, mLc, mLc2, mDc, mNewD, wipeE, back, fI, fAdd, fSub, fNeg, cAll, fC, fLt, fLe, fGt, fGe, fIx, fIxS, D.isDct, atI, ixN, fLen, lenD, fList, fTuple, seqD, lstD, fInt, fAbs, fAppend, fExtend, fIsi, tys, D.ty, isTab, fEq_int, fNe_int, fSl, oneBls, oneInts, fAll, fAny, dec_true, dec_false, fDiv_ok, fMod_ok, fPow_ok, fMulI_l, fMulI_r], by simp [run0, run1, sSeq, sNx, sBk, sCt, sEx, sRet, sRetN, sIf, sSet, setC, unbw, putC, Val.cell, sPar, unbws, putCs, sFor, sUnp, sStore, stTo, stD, sRaise, M.bind, M.ret, M.lift, mVar, mC, m2, m1, hold, look, cellD, esc, escs, looks, mTru, dTru, mB, mNot, mAnd, mOr, mBv, mAndV, mOrV, mIf, mChain, mNil, mCons, mTup, mLst, mCB, mPart, mSl, mMut, mMut0, ownD, isLst, relent, mGet2, mCall0, mCall1, outV, lentD, mSeq, gN, gsNil, gsCons, gT, mR1, mR2, asInts, mAny, mKeys, mLc, mLc2, mDc, mNewD, wipeE, back, fI, fAdd, fSub, fNeg, cAll, fC, fLt, fLe, fGt, fGe, fIx, fIxS, D.isDct, atI, ixN, fLen, lenD, fList, fTuple, seqD, lstD, fInt, fAbs, fAppend, fExtend, fIsi, tys, D.ty, isTab, fEq_int, fNe_int, fSl, oneBls, oneInts, fAll, fAny, dec_true, dec_false, fDiv_ok, fMod_ok, fPow_ok, fMulI_l, fMulI_r]⟩
  generalize hc : (ns.map fun i => if i < 0 then -i else i) = cells at q
  refine ⟨_, by simp [F__law_hand, B__law_hand, q, run0, run1, sSeq, sNx, sBk, sCt, sEx, sRet, sRetN, sIf, sSet, setC, unbw, putC, Val.cell, sPar, unbws, putCs, sFor, sUnp, sStore, stTo, stD, sRaise, M.bind, M.ret, M.lift, mVar, mC, m2, m1, hold, look, cellD, esc, escs, looks, mTru, dTru, mB, mNot, mAnd, mOr, mBv, mAndV, mOrV, mIf, mChain, mNil, mCons, mTup, mLst, mCB, mPart, mSl, mMut, mMut0, ownD, isLst, relent, mGet2, mCall0, mCall1, outV, lentD, mSeq, gN, gsNil, gsCons, gT, mR1, mR2, asInts, mAny, mKeys, mLc, mLc2, mDc, mNewD, wipeE, back, fI, fAdd, fSub, fNeg, cAll, fC, fLt, fLe, fGt, fGe, fIx, fIxS, D.isDct, atI, ixN, fLen, lenD, fList, fTuple, seqD, lstD, fInt, fAbs, fAppend, fExtend, fIsi, tys, D.ty, isTab, fEq_int, fNe_int, fSl, oneBls, oneInts, fAll, fAny, dec_true, dec_false, fDiv_ok, fMod_ok, fPow_ok, fMulI_l, fMulI_r]; rfl, ⟨cells, 0, 0, _, 0, rfl, by omega⟩⟩
/-! ### crowds of the law -/
def grid (n : Nat) : List (Int × Int) := (List.range n).flatMap fun x : Nat => (List.range n).map fun y : Nat => ((x : Int) - (n : Int) / 2, (y : Int) - (n : Int) / 2)
theorem grid_nd (n : Nat) : (grid n).Nodup := by
  unfold grid
  rw [List.nodup_iff_pairwise_ne, List.pairwise_flatMap]
  refine ⟨fun x _ => ?_, ?_⟩
  · rw [List.pairwise_map]
    exact List.nodup_range.imp fun h z => h (by simp at z; omega)
  · refine List.nodup_range.imp fun {a b} h p hp q hq z => ?_
    obtain ⟨y, _, rfl⟩ := List.mem_map.mp hp
    obtain ⟨y', _, rfl⟩ := List.mem_map.mp hq
    simp at z
    omega
theorem grid_near {n : Nat} {p : Int × Int} (h : p ∈ grid n) : (-(n : Int) ≤ p.1 ∧ p.1 ≤ n) ∧ -(n : Int) ≤ p.2 ∧ p.2 ≤ n := by
  unfold grid at h
  obtain ⟨x, hx, h⟩ := List.mem_flatMap.mp h
  obtain ⟨y, hy, rfl⟩ := List.mem_map.mp h
  have := List.mem_range.mp hx
  have := List.mem_range.mp hy
  show (-(n : Int) ≤ (x : Int) - (n : Int) / 2 ∧ (x : Int) - (n : Int) / 2 ≤ n) ∧ -(n : Int) ≤ (y : Int) - (n : Int) / 2 ∧ (y : Int) - (n : Int) / 2 ≤ n
  omega
theorem grid_len (n : Nat) : (grid n).length = n * n := by
  have e1 : ∀ l : List Nat, (l.flatMap fun x : Nat => (List.range n).map fun y : Nat => ((x : Int) - (n : Int) / 2, (y : Int) - (n : Int) / 2)).length = l.length * n := by
    intro l
    induction l with
    | nil => simp
    | cons a l ih => rw [List.flatMap_cons, List.length_append, ih, List.length_cons, Nat.succ_mul]; simp; omega
  unfold grid
  rw [e1, List.length_range]
def unD : D → Int × Int
  | .tup [.int x, .int y] => (x, y)
  | _ => (0, 0)
theorem perm_dots {ys : List D} {g : List (Int × Int)} (h : ys.Perm (g.map dotD)) : ∃ c : List (Int × Int), ys = c.map dotD ∧ c.Perm g := by
  refine ⟨ys.map unD, ?_, ?_⟩
  · rw [List.map_map]
    rw [List.map_congr_left (g := id) fun y hy => ?_, List.map_id]
    obtain ⟨p, _, rfl⟩ := List.mem_map.mp (h.mem_iff.mp hy)
    rfl
  · have := h.map unD
    rw [List.map_map] at this
    have e : List.map (unD ∘ dotD) g = g := (List.map_congr_left (g := id) fun _ _ => rfl).trans (List.map_id g)
    rw [e] at this
    exact this
def row (n : Nat) (x : Int) : List (Int × Int) := (List.range n).map fun y : Nat => (x - (n : Int) / 2, (y : Int) - (n : Int) / 2)
theorem crowd_row {n : Nat} (hn : n ≤ 1000) (x : Int) (c0 c1 c3 : Cell) : C__law_crowd_1 [c0, c1, .sh (.int n), c3, .sh (.int x), .un] = .ok (.ow (.lst ((row n x).map dotD))) [c0, c1, .sh (.int n), c3, .sh (.int x), .un] := by
  have ei : (row n x).map dotD = (intsD 0 n).map fun d => match d with
      | .int y => dotD (x - (n : Int) / 2, y - (n : Int) / 2)
      | d => d := by
    unfold row intsD
    rw [List.map_map, List.map_map]
    refine List.map_congr_left fun i _ => ?_
    show dotD _ = dotD (_, (0 + (i : Int)) - (n : Int) / 2)
    rw [Int.zero_add]
  rw [ei]
  have hr := mR1_ok (n := mCons (mVar 2) mNil) (e := [c0, c1, .sh (.int n), c3, .sh (.int x), .un]) (j := (n : Int)) (e' := [c0, c1, .sh (.int n), c3, .sh (.int x), .un]) (by simp [run0, run1, sSeq, sNx, sBk, sCt, sEx, sRet, sRetN, sIf, sSet, setC, unbw, putC, Val.cell, sPar, unbws, putCs, sFor, sUnp, sStore, stTo, stD, sRaise, M.bind, M.ret, M.lift, mVar, mC, m2, m1, hold, look, cellD, esc, escs, looks, mTru, dTru, mB, mNot, mAnd, mOr, mBv, mAndV, mOrV, mIf, mChain, mNil, mCons, mTup, mLst, mCB, mPart, mSl, mMut, mMut0, ownD, isLst, relent, mGet2, mCall0, mCall1, outV, lentD, mSeq, gN, gsNil, gsCons, gT, mR1, mR2, asInts, mAny, mKeys, mLc, mLc2, mDc, mNewD, wipeE, back, fI, fAdd, fSub, fNeg, cAll, fC, fLt, fLe, fGt, fGe, fIx, fIxS, D.isDct, atI, ixN, fLen, lenD, fList, fTuple, seqD, lstD, fInt, fAbs, fAppend, fExtend, fIsi, tys, D.ty, isTab, fEq_int, fNe_int, fSl, oneBls, oneInts, fAll, fAny, dec_true, dec_false, fDiv_ok, fMod_ok, fPow_ok, fMulI_l, fMulI_r]) (by omega)
  rw [show (n : Int).toNat = n by omega] at hr
  refine mLc_map _ (e0 := [c0, c1, .sh (.int n), c3, .sh (.int x), .un]) (ew := [c0, c1, .sh (.int n), c3, .sh (.int x), .un]) hr (by simp [run0, run1, sSeq, sNx, sBk, sCt, sEx, sRet, sRetN, sIf, sSet, setC, unbw, putC, Val.cell, sPar, unbws, putCs, sFor, sUnp, sStore, stTo, stD, sRaise, M.bind, M.ret, M.lift, mVar, mC, m2, m1, hold, look, cellD, esc, escs, looks, mTru, dTru, mB, mNot, mAnd, mOr, mBv, mAndV, mOrV, mIf, mChain, mNil, mCons, mTup, mLst, mCB, mPart, mSl, mMut, mMut0, ownD, isLst, relent, mGet2, mCall0, mCall1, outV, lentD, mSeq, gN, gsNil, gsCons, gT, mR1, mR2, asInts, mAny, mKeys, mLc, mLc2, mDc, mNewD, wipeE, back, fI, fAdd, fSub, fNeg, cAll, fC, fLt, fLe, fGt, fGe, fIx, fIxS, D.isDct, atI, ixN, fLen, lenD, fList, fTuple, seqD, lstD, fInt, fAbs, fAppend, fExtend, fIsi, tys, D.ty, isTab, fEq_int, fNe_int, fSl, oneBls, oneInts, fAll, fAny, dec_true, dec_false, fDiv_ok, fMod_ok, fPow_ok, fMulI_l, fMulI_r]) (by simp [run0, run1, sSeq, sNx, sBk, sCt, sEx, sRet, sRetN, sIf, sSet, setC, unbw, putC, Val.cell, sPar, unbws, putCs, sFor, sUnp, sStore, stTo, stD, sRaise, M.bind, M.ret, M.lift, mVar, mC, m2, m1, hold, look, cellD, esc, escs, looks, mTru, dTru, mB, mNot, mAnd, mOr, mBv, mAndV, mOrV, mIf, mChain, mNil, mCons, mTup, mLst, mCB, mPart, mSl, mMut, mMut0, ownD, isLst, relent, mGet2, mCall0, mCall1, outV, lentD, mSeq, gN, gsNil, gsCons, gT, mR1, mR2, asInts, mAny, mKeys, mLc, mLc2, mDc, mNewD, wipeE, back, fI, fAdd, fSub, fNeg, cAll, fC, fLt, fLe, fGt, fGe, fIx, fIxS, D.isDct, atI, ixN, fLen, lenD, fList, fTuple, seqD, lstD, fInt, fAbs, fAppend, fExtend, fIsi, tys, D.ty, isTab, fEq_int, fNe_int, fSl, oneBls, oneInts, fAll, fAny, dec_true, dec_false, fDiv_ok, fMod_ok, fPow_ok, fMulI_l, fMulI_r]) (fun d hd => ?_) (by unfold intsD; simp; omega)
  unfold intsD at hd
  obtain ⟨i, _, rfl⟩ := List.mem_map.mp hd
  exact ⟨[c0, c1, .sh (.int n), c3, .sh (.int x), .sh (.int (0 + (i : Int)))], .sh (dotD (x - (n : Int) / 2, 0 + (i : Int) - (n : Int) / 2)), [c0, c1, .sh (.int n), c3, .sh (.int x), .sh (.int (0 + (i : Int)))], [c0, c1, .sh (.int n), c3, .sh (.int x), .sh (.int (0 + (i : Int)))], by simp [run0, run1, sSeq, sNx, sBk, sCt, sEx, sRet, sRetN, sIf, sSet, setC, unbw, putC, Val.cell, sPar, unbws, putCs, sFor, sUnp, sStore, stTo, stD, sRaise, M.bind, M.ret, M.lift, mVar, mC, m2, m1, hold, look, cellD, esc, escs, looks, mTru, dTru, mB, mNot, mAnd, mOr, mBv, mAndV, mOrV, mIf, mChain, mNil, mCons, mTup, mLst, mCB, mPart, mSl, mMut, mMut0, ownD, isLst, relent, mGet2, mCall0, mCall1, outV, lentD, mSeq, gN, gsNil, gsCons, gT, mR1, mR2, asInts, mAny, mKeys, mLc, mLc2, mDc, mNewD, wipeE, back, fI, fAdd, fSub, fNeg, cAll, fC, fLt, fLe, fGt, fGe, fIx, fIxS, D.isDct, atI, ixN, fLen, lenD, fList, fTuple, seqD, lstD, fInt, fAbs, fAppend, fExtend, fIsi, tys, D.ty, isTab, fEq_int, fNe_int, fSl, oneBls, oneInts, fAll, fAny, dec_true, dec_false, fDiv_ok, fMod_ok, fPow_ok, fMulI_l, fMulI_r], by simp [E__law_crowd_1, dotD, run0, run1, sSeq, sNx, sBk, sCt, sEx, sRet, sRetN, sIf, sSet, setC, unbw, putC, Val.cell, sPar, unbws, putCs, sFor, sUnp, sStore, stTo, stD, sRaise, M.bind, M.ret, M.lift, mVar, mC, m2, m1, hold, look, cellD, esc, escs, looks, mTru, dTru, mB, mNot, mAnd, mOr, mBv, mAndV, mOrV, mIf, mChain, mNil, mCons, mTup, mLst, mCB, mPart, mSl, mMut, mMut0, ownD, isLst, relent, mGet2, mCall0, mCall1, outV, lentD, mSeq, gN, gsNil, gsCons, gT, mR1, mR2, asInts, mAny, mKeys, mLc, mLc2, mDc, mNewD, wipeE, back, fI, fAdd, fSub, fNeg, cAll, fC, fLt, fLe, fGt, fGe, fIx, fIxS, D.isDct, atI, ixN, fLen, lenD, fList, fTuple, seqD, lstD, fInt, fAbs, fAppend, fExtend, fIsi, tys, D.ty, isTab, fEq_int, fNe_int, fSl, oneBls, oneInts, fAll, fAny, dec_true, dec_false, fDiv_ok, fMod_ok, fPow_ok, fMulI_l, fMulI_r], by simp [run0, run1, sSeq, sNx, sBk, sCt, sEx, sRet, sRetN, sIf, sSet, setC, unbw, putC, Val.cell, sPar, unbws, putCs, sFor, sUnp, sStore, stTo, stD, sRaise, M.bind, M.ret, M.lift, mVar, mC, m2, m1, hold, look, cellD, esc, escs, looks, mTru, dTru, mB, mNot, mAnd, mOr, mBv, mAndV, mOrV, mIf, mChain, mNil, mCons, mTup, mLst, mCB, mPart, mSl, mMut, mMut0, ownD, isLst, relent, mGet2, mCall0, mCall1, outV, lentD, mSeq, gN, gsNil, gsCons, gT, mR1, mR2, asInts, mAny, mKeys, mLc, mLc2, mDc, mNewD, wipeE, back, fI, fAdd, fSub, fNeg, cAll, fC, fLt, fLe, fGt, fGe, fIx, fIxS, D.isDct, atI, ixN, fLen, lenD, fList, fTuple, seqD, lstD, fInt, fAbs, fAppend, fExtend, fIsi, tys, D.ty, isTab, fEq_int, fNe_int, fSl, oneBls, oneInts, fAll, fAny, dec_true, dec_false, fDiv_ok, fMod_ok, fPow_ok, fMulI_l, fMulI_r], by simp [run0, run1, sSeq, sNx, sBk, sCt, sEx, sRet, sRetN, sIf, sSet, setC, unbw, putC, Val.cell, sPar, unbws, putCs, sFor, sUnp, sStore, stTo, stD, sRaise, M.bind, M.ret, M.lift, mVar, mC, m2, m1, hold, look, cellD, esc, escs, looks, mTru, dTru, mB, mNot, mAnd, mOr, mBv, mAndV, mOrV, mIf, mChain, mNil, mCons, mTup, mLst, mCB, mPart, mSl, mMut, mMut0, ownD, isLst, relent, mGet2, mCall0, mCall1, outV, lentD, mSeq, gN, gsNil, gsCons, gT, mR1, mR2, asInts, mAny, mKeys, mLc, mLc2, mDc, mNewD, wipeE, back, fI, fAdd, fSub, fNeg, cAll, fC, fLt, fLe, fGt, fGe, fIx, fIxS, D.isDct, atI, ixN, fLen, lenD, fList, fTuple, seqD, lstD, fInt, fAbs, fAppend, fExtend, fIsi, tys, D.ty, isTab, fEq_int, fNe_int, fSl, oneBls, oneInts, fAll, fAny, dec_true, dec_false, fDiv_ok, fMod_ok, fPow_ok, fMulI_l, fMulI_r]⟩
theorem crowd_ok {h : D} {many n : Nat} (H : Hand h) (hn : n ≤ 100) (hm : many ≤ n * n) : ∃ (c : List (Int × Int)) (h' : D), F__law_crowd [h, .int many, .int n] = .ok (.sh (crowdD c)) h' ∧ Hand h' ∧ c.length = many ∧ c.Nodup ∧ ∀ p ∈ c, (-(n : Int) ≤ p.1 ∧ p.1 ≤ n) ∧ -(n : Int) ≤ p.2 ∧ p.2 ≤ n := by
  have hsq : n * n ≤ 10000 := Nat.mul_le_mul hn hn
  obtain ⟨e', h1, c4, a4, dn, rs, k1, k2, rfl⟩ := forL_ok (g := gN 4) (b := K__law_crowd_1) (fun ds e => ∃ c4, Cell.lo c4 ∧ ∃ dn rs : List Nat, List.range n = dn ++ rs ∧ ds = rs.map (fun i : Nat => D.int (0 + (i : Int))) ∧ e = [.ln h, .sh (.int many), .sh (.int n), .ow (.lst ((dn.flatMap fun i : Nat => row n i).map dotD)), c4, .un]) (fun d ds e i => by
    obtain ⟨c4, a4, dn, rs, h3, h4, rfl⟩ := i
    cases rs with
    | nil => cases h4
    | cons i rs =>
      rw [List.map_cons] at h4
      injection h4 with x y
      subst x
      subst y
      have q := crowd_row (n := n) (by omega) (0 + (i : Int)) (.ln h) (.sh (.int many)) (.ow (.lst ((dn.flatMap fun i : Nat => row n i).map dotD)))
      have hlen : ((dn.flatMap fun i : Nat => row n i).map dotD).length + ((row n (0 + (i : Int))).map dotD).length ≤ 1000000 := by
        have hd : dn.length + rs.length + 1 = n := by
          have := congrArg List.length h3
          rw [List.length_range, List.length_append, List.length_cons] at this
          omega
        have e1 : ∀ l : List Nat, (l.flatMap fun i : Nat => row n i).length = l.length * n := by
          intro l
          induction l with
          | nil => simp
          | cons a l ih => rw [List.flatMap_cons, List.length_append, ih, List.length_cons, Nat.succ_mul]; unfold row; simp; omega
        rw [List.length_map, e1, List.length_map]
        unfold row
        rw [List.length_map, List.length_range]
        have : dn.length * n ≤ 100 * 100 := Nat.mul_le_mul (by omega) hn
        omega
      refine ⟨[.ln h, .sh (.int many), .sh (.int n), .ow (.lst ((dn.flatMap fun i : Nat => row n i).map dotD)), .sh (.int (0 + (i : Int))), .un], _, ?_, ?_, .sh (.int (0 + (i : Int))), trivial, dn ++ [i], rs, by rw [h3, List.append_assoc]; rfl, rfl, rfl⟩
      · cases c4 <;> first | exact a4.elim | simp [run0, run1, sSeq, sNx, sBk, sCt, sEx, sRet, sRetN, sIf, sSet, setC, unbw, putC, Val.cell, sPar, unbws, putCs, sFor, sUnp, sStore, stTo, stD, sRaise, M.bind, M.ret, M.lift, mVar, mC, m2, m1, hold, look, cellD, esc, escs, looks, mTru, dTru, mB, mNot, mAnd, mOr, mBv, mAndV, mOrV, mIf, mChain, mNil, mCons, mTup, mLst, mCB, mPart, mSl, mMut, mMut0, ownD, isLst, relent, mGet2, mCall0, mCall1, outV, lentD, mSeq, gN, gsNil, gsCons, gT, mR1, mR2, asInts, mAny, mKeys, mLc, mLc2, mDc, mNewD, wipeE, back, fI, fAdd, fSub, fNeg, cAll, fC, fLt, fLe, fGt, fGe, fIx, fIxS, D.isDct, atI, ixN, fLen, lenD, fList, fTuple, seqD, lstD, fInt, fAbs, fAppend, fExtend, fIsi, tys, D.ty, isTab, fEq_int, fNe_int, fSl, oneBls, oneInts, fAll, fAny, dec_true, dec_false, fDiv_ok, fMod_ok, fPow_ok, fMulI_l, fMulI_r]
      · simp only [K__law_crowd_1, sEx, mMut, M.bind, mCons, mNil, M.ret, sNx, ownD, isLst, List.getElem?_cons_succ, List.getElem?_cons_zero, q, escs, esc, fExtend, if_pos hlen, relent, List.set_cons_succ, List.set_cons_zero, if_true]
        simp) (intsD 0 n) [.ln h, .sh (.int many), .sh (.int n), .ow (.lst []), .un, .un] ⟨.un, trivial, [], List.range n, rfl, rfl, rfl⟩
  have hr : rs = [] := by
    cases rs with
    | nil => rfl
    | cons _ _ => cases k2
  subst hr
  rw [List.append_nil] at k1
  have eg : (dn.flatMap fun i : Nat => row n i) = grid n := by rw [← k1]; rfl
  rw [eg] at h1
  have hi := mR1_ok (n := mCons (mVar 2) mNil) (e := [.ln h, .sh (.int many), .sh (.int n), .ow (.lst []), .un, .un]) (j := (n : Int)) (e' := [.ln h, .sh (.int many), .sh (.int n), .ow (.lst []), .un, .un]) (by simp [run0, run1, sSeq, sNx, sBk, sCt, sEx, sRet, sRetN, sIf, sSet, setC, unbw, putC, Val.cell, sPar, unbws, putCs, sFor, sUnp, sStore, stTo, stD, sRaise, M.bind, M.ret, M.lift, mVar, mC, m2, m1, hold, look, cellD, esc, escs, looks, mTru, dTru, mB, mNot, mAnd, mOr, mBv, mAndV, mOrV, mIf, mChain, mNil, mCons, mTup, mLst, mCB, mPart, mSl, mMut, mMut0, ownD, isLst, relent, mGet2, mCall0, mCall1, outV, lentD, mSeq, gN, gsNil, gsCons, gT, mR1, mR2, asInts, mAny, mKeys, mLc, mLc2, mDc, mNewD, wipeE, back, fI, fAdd, fSub, fNeg, cAll, fC, fLt, fLe, fGt, fGe, fIx, fIxS, D.isDct, atI, ixN, fLen, lenD, fList, fTuple, seqD, lstD, fInt, fAbs, fAppend, fExtend, fIsi, tys, D.ty, isTab, fEq_int, fNe_int, fSl, oneBls, oneInts, fAll, fAny, dec_true, dec_false, fDiv_ok, fMod_ok, fPow_ok, fMulI_l, fMulI_r]) (by omega)
  rw [show (n : Int).toNat = n by omega] at hi
  have hL : L__law_crowd_1 [.ln h, .sh (.int many), .sh (.int n), .ow (.lst []), .un, .un] = _ := sFor_ok hi h1
  obtain ⟨ys, h', m1, H', mp⟩ := mixed_ok (xs := (grid n).map dotD) H (by rw [List.length_map, grid_len]; omega)
  obtain ⟨c, rfl, cp⟩ := perm_dots mp
  have cl : c.length = n * n := by rw [cp.length_eq, grid_len]
  refine ⟨c.take many, h', ?_, H', by rw [List.length_take, cl]; omega, ((cp.nodup_iff).mpr (grid_nd n)).sublist (List.take_sublist _ _), fun p hp => grid_near (cp.mem_iff.mp (List.mem_of_mem_take hp))⟩
  have ct := cut_take (xs := c.map dotD) (n := many)
  simp [F__law_crowd, B__law_crowd, hL, m1, ct, crowdD, List.map_take, run0, run1, sSeq, sNx, sBk, sCt, sEx, sRet, sRetN, sIf, sSet, setC, unbw, putC, Val.cell, sPar, unbws, putCs, sFor, sUnp, sStore, stTo, stD, sRaise, M.bind, M.ret, M.lift, mVar, mC, m2, m1, hold, look, cellD, esc, escs, looks, mTru, dTru, mB, mNot, mAnd, mOr, mBv, mAndV, mOrV, mIf, mChain, mNil, mCons, mTup, mLst, mCB, mPart, mSl, mMut, mMut0, ownD, isLst, relent, mGet2, mCall0, mCall1, outV, lentD, mSeq, gN, gsNil, gsCons, gT, mR1, mR2, asInts, mAny, mKeys, mLc, mLc2, mDc, mNewD, wipeE, back, fI, fAdd, fSub, fNeg, cAll, fC, fLt, fLe, fGt, fGe, fIx, fIxS, D.isDct, atI, ixN, fLen, lenD, fList, fTuple, seqD, lstD, fInt, fAbs, fAppend, fExtend, fIsi, tys, D.ty, isTab, fEq_int, fNe_int, fSl, oneBls, oneInts, fAll, fAny, dec_true, dec_false, fDiv_ok, fMod_ok, fPow_ok, fMulI_l, fMulI_r]
end Lw

namespace Lw
open PySem PySem.Spec PyProof.Rows L2 VS
theorem far_small {p q : Int × Int} (hp : nearW p) (hq : nearW q) : (far p q).natAbs < 10 ^ 60 := by
  unfold nearW at hp hq
  have sq : ∀ x : Int, x.natAbs ≤ 200000 → (x * x).natAbs ≤ 200000 * 200000 := fun x h => by
    rw [Int.natAbs_mul]
    exact Nat.mul_le_mul h h
  have a := sq (q.1 - p.1) (by omega)
  have b := sq (q.2 - p.2) (by omega)
  have e : (10 : Nat) ^ 60 = 1000000000000000000000000000000000000000000000000000000000000 := by decide
  unfold far
  rw [e]
  omega
theorem put_all {P : Int × Int → Prop} {l : List (Int × Int)} {k v : Int} (h : ∀ p ∈ l, P p) (hk : P (k, v)) : ∀ p ∈ putI l k v, P p := by
  intro p hp
  unfold putI at hp
  split at hp
  · obtain ⟨q, hq, rfl⟩ := List.mem_map.mp hp
    split
    · rename_i e; rw [e]; exact hk
    · exact h q hq
  · rcases List.mem_append.mp hp with hp | hp
    · exact h p hp
    · rw [List.mem_singleton.mp hp]; exact hk
theorem get_in {l : List (Int × Int)} {k v : Int} (h : getI l k = some v) : ∃ p ∈ l, p.2 = v := by
  unfold getI at h
  cases q : l.find? (fun p => decide (p.1 = k)) with
  | none => rw [q] at h; cases h
  | some p => rw [q] at h; cases h; exact ⟨p, List.mem_of_find?_eq_some q, rfl⟩
theorem bumps_small : ∀ (ks : List Int) (l : List (Int × Int)) (n : Int), (∀ k ∈ ks, k.natAbs < 10 ^ 60) → 0 ≤ n → (∀ p ∈ l, p.1.natAbs < 10 ^ 60 ∧ 0 ≤ p.2 ∧ p.2 ≤ n) → ∀ p ∈ ks.foldl bump l, p.1.natAbs < 10 ^ 60 ∧ 0 ≤ p.2 ∧ p.2 ≤ n + ks.length
  | [], l, n, _, _, h => fun p hp => by have := h p hp; simp; exact this
  | k :: ks, l, n, hk, hn, h => fun p hp => by
    have hv : 0 ≤ (getI l k).getD 0 ∧ (getI l k).getD 0 ≤ n := by
      cases q : getI l k with
      | none => exact ⟨Int.le_refl _, hn⟩
      | some v =>
        obtain ⟨p, hp, rfl⟩ := get_in q
        exact (h p hp).2
    have := bumps_small ks (bump l k) (n + 1) (fun x m => hk x (List.mem_cons_of_mem _ m)) (by omega) (put_all (fun p m => ⟨(h p m).1, (h p m).2.1, by have := (h p m).2.2; omega⟩) ⟨hk k List.mem_cons_self, by show 0 ≤ _ + 1; omega, by show _ + 1 ≤ n + 1; omega⟩) p hp
    refine ⟨this.1, this.2.1, ?_⟩
    rw [List.length_cons]
    have := this.2.2
    omega
theorem counts_small {c : List (Int × Int)} (hc : c.length ≤ 12) (hn : ∀ p ∈ c, nearW p) : ∀ p ∈ counts c, p.1.natAbs < 10 ^ 60 ∧ 0 ≤ p.2 ∧ p.2 ≤ 1000 := by
  intro p hp
  have := bumps_small (farsOf c) [] 0 (fun k hk => by
    unfold farsOf at hk
    obtain ⟨lot, _, rfl⟩ := List.mem_map.mp hk
    exact far_small (getD_near hn _) (getD_near hn _)) (Int.le_refl _) (fun p h => (nomatch h)) p hp
  have := fars_len hc
  omega
theorem nice_pair {p : Int × Int} (h1 : p.1.natAbs < 10 ^ 60) (h2 : p.2.natAbs < 10 ^ 60) : Nice 1 402 (dPair p) := by
  have := nice_tup (n := 0) (w := 200) (ds := [.int p.1, .int p.2]) (fun d hd => by
    simp at hd
    rcases hd with rfl | rfl
    · exact nice_int h1
    · exact nice_int h2)
  exact this.mono (by omega) (by simp)
theorem small_nat {i : Int} (h : 0 ≤ i ∧ i ≤ 1000) : i.natAbs < 10 ^ 60 := by
  have e : (10 : Nat) ^ 60 = 1000000000000000000000000000000000000000000000000000000000000 := by decide
  rw [e]; omega
theorem nice_counts {l : List (Int × Int)} (hn : (l.map (·.1)).Nodup) (hl : l.length ≤ 100) (h : ∀ p ∈ l, p.1.natAbs < 10 ^ 60 ∧ 0 ≤ p.2 ∧ p.2 ≤ 1000) : Nice 2 40300 (countsD l) := by
  have hp := inOrder_perm hn
  have := nice_tup (n := 1) (w := 402) (ds := (inOrder l).map dPair) (fun d hd => by
    obtain ⟨p, m, rfl⟩ := List.mem_map.mp hd
    have := h p (hp.mem_iff.mp m)
    exact nice_pair this.1 (small_nat this.2))
  refine this.mono (by omega) ?_
  rw [List.length_map, hp.length_eq]
  have : l.length * 403 ≤ 100 * 403 := Nat.mul_le_mul_right _ hl
  omega
theorem law_far_counts_ok {c : List (Int × Int)} (hc : c.length ≤ 12) (hn : ∀ p ∈ c, nearW p) : F__law_far_counts [crowdD c] = .ok (.sh (countsD (counts c))) .non := by
  obtain ⟨c2, c3, c4, a4, h⟩ := far_loop hc (law_body hn)
  have hL : L__law_far_counts_1 [.sh (crowdD c), .ow (.dct false []), .un, .un, .un] = _ := sFor_ok (raw_lots lots_same hc rfl) h
  have nd := counts_nd c
  have hl := counts_len hc
  generalize counts c = l at *
  have q1 : ∃ e', C__law_far_counts_1 [.sh (crowdD c), .ow (.dct false (encI l)), c2, c3, c4] = .ok (.ow (.lst (l.map dPair))) e' := by
    have ei : l.map dPair = (l.map fun p => D.int p.1).map fun d => match d with
        | .int k => dPair (k, (getI l k).getD 0)
        | d => d := by
      rw [List.map_map]
      refine List.map_congr_left fun p hp => ?_
      show _ = dPair (p.1, (getI l p.1).getD 0)
      rw [getI_mem nd hp]; rfl
    rw [ei]
    refine ⟨_, mLc_map _ (e0 := [.sh (crowdD c), .sh (.dct false (encI l)), c2, c3, c4]) (ew := [.sh (crowdD c), .sh (.dct false (encI l)), c2, c3, .un]) (by simp [encI, run0, run1, sSeq, sNx, sBk, sCt, sEx, sRet, sRetN, sIf, sSet, setC, unbw, putC, Val.cell, sPar, unbws, putCs, sFor, sUnp, sStore, stTo, stD, sRaise, M.bind, M.ret, M.lift, mVar, mC, m2, m1, hold, look, cellD, esc, escs, looks, mTru, dTru, mB, mNot, mAnd, mOr, mBv, mAndV, mOrV, mIf, mChain, mNil, mCons, mTup, mLst, mCB, mPart, mSl, mMut, mMut0, ownD, isLst, relent, mGet2, mCall0, mCall1, outV, lentD, mSeq, gN, gsNil, gsCons, gT, mR1, mR2, asInts, mAny, mKeys, mLc, mLc2, mDc, mNewD, wipeE, back, fI, fAdd, fSub, fNeg, cAll, fC, fLt, fLe, fGt, fGe, fIx, fIxS, D.isDct, atI, ixN, fLen, lenD, fList, fTuple, seqD, lstD, fInt, fAbs, fAppend, fExtend, fIsi, tys, D.ty, isTab, fEq_int, fNe_int, fSl, oneBls, oneInts, fAll, fAny, dec_true, dec_false, fDiv_ok, fMod_ok, fPow_ok, fMulI_l, fMulI_r]) (by simp [run0, run1, sSeq, sNx, sBk, sCt, sEx, sRet, sRetN, sIf, sSet, setC, unbw, putC, Val.cell, sPar, unbws, putCs, sFor, sUnp, sStore, stTo, stD, sRaise, M.bind, M.ret, M.lift, mVar, mC, m2, m1, hold, look, cellD, esc, escs, looks, mTru, dTru, mB, mNot, mAnd, mOr, mBv, mAndV, mOrV, mIf, mChain, mNil, mCons, mTup, mLst, mCB, mPart, mSl, mMut, mMut0, ownD, isLst, relent, mGet2, mCall0, mCall1, outV, lentD, mSeq, gN, gsNil, gsCons, gT, mR1, mR2, asInts, mAny, mKeys, mLc, mLc2, mDc, mNewD, wipeE, back, fI, fAdd, fSub, fNeg, cAll, fC, fLt, fLe, fGt, fGe, fIx, fIxS, D.isDct, atI, ixN, fLen, lenD, fList, fTuple, seqD, lstD, fInt, fAbs, fAppend, fExtend, fIsi, tys, D.ty, isTab, fEq_int, fNe_int, fSl, oneBls, oneInts, fAll, fAny, dec_true, dec_false, fDiv_ok, fMod_ok, fPow_ok, fMulI_l, fMulI_r]) rfl (fun d hd => ?_) (by simp; omega)⟩
    obtain ⟨p, hp, rfl⟩ := List.mem_map.mp hd
    have x := ix_enc nd hp
    have y := getI_mem nd hp
    refine ⟨[.sh (crowdD c), .sh (.dct false (encI l)), c2, c3, .sh (.int p.1)], .sh (dPair p), [.sh (crowdD c), .sh (.dct false (encI l)), c2, c3, .sh (.int p.1)], [.sh (crowdD c), .sh (.dct false (encI l)), c2, c3, .sh (.int p.1)], ?_, ?_, ?_, ?_⟩
    · simp [run0, run1, sSeq, sNx, sBk, sCt, sEx, sRet, sRetN, sIf, sSet, setC, unbw, putC, Val.cell, sPar, unbws, putCs, sFor, sUnp, sStore, stTo, stD, sRaise, M.bind, M.ret, M.lift, mVar, mC, m2, m1, hold, look, cellD, esc, escs, looks, mTru, dTru, mB, mNot, mAnd, mOr, mBv, mAndV, mOrV, mIf, mChain, mNil, mCons, mTup, mLst, mCB, mPart, mSl, mMut, mMut0, ownD, isLst, relent, mGet2, mCall0, mCall1, outV, lentD, mSeq, gN, gsNil, gsCons, gT, mR1, mR2, asInts, mAny, mKeys, mLc, mLc2, mDc, mNewD, wipeE, back, fI, fAdd, fSub, fNeg, cAll, fC, fLt, fLe, fGt, fGe, fIx, fIxS, D.isDct, atI, ixN, fLen, lenD, fList, fTuple, seqD, lstD, fInt, fAbs, fAppend, fExtend, fIsi, tys, D.ty, isTab, fEq_int, fNe_int, fSl, oneBls, oneInts, fAll, fAny, dec_true, dec_false, fDiv_ok, fMod_ok, fPow_ok, fMulI_l, fMulI_r]
    · simp [E__law_far_counts_1, x, dPair, run0, run1, sSeq, sNx, sBk, sCt, sEx, sRet, sRetN, sIf, sSet, setC, unbw, putC, Val.cell, sPar, unbws, putCs, sFor, sUnp, sStore, stTo, sRaise, M.bind, M.ret, M.lift, mVar, mC, m2, m1, hold, look, cellD, esc, escs, looks, mTru, dTru, mB, mNot, mAnd, mOr, mBv, mAndV, mOrV, mIf, mChain, mNil, mCons, mTup, mLst, mCB, mPart, mSl, mMut, mMut0, ownD, isLst, relent, mGet2, mCall0, mCall1, outV, lentD, mSeq, gN, gsNil, gsCons, gT, mR1, mR2, asInts, mAny, mKeys, mLc, mLc2, mDc, mNewD, wipeE, back, fI, fAdd, fSub, fNeg, cAll, fC, fLt, fLe, fGt, fGe, D.isDct, fLen, lenD, fList, fTuple, seqD, lstD, fInt, fAbs, fAppend, fExtend, fIsi, tys, D.ty, isTab, fEq_int, fNe_int, fSl, oneBls, oneInts, fAll, fAny, dec_true, dec_false, fDiv_ok, fMod_ok, fPow_ok, fMulI_l, fMulI_r]
    · simp [y, run0, run1, sSeq, sNx, sBk, sCt, sEx, sRet, sRetN, sIf, sSet, setC, unbw, putC, Val.cell, sPar, unbws, putCs, sFor, sUnp, sStore, stTo, stD, sRaise, M.bind, M.ret, M.lift, mVar, mC, m2, m1, hold, look, cellD, esc, escs, looks, mTru, dTru, mB, mNot, mAnd, mOr, mBv, mAndV, mOrV, mIf, mChain, mNil, mCons, mTup, mLst, mCB, mPart, mSl, mMut, mMut0, ownD, isLst, relent, mGet2, mCall0, mCall1, outV, lentD, mSeq, gN, gsNil, gsCons, gT, mR1, mR2, asInts, mAny, mKeys, mLc, mLc2, mDc, mNewD, wipeE, back, fI, fAdd, fSub, fNeg, cAll, fC, fLt, fLe, fGt, fGe, fIx, fIxS, D.isDct, atI, ixN, fLen, lenD, fList, fTuple, seqD, lstD, fInt, fAbs, fAppend, fExtend, fIsi, tys, D.ty, isTab, fEq_int, fNe_int, fSl, oneBls, oneInts, fAll, fAny, dec_true, dec_false, fDiv_ok, fMod_ok, fPow_ok, fMulI_l, fMulI_r]
    · simp [run0, run1, sSeq, sNx, sBk, sCt, sEx, sRet, sRetN, sIf, sSet, setC, unbw, putC, Val.cell, sPar, unbws, putCs, sFor, sUnp, sStore, stTo, stD, sRaise, M.bind, M.ret, M.lift, mVar, mC, m2, m1, hold, look, cellD, esc, escs, looks, mTru, dTru, mB, mNot, mAnd, mOr, mBv, mAndV, mOrV, mIf, mChain, mNil, mCons, mTup, mLst, mCB, mPart, mSl, mMut, mMut0, ownD, isLst, relent, mGet2, mCall0, mCall1, outV, lentD, mSeq, gN, gsNil, gsCons, gT, mR1, mR2, asInts, mAny, mKeys, mLc, mLc2, mDc, mNewD, wipeE, back, fI, fAdd, fSub, fNeg, cAll, fC, fLt, fLe, fGt, fGe, fIx, fIxS, D.isDct, atI, ixN, fLen, lenD, fList, fTuple, seqD, lstD, fInt, fAbs, fAppend, fExtend, fIsi, tys, D.ty, isTab, fEq_int, fNe_int, fSl, oneBls, oneInts, fAll, fAny, dec_true, dec_false, fDiv_ok, fMod_ok, fPow_ok, fMulI_l, fMulI_r]
  obtain ⟨e', q1⟩ := q1
  have s := fSort_pairs (l := l) (by omega)
  rw [inOrder_eq nd] at s
  simp [F__law_far_counts, B__law_far_counts, hL, encI, countsD, run0, run1, sSeq, sNx, sBk, sCt, sEx, sRet, sRetN, sIf, sSet, setC, unbw, putC, Val.cell, sPar, unbws, putCs, sFor, sUnp, sStore, stTo, stD, sRaise, M.bind, M.ret, M.lift, mVar, mC, m2, m1, hold, look, cellD, esc, escs, looks, mTru, dTru, mB, mNot, mAnd, mOr, mBv, mAndV, mOrV, mIf, mChain, mNil, mCons, mTup, mLst, mCB, mPart, mSl, mMut, mMut0, ownD, isLst, relent, mGet2, mCall0, mCall1, outV, lentD, mSeq, gN, gsNil, gsCons, gT, mR1, mR2, asInts, mAny, mKeys, mLc, mLc2, mDc, mNewD, wipeE, back, fI, fAdd, fSub, fNeg, cAll, fC, fLt, fLe, fGt, fGe, fIx, fIxS, D.isDct, atI, ixN, fLen, lenD, fList, fTuple, seqD, lstD, fInt, fAbs, fAppend, fExtend, fIsi, tys, D.ty, isTab, fEq_int, fNe_int, fSl, oneBls, oneInts, fAll, fAny, dec_true, dec_false, fDiv_ok, fMod_ok, fPow_ok, fMulI_l, fMulI_r]
  rw [show (List.map (fun p => (D.int p.1, D.int p.2)) l) = encI l from rfl]
  simp [q1, s, run0, run1, sSeq, sNx, sBk, sCt, sEx, sRet, sRetN, sIf, sSet, setC, unbw, putC, Val.cell, sPar, unbws, putCs, sFor, sUnp, sStore, stTo, stD, sRaise, M.bind, M.ret, M.lift, mVar, mC, m2, m1, hold, look, cellD, esc, escs, looks, mTru, dTru, mB, mNot, mAnd, mOr, mBv, mAndV, mOrV, mIf, mChain, mNil, mCons, mTup, mLst, mCB, mPart, mSl, mMut, mMut0, ownD, isLst, relent, mGet2, mCall0, mCall1, outV, lentD, mSeq, gN, gsNil, gsCons, gT, mR1, mR2, asInts, mAny, mKeys, mLc, mLc2, mDc, mNewD, wipeE, back, fI, fAdd, fSub, fNeg, cAll, fC, fLt, fLe, fGt, fGe, fIx, fIxS, D.isDct, atI, ixN, fLen, lenD, fList, fTuple, seqD, lstD, fInt, fAbs, fAppend, fExtend, fIsi, tys, D.ty, isTab, fEq_int, fNe_int, fSl, oneBls, oneInts, fAll, fAny, dec_true, dec_false, fDiv_ok, fMod_ok, fPow_ok, fMulI_l, fMulI_r]
end Lw

namespace Lw
open PySem PySem.Spec PyProof.Rows L2 VS
/-- a crowd that the law makes -/
structure Good (c : List (Int × Int)) : Prop where
  lo : 3 ≤ c.length
  hi : c.length ≤ 11
  nd : c.Nodup
  nr : ∀ p ∈ c, (-7 ≤ p.1 ∧ p.1 ≤ 7) ∧ -7 ≤ p.2 ∧ p.2 ≤ 7
theorem Good.crowd {c : List (Int × Int)} (h : Good c) : Crowd c := ⟨h.lo, by have := h.hi; omega, fun p m => by have := h.nr p m; unfold near; omega, h.nd⟩
theorem Good.w {c : List (Int × Int)} (h : Good c) : ∀ p ∈ c, nearW p := fun p m => (h.crowd.nr p m).w
theorem counts64 {c : List (Int × Int)} (h : c.length ≤ 11) : (counts c).length < 64 := by
  have a := foldl_len (farsOf c) []
  have b : ∀ n ≤ 11, (lots n 2).length ≤ 55 := by decide +kernel
  have d := b _ h
  unfold counts
  unfold farsOf at *
  simp at *
  omega
theorem shown_same {l : List (Int × Int)} {m k : Int} (h : Nice 2 40300 (countsD l)) (hm : m.natAbs < 10 ^ 60) (hk : k.natAbs < 10 ^ 60) (n : Nat) (hn : n ≤ 1000) :
    ∃ s, PyData.strOk s = true ∧ fRepr [.lst [countsD l, .tup [.int m, .int k], .int n]] = some (.sh (.str s)) := by
  have a := nice_lst (n := 2) (w := 40300) (ds := [countsD l, .tup [.int m, .int k], .int n]) (fun d hd => by
    simp at hd
    rcases hd with rfl | rfl | rfl
    · exact h
    · exact (nice_pair (p := (m, k)) hm hk).mono (by omega) (by omega)
    · exact (nice_int (small_nat ⟨by omega, by omega⟩)).mono (by omega) (by omega))
  exact ⟨_, a.k, a.repr rfl (by omega) (by simp)⟩
theorem is_right_ok {h : D} {c : List (Int × Int)} (H : Hand h) (g : Good c) : ∃ h', F__law_is_right [h, crowdD c] = .ok (.sh (.bl true)) h' ∧ Hand h' := by
  have cr := g.crowd
  have lo := g.lo
  have hi := g.hi
  have due := law_far_counts_ok cr.hi g.w
  have fc := far_counts_ok cr (counts64 hi)
  obtain ⟨m, k, hm⟩ := most_some (counts_ne g.lo cr.hi)
  have mo := most_often_ok cr hm
  have un := unlike_ok cr
  have nd := counts_nd c
  have sm := counts_small cr.hi g.w
  have l64 := counts64 hi
  have nc := nice_counts nd (by omega) sm
  obtain ⟨_, ma, _⟩ := maxI_ok hm.1
  obtain ⟨pm, hpm, em⟩ := List.mem_map.mp ma
  have mS : m.natAbs < 10 ^ 60 := by rw [← em]; exact small_nat (sm pm hpm).2
  obtain ⟨_, ka, _⟩ := minI_ok hm.2
  obtain ⟨pk, hpk, ek⟩ := List.mem_map.mp ka
  have kS : k.natAbs < 10 ^ 60 := by rw [← ek]; exact (sm pk ((List.mem_filter.mp hpk).1)).1
  obtain ⟨s, hs, hr⟩ := shown_same nc mS kS (counts c).length (by omega)
  obtain ⟨d1, h1, e1, H1, d10, d11⟩ := draw_ok H (b := 9) (by omega)
  obtain ⟨d2, h2, e2, H2, d20, d21⟩ := draw_ok H1 (b := 9) (by omega)
  have mv := moved_ok (v := (d1, d2)) cr (by unfold near; simp; omega) (fun p hp => by have := g.nr p hp; unfold near shift; simp; omega)
  have mi := mirrored_ok cr
  have cm : Crowd (c.map (shift (d1, d2))) := cr.map (fun p hp => by have := g.nr p hp; unfold near shift; simp; omega) (fun p q z => by unfold shift at z; simp at z; exact Prod.ext z.1 z.2)
  have cf : Crowd (c.map flip) := cr.map (fun p hp => by have := g.nr p hp; unfold near flip; simp; omega) (fun p q z => by unfold flip at z; simp at z; exact Prod.ext z.1 z.2)
  have em' : counts (c.map (shift (d1, d2))) = counts c := by unfold counts; rw [fars_same (far_shift (d1, d2))]
  have ef' : counts (c.map flip) = counts c := by unfold counts; rw [fars_same far_flip]
  have fm := far_counts_ok cm (by rw [em']; exact l64)
  have ff := far_counts_ok cf (by rw [ef']; exact l64)
  rw [em'] at fm
  rw [ef'] at ff
  have pp := inOrder_perm nd
  have hm' := most_perm pp.symm hm
  have il : (inOrder (counts c)).length = (counts c).length := pp.length_eq
  have fe := fEq_same nc (by omega)
  generalize counts c = l at *
  have q1 : C__law_is_right_1 [.ln h, .sh (crowdD c), .sh (countsD l), .un, .un, .un, .un, .un] = .ok (.ow (.lst ((inOrder l).map fun p => .int p.2))) [.ln h, .sh (crowdD c), .sh (countsD l), .un, .un, .un, .un, .un] := by
    have ei : ((inOrder l).map fun p => D.int p.2) = ((inOrder l).map dPair).map fun d => match d with
        | .tup [_, y] => y
        | d => d := by rw [List.map_map]; rfl
    rw [ei]
    refine mLc_map _ (e0 := [.ln h, .sh (crowdD c), .sh (countsD l), .un, .un, .un, .un, .un]) (ew := [.ln h, .sh (crowdD c), .sh (countsD l), .un, .un, .un, .un, .un]) (by simp [countsD, run0, run1, sSeq, sNx, sBk, sCt, sEx, sRet, sRetN, sIf, sSet, setC, unbw, putC, Val.cell, sPar, unbws, putCs, sFor, sUnp, sStore, stTo, stD, sRaise, M.bind, M.ret, M.lift, mVar, mC, m2, m1, hold, look, cellD, esc, escs, looks, mTru, dTru, mB, mNot, mAnd, mOr, mBv, mAndV, mOrV, mIf, mChain, mNil, mCons, mTup, mLst, mCB, mPart, mSl, mMut, mMut0, ownD, isLst, relent, mGet2, mCall0, mCall1, outV, lentD, mSeq, gN, gsNil, gsCons, gT, mR1, mR2, asInts, mAny, mKeys, mLc, mLc2, mDc, mNewD, wipeE, back, fI, fAdd, fSub, fNeg, cAll, fC, fLt, fLe, fGt, fGe, fIx, fIxS, D.isDct, atI, ixN, fLen, lenD, fList, fTuple, seqD, lstD, fInt, fAbs, fAppend, fExtend, fIsi, tys, D.ty, isTab, fEq_int, fNe_int, fSl, oneBls, oneInts, fAll, fAny, dec_true, dec_false, fDiv_ok, fMod_ok, fPow_ok, fMulI_l, fMulI_r]) (by simp [run0, run1, sSeq, sNx, sBk, sCt, sEx, sRet, sRetN, sIf, sSet, setC, unbw, putC, Val.cell, sPar, unbws, putCs, sFor, sUnp, sStore, stTo, stD, sRaise, M.bind, M.ret, M.lift, mVar, mC, m2, m1, hold, look, cellD, esc, escs, looks, mTru, dTru, mB, mNot, mAnd, mOr, mBv, mAndV, mOrV, mIf, mChain, mNil, mCons, mTup, mLst, mCB, mPart, mSl, mMut, mMut0, ownD, isLst, relent, mGet2, mCall0, mCall1, outV, lentD, mSeq, gN, gsNil, gsCons, gT, mR1, mR2, asInts, mAny, mKeys, mLc, mLc2, mDc, mNewD, wipeE, back, fI, fAdd, fSub, fNeg, cAll, fC, fLt, fLe, fGt, fGe, fIx, fIxS, D.isDct, atI, ixN, fLen, lenD, fList, fTuple, seqD, lstD, fInt, fAbs, fAppend, fExtend, fIsi, tys, D.ty, isTab, fEq_int, fNe_int, fSl, oneBls, oneInts, fAll, fAny, dec_true, dec_false, fDiv_ok, fMod_ok, fPow_ok, fMulI_l, fMulI_r]) (by simp [run0, run1, sSeq, sNx, sBk, sCt, sEx, sRet, sRetN, sIf, sSet, setC, unbw, putC, Val.cell, sPar, unbws, putCs, sFor, sUnp, sStore, stTo, stD, sRaise, M.bind, M.ret, M.lift, mVar, mC, m2, m1, hold, look, cellD, esc, escs, looks, mTru, dTru, mB, mNot, mAnd, mOr, mBv, mAndV, mOrV, mIf, mChain, mNil, mCons, mTup, mLst, mCB, mPart, mSl, mMut, mMut0, ownD, isLst, relent, mGet2, mCall0, mCall1, outV, lentD, mSeq, gN, gsNil, gsCons, gT, mR1, mR2, asInts, mAny, mKeys, mLc, mLc2, mDc, mNewD, wipeE, back, fI, fAdd, fSub, fNeg, cAll, fC, fLt, fLe, fGt, fGe, fIx, fIxS, D.isDct, atI, ixN, fLen, lenD, fList, fTuple, seqD, lstD, fInt, fAbs, fAppend, fExtend, fIsi, tys, D.ty, isTab, fEq_int, fNe_int, fSl, oneBls, oneInts, fAll, fAny, dec_true, dec_false, fDiv_ok, fMod_ok, fPow_ok, fMulI_l, fMulI_r]) (fun d hd => ?_) (by simp; omega)
    obtain ⟨p, hp, rfl⟩ := List.mem_map.mp hd
    exact ⟨[.ln h, .sh (crowdD c), .sh (countsD l), .un, .un, .un, .sh (.int p.1), .sh (.int p.2)], .sh (.int p.2), [.ln h, .sh (crowdD c), .sh (countsD l), .un, .un, .un, .sh (.int p.1), .sh (.int p.2)], [.ln h, .sh (crowdD c), .sh (countsD l), .un, .un, .un, .sh (.int p.1), .sh (.int p.2)], by simp [dPair, run0, run1, sSeq, sNx, sBk, sCt, sEx, sRet, sRetN, sIf, sSet, setC, unbw, putC, Val.cell, sPar, unbws, putCs, sFor, sUnp, sStore, stTo, stD, sRaise, M.bind, M.ret, M.lift, mVar, mC, m2, m1, hold, look, cellD, esc, escs, looks, mTru, dTru, mB, mNot, mAnd, mOr, mBv, mAndV, mOrV, mIf, mChain, mNil, mCons, mTup, mLst, mCB, mPart, mSl, mMut, mMut0, ownD, isLst, relent, mGet2, mCall0, mCall1, outV, lentD, mSeq, gN, gsNil, gsCons, gT, mR1, mR2, asInts, mAny, mKeys, mLc, mLc2, mDc, mNewD, wipeE, back, fI, fAdd, fSub, fNeg, cAll, fC, fLt, fLe, fGt, fGe, fIx, fIxS, D.isDct, atI, ixN, fLen, lenD, fList, fTuple, seqD, lstD, fInt, fAbs, fAppend, fExtend, fIsi, tys, D.ty, isTab, fEq_int, fNe_int, fSl, oneBls, oneInts, fAll, fAny, dec_true, dec_false, fDiv_ok, fMod_ok, fPow_ok, fMulI_l, fMulI_r], by simp [E__law_is_right_1, run0, run1, sSeq, sNx, sBk, sCt, sEx, sRet, sRetN, sIf, sSet, setC, unbw, putC, Val.cell, sPar, unbws, putCs, sFor, sUnp, sStore, stTo, stD, sRaise, M.bind, M.ret, M.lift, mVar, mC, m2, m1, hold, look, cellD, esc, escs, looks, mTru, dTru, mB, mNot, mAnd, mOr, mBv, mAndV, mOrV, mIf, mChain, mNil, mCons, mTup, mLst, mCB, mPart, mSl, mMut, mMut0, ownD, isLst, relent, mGet2, mCall0, mCall1, outV, lentD, mSeq, gN, gsNil, gsCons, gT, mR1, mR2, asInts, mAny, mKeys, mLc, mLc2, mDc, mNewD, wipeE, back, fI, fAdd, fSub, fNeg, cAll, fC, fLt, fLe, fGt, fGe, fIx, fIxS, D.isDct, atI, ixN, fLen, lenD, fList, fTuple, seqD, lstD, fInt, fAbs, fAppend, fExtend, fIsi, tys, D.ty, isTab, fEq_int, fNe_int, fSl, oneBls, oneInts, fAll, fAny, dec_true, dec_false, fDiv_ok, fMod_ok, fPow_ok, fMulI_l, fMulI_r], by simp [dPair, run0, run1, sSeq, sNx, sBk, sCt, sEx, sRet, sRetN, sIf, sSet, setC, unbw, putC, Val.cell, sPar, unbws, putCs, sFor, sUnp, sStore, stTo, stD, sRaise, M.bind, M.ret, M.lift, mVar, mC, m2, m1, hold, look, cellD, esc, escs, looks, mTru, dTru, mB, mNot, mAnd, mOr, mBv, mAndV, mOrV, mIf, mChain, mNil, mCons, mTup, mLst, mCB, mPart, mSl, mMut, mMut0, ownD, isLst, relent, mGet2, mCall0, mCall1, outV, lentD, mSeq, gN, gsNil, gsCons, gT, mR1, mR2, asInts, mAny, mKeys, mLc, mLc2, mDc, mNewD, wipeE, back, fI, fAdd, fSub, fNeg, cAll, fC, fLt, fLe, fGt, fGe, fIx, fIxS, D.isDct, atI, ixN, fLen, lenD, fList, fTuple, seqD, lstD, fInt, fAbs, fAppend, fExtend, fIsi, tys, D.ty, isTab, fEq_int, fNe_int, fSl, oneBls, oneInts, fAll, fAny, dec_true, dec_false, fDiv_ok, fMod_ok, fPow_ok, fMulI_l, fMulI_r], by simp [run0, run1, sSeq, sNx, sBk, sCt, sEx, sRet, sRetN, sIf, sSet, setC, unbw, putC, Val.cell, sPar, unbws, putCs, sFor, sUnp, sStore, stTo, stD, sRaise, M.bind, M.ret, M.lift, mVar, mC, m2, m1, hold, look, cellD, esc, escs, looks, mTru, dTru, mB, mNot, mAnd, mOr, mBv, mAndV, mOrV, mIf, mChain, mNil, mCons, mTup, mLst, mCB, mPart, mSl, mMut, mMut0, ownD, isLst, relent, mGet2, mCall0, mCall1, outV, lentD, mSeq, gN, gsNil, gsCons, gT, mR1, mR2, asInts, mAny, mKeys, mLc, mLc2, mDc, mNewD, wipeE, back, fI, fAdd, fSub, fNeg, cAll, fC, fLt, fLe, fGt, fGe, fIx, fIxS, D.isDct, atI, ixN, fLen, lenD, fList, fTuple, seqD, lstD, fInt, fAbs, fAppend, fExtend, fIsi, tys, D.ty, isTab, fEq_int, fNe_int, fSl, oneBls, oneInts, fAll, fAny, dec_true, dec_false, fDiv_ok, fMod_ok, fPow_ok, fMulI_l, fMulI_r]⟩
  have q2 : C__law_is_right_2 [.ln h, .sh (crowdD c), .sh (countsD l), .sh (.int m), .un, .un, .un, .un] = .ok (.ow (.lst (((inOrder l).filter fun p => p.2 == m).map fun p => .int p.1))) [.ln h, .sh (crowdD c), .sh (countsD l), .sh (.int m), .un, .un, .un, .un] := by
    have ei : (((inOrder l).filter fun p => p.2 == m).map fun p => D.int p.1) = (((inOrder l).map dPair).filter fun d => match d with
        | .tup [_, .int y] => y == m
        | _ => false).map fun d => match d with
        | .tup [x, _] => x
        | d => d := by
      rw [List.filter_map, List.map_map]
      rfl
    rw [ei]
    refine mLc_fil _ _ (e0 := [.ln h, .sh (crowdD c), .sh (countsD l), .sh (.int m), .un, .un, .un, .un]) (ew := [.ln h, .sh (crowdD c), .sh (countsD l), .sh (.int m), .un, .un, .un, .un]) (by simp [countsD, run0, run1, sSeq, sNx, sBk, sCt, sEx, sRet, sRetN, sIf, sSet, setC, unbw, putC, Val.cell, sPar, unbws, putCs, sFor, sUnp, sStore, stTo, stD, sRaise, M.bind, M.ret, M.lift, mVar, mC, m2, m1, hold, look, cellD, esc, escs, looks, mTru, dTru, mB, mNot, mAnd, mOr, mBv, mAndV, mOrV, mIf, mChain, mNil, mCons, mTup, mLst, mCB, mPart, mSl, mMut, mMut0, ownD, isLst, relent, mGet2, mCall0, mCall1, outV, lentD, mSeq, gN, gsNil, gsCons, gT, mR1, mR2, asInts, mAny, mKeys, mLc, mLc2, mDc, mNewD, wipeE, back, fI, fAdd, fSub, fNeg, cAll, fC, fLt, fLe, fGt, fGe, fIx, fIxS, D.isDct, atI, ixN, fLen, lenD, fList, fTuple, seqD, lstD, fInt, fAbs, fAppend, fExtend, fIsi, tys, D.ty, isTab, fEq_int, fNe_int, fSl, oneBls, oneInts, fAll, fAny, dec_true, dec_false, fDiv_ok, fMod_ok, fPow_ok, fMulI_l, fMulI_r]) (by simp [run0, run1, sSeq, sNx, sBk, sCt, sEx, sRet, sRetN, sIf, sSet, setC, unbw, putC, Val.cell, sPar, unbws, putCs, sFor, sUnp, sStore, stTo, stD, sRaise, M.bind, M.ret, M.lift, mVar, mC, m2, m1, hold, look, cellD, esc, escs, looks, mTru, dTru, mB, mNot, mAnd, mOr, mBv, mAndV, mOrV, mIf, mChain, mNil, mCons, mTup, mLst, mCB, mPart, mSl, mMut, mMut0, ownD, isLst, relent, mGet2, mCall0, mCall1, outV, lentD, mSeq, gN, gsNil, gsCons, gT, mR1, mR2, asInts, mAny, mKeys, mLc, mLc2, mDc, mNewD, wipeE, back, fI, fAdd, fSub, fNeg, cAll, fC, fLt, fLe, fGt, fGe, fIx, fIxS, D.isDct, atI, ixN, fLen, lenD, fList, fTuple, seqD, lstD, fInt, fAbs, fAppend, fExtend, fIsi, tys, D.ty, isTab, fEq_int, fNe_int, fSl, oneBls, oneInts, fAll, fAny, dec_true, dec_false, fDiv_ok, fMod_ok, fPow_ok, fMulI_l, fMulI_r]) (by simp [run0, run1, sSeq, sNx, sBk, sCt, sEx, sRet, sRetN, sIf, sSet, setC, unbw, putC, Val.cell, sPar, unbws, putCs, sFor, sUnp, sStore, stTo, stD, sRaise, M.bind, M.ret, M.lift, mVar, mC, m2, m1, hold, look, cellD, esc, escs, looks, mTru, dTru, mB, mNot, mAnd, mOr, mBv, mAndV, mOrV, mIf, mChain, mNil, mCons, mTup, mLst, mCB, mPart, mSl, mMut, mMut0, ownD, isLst, relent, mGet2, mCall0, mCall1, outV, lentD, mSeq, gN, gsNil, gsCons, gT, mR1, mR2, asInts, mAny, mKeys, mLc, mLc2, mDc, mNewD, wipeE, back, fI, fAdd, fSub, fNeg, cAll, fC, fLt, fLe, fGt, fGe, fIx, fIxS, D.isDct, atI, ixN, fLen, lenD, fList, fTuple, seqD, lstD, fInt, fAbs, fAppend, fExtend, fIsi, tys, D.ty, isTab, fEq_int, fNe_int, fSl, oneBls, oneInts, fAll, fAny, dec_true, dec_false, fDiv_ok, fMod_ok, fPow_ok, fMulI_l, fMulI_r]) (fun d hd => ?_) (by simp; omega)
    obtain ⟨p, hp, rfl⟩ := List.mem_map.mp hd
    exact ⟨[.ln h, .sh (crowdD c), .sh (countsD l), .sh (.int m), .un, .un, .sh (.int p.1), .sh (.int p.2)], [.ln h, .sh (crowdD c), .sh (countsD l), .sh (.int m), .un, .un, .sh (.int p.1), .sh (.int p.2)], by simp [dPair, run0, run1, sSeq, sNx, sBk, sCt, sEx, sRet, sRetN, sIf, sSet, setC, unbw, putC, Val.cell, sPar, unbws, putCs, sFor, sUnp, sStore, stTo, stD, sRaise, M.bind, M.ret, M.lift, mVar, mC, m2, m1, hold, look, cellD, esc, escs, looks, mTru, dTru, mB, mNot, mAnd, mOr, mBv, mAndV, mOrV, mIf, mChain, mNil, mCons, mTup, mLst, mCB, mPart, mSl, mMut, mMut0, ownD, isLst, relent, mGet2, mCall0, mCall1, outV, lentD, mSeq, gN, gsNil, gsCons, gT, mR1, mR2, asInts, mAny, mKeys, mLc, mLc2, mDc, mNewD, wipeE, back, fI, fAdd, fSub, fNeg, cAll, fC, fLt, fLe, fGt, fGe, fIx, fIxS, D.isDct, atI, ixN, fLen, lenD, fList, fTuple, seqD, lstD, fInt, fAbs, fAppend, fExtend, fIsi, tys, D.ty, isTab, fEq_int, fNe_int, fSl, oneBls, oneInts, fAll, fAny, dec_true, dec_false, fDiv_ok, fMod_ok, fPow_ok, fMulI_l, fMulI_r], by simp [T__law_is_right_1, dPair, run0, run1, sSeq, sNx, sBk, sCt, sEx, sRet, sRetN, sIf, sSet, setC, unbw, putC, Val.cell, sPar, unbws, putCs, sFor, sUnp, sStore, stTo, stD, sRaise, M.bind, M.ret, M.lift, mVar, mC, m2, m1, hold, look, cellD, esc, escs, looks, mTru, dTru, mB, mNot, mAnd, mOr, mBv, mAndV, mOrV, mIf, mChain, mNil, mCons, mTup, mLst, mCB, mPart, mSl, mMut, mMut0, ownD, isLst, relent, mGet2, mCall0, mCall1, outV, lentD, mSeq, gN, gsNil, gsCons, gT, mR1, mR2, asInts, mAny, mKeys, mLc, mLc2, mDc, mNewD, wipeE, back, fI, fAdd, fSub, fNeg, cAll, fC, fLt, fLe, fGt, fGe, fIx, fIxS, D.isDct, atI, ixN, fLen, lenD, fList, fTuple, seqD, lstD, fInt, fAbs, fAppend, fExtend, fIsi, tys, D.ty, isTab, fEq_int, fNe_int, fSl, oneBls, oneInts, fAll, fAny, dec_true, dec_false, fDiv_ok, fMod_ok, fPow_ok, fMulI_l, fMulI_r], by simp [run0, run1, sSeq, sNx, sBk, sCt, sEx, sRet, sRetN, sIf, sSet, setC, unbw, putC, Val.cell, sPar, unbws, putCs, sFor, sUnp, sStore, stTo, stD, sRaise, M.bind, M.ret, M.lift, mVar, mC, m2, m1, hold, look, cellD, esc, escs, looks, mTru, dTru, mB, mNot, mAnd, mOr, mBv, mAndV, mOrV, mIf, mChain, mNil, mCons, mTup, mLst, mCB, mPart, mSl, mMut, mMut0, ownD, isLst, relent, mGet2, mCall0, mCall1, outV, lentD, mSeq, gN, gsNil, gsCons, gT, mR1, mR2, asInts, mAny, mKeys, mLc, mLc2, mDc, mNewD, wipeE, back, fI, fAdd, fSub, fNeg, cAll, fC, fLt, fLe, fGt, fGe, fIx, fIxS, D.isDct, atI, ixN, fLen, lenD, fList, fTuple, seqD, lstD, fInt, fAbs, fAppend, fExtend, fIsi, tys, D.ty, isTab, fEq_int, fNe_int, fSl, oneBls, oneInts, fAll, fAny, dec_true, dec_false, fDiv_ok, fMod_ok, fPow_ok, fMulI_l, fMulI_r],
      fun _ => ⟨.sh (.int p.1), [.ln h, .sh (crowdD c), .sh (countsD l), .sh (.int m), .un, .un, .sh (.int p.1), .sh (.int p.2)], [.ln h, .sh (crowdD c), .sh (countsD l), .sh (.int m), .un, .un, .sh (.int p.1), .sh (.int p.2)], by simp [E__law_is_right_2, run0, run1, sSeq, sNx, sBk, sCt, sEx, sRet, sRetN, sIf, sSet, setC, unbw, putC, Val.cell, sPar, unbws, putCs, sFor, sUnp, sStore, stTo, stD, sRaise, M.bind, M.ret, M.lift, mVar, mC, m2, m1, hold, look, cellD, esc, escs, looks, mTru, dTru, mB, mNot, mAnd, mOr, mBv, mAndV, mOrV, mIf, mChain, mNil, mCons, mTup, mLst, mCB, mPart, mSl, mMut, mMut0, ownD, isLst, relent, mGet2, mCall0, mCall1, outV, lentD, mSeq, gN, gsNil, gsCons, gT, mR1, mR2, asInts, mAny, mKeys, mLc, mLc2, mDc, mNewD, wipeE, back, fI, fAdd, fSub, fNeg, cAll, fC, fLt, fLe, fGt, fGe, fIx, fIxS, D.isDct, atI, ixN, fLen, lenD, fList, fTuple, seqD, lstD, fInt, fAbs, fAppend, fExtend, fIsi, tys, D.ty, isTab, fEq_int, fNe_int, fSl, oneBls, oneInts, fAll, fAny, dec_true, dec_false, fDiv_ok, fMod_ok, fPow_ok, fMulI_l, fMulI_r], by simp [dPair, run0, run1, sSeq, sNx, sBk, sCt, sEx, sRet, sRetN, sIf, sSet, setC, unbw, putC, Val.cell, sPar, unbws, putCs, sFor, sUnp, sStore, stTo, stD, sRaise, M.bind, M.ret, M.lift, mVar, mC, m2, m1, hold, look, cellD, esc, escs, looks, mTru, dTru, mB, mNot, mAnd, mOr, mBv, mAndV, mOrV, mIf, mChain, mNil, mCons, mTup, mLst, mCB, mPart, mSl, mMut, mMut0, ownD, isLst, relent, mGet2, mCall0, mCall1, outV, lentD, mSeq, gN, gsNil, gsCons, gT, mR1, mR2, asInts, mAny, mKeys, mLc, mLc2, mDc, mNewD, wipeE, back, fI, fAdd, fSub, fNeg, cAll, fC, fLt, fLe, fGt, fGe, fIx, fIxS, D.isDct, atI, ixN, fLen, lenD, fList, fTuple, seqD, lstD, fInt, fAbs, fAppend, fExtend, fIsi, tys, D.ty, isTab, fEq_int, fNe_int, fSl, oneBls, oneInts, fAll, fAny, dec_true, dec_false, fDiv_ok, fMod_ok, fPow_ok, fMulI_l, fMulI_r], by simp [run0, run1, sSeq, sNx, sBk, sCt, sEx, sRet, sRetN, sIf, sSet, setC, unbw, putC, Val.cell, sPar, unbws, putCs, sFor, sUnp, sStore, stTo, stD, sRaise, M.bind, M.ret, M.lift, mVar, mC, m2, m1, hold, look, cellD, esc, escs, looks, mTru, dTru, mB, mNot, mAnd, mOr, mBv, mAndV, mOrV, mIf, mChain, mNil, mCons, mTup, mLst, mCB, mPart, mSl, mMut, mMut0, ownD, isLst, relent, mGet2, mCall0, mCall1, outV, lentD, mSeq, gN, gsNil, gsCons, gT, mR1, mR2, asInts, mAny, mKeys, mLc, mLc2, mDc, mNewD, wipeE, back, fI, fAdd, fSub, fNeg, cAll, fC, fLt, fLe, fGt, fGe, fIx, fIxS, D.isDct, atI, ixN, fLen, lenD, fList, fTuple, seqD, lstD, fInt, fAbs, fAppend, fExtend, fIsi, tys, D.ty, isTab, fEq_int, fNe_int, fSl, oneBls, oneInts, fAll, fAny, dec_true, dec_false, fDiv_ok, fMod_ok, fPow_ok, fMulI_l, fMulI_r]⟩⟩
  have x1 := fMax1_ok hm'.1
  have x2 := fMin1_ok hm'.2
  have fn := fNe_text hs
  have ll : fLen [countsD l] = some (.sh (.int l.length)) := by simp [countsD, fLen, lenD, il]
  have ec : dotD (d1, d2) = .tup [.int d1, .int d2] := rfl
  rw [ec] at mv
  refine ⟨h2, ?_, H2⟩
  simp [F__law_is_right, B__law_is_right, due, q1, x1, q2, x2, fc, mo, un, ll, hr, fn, e1, e2, mv, mi, fm, ff, fe, run0, run1, sSeq, sNx, sBk, sCt, sEx, sRet, sRetN, sIf, sSet, setC, unbw, putC, Val.cell, sPar, unbws, putCs, sFor, sUnp, sStore, stTo, stD, sRaise, M.bind, M.ret, M.lift, mVar, mC, m2, m1, hold, look, cellD, esc, escs, looks, mTru, dTru, mB, mNot, mAnd, mOr, mBv, mAndV, mOrV, mIf, mChain, mNil, mCons, mTup, mLst, mCB, mPart, mSl, mMut, mMut0, ownD, isLst, relent, mGet2, mCall0, mCall1, outV, lentD, mSeq, gN, gsNil, gsCons, gT, mR1, mR2, asInts, mAny, mKeys, mLc, mLc2, mDc, mNewD, wipeE, back, fI, fAdd, fSub, fNeg, cAll, fC, fLt, fLe, fGt, fGe, fIx, fIxS, D.isDct, atI, ixN, fList, fTuple, seqD, lstD, fInt, fAbs, fAppend, fExtend, fIsi, tys, D.ty, isTab, fEq_int, fNe_int, fSl, oneBls, oneInts, fAll, fAny, dec_true, dec_false, fDiv_ok, fMod_ok, fPow_ok, fMulI_l, fMulI_r]
end Lw

namespace Lw
open PySem PySem.Spec PyProof.Rows L2 VS
theorem square_crowd : Crowd [(0, 0), (2, 0), (2, 2), (0, 2)] := ⟨by decide, by decide, by intro p hp; simp at hp; unfold near; rcases hp with rfl | rfl | rfl | rfl <;> decide, by decide⟩
theorem three_crowd : Crowd [(0, 0), (1, 0), (3, 0)] := ⟨by decide, by decide, by intro p hp; simp at hp; unfold near; rcases hp with rfl | rfl | rfl <;> decide, by decide⟩
theorem square_counts : counts [(0, 0), (2, 0), (2, 2), (0, 2)] = [(4, 4), (8, 2)] := by decide +kernel
theorem three_counts : counts [(0, 0), (1, 0), (3, 0)] = [(1, 1), (9, 1), (4, 1)] := by decide +kernel
theorem square_order : inOrder [(4, 4), (8, 2)] = [(4, 4), (8, 2)] := by
  unfold inOrder
  rw [show ([(4, 4), (8, 2)] : List (Int × Int)).map (·.1) = [4, 8] from rfl, List.mergeSort_of_pairwise (by simp)]
  rfl
theorem plain (ns : List Int) (hl : ns.length ≤ 63) : F_law [.fl (ns.map .int)] = .ok (.sh (.bl true)) .non := by
  obtain ⟨h, e0, H⟩ := law_hand_ok hl
  have s1 := far_counts_ok square_crowd (by rw [square_counts]; decide)
  rw [square_counts] at s1
  have s2 := most_often_ok square_crowd (m := 4) (k := 4) (by rw [square_counts]; exact ⟨rfl, rfl⟩)
  have t1 := unlike_ok three_crowd
  rw [three_counts] at t1
  have t2 := most_often_ok three_crowd (m := 1) (k := 1) (by rw [three_counts]; exact ⟨rfl, rfl⟩)
  have n1 := fNe_same (nice_counts (l := [(4, 4), (8, 2)]) (by decide) (by decide) (by intro p hp; simp at hp; rcases hp with rfl | rfl <;> decide)) (by omega)
  have n2 := fNe_same (nice_pair (p := (4, 4)) (by decide) (by decide)) (by omega)
  have n3 := fNe_same (nice_pair (p := (1, 1)) (by decide) (by decide)) (by omega)
  simp only [countsD, square_order, dPair, crowdD, dotD, List.map_cons, List.map_nil] at s1 s2 t1 t2 n1 n2 n3
  -- the crowds
  obtain ⟨acc, e1, q1, h1, H1, he1, hacc, hlen⟩ := lcL_ok (vs := [4]) (g := gN 4) (mt := M.ret true) (me := E_law_1) (fun ds acc e => ∃ h, Hand h ∧ e = [.sh (.fl (ns.map .int)), .ow h, .sh (.tup [.tup [.int 0, .int 0], .tup [.int 2, .int 0], .tup [.int 2, .int 2], .tup [.int 0, .int 2]]), .un, .un, .un] ∧ (∀ x ∈ acc, ∃ c, x = crowdD c ∧ Good c) ∧ acc.length + ds.length = 6)
    (fun d ds acc e i => by
      obtain ⟨h, H, rfl, ha, hn⟩ := i
      rw [List.length_cons] at hn
      obtain ⟨d1, h1, e1, H1, d10, d11⟩ := draw_ok H (b := 9) (by omega)
      obtain ⟨x, h2, e2, H2, hx⟩ := any_ok H1 (xs := [.int 4, .int 7]) (by simp) (by simp)
      obtain ⟨n, rfl, hn1, hn2⟩ : ∃ n : Nat, x = .int n ∧ 4 ≤ n ∧ n ≤ 7 := by
        simp at hx
        rcases hx with rfl | rfl
        · exact ⟨4, rfl, by omega, by omega⟩
        · exact ⟨7, rfl, by omega, by omega⟩
      obtain ⟨c, h3, e3, H3, c1, c2, c3⟩ := crowd_ok (many := 3 + d1.toNat) (n := n) H2 (by omega) (by have : 4 * 4 ≤ n * n := Nat.mul_le_mul hn1 hn1; omega)
      have e3 : F__law_crowd [h2, .int (3 + d1), .int n] = .ok (.sh (crowdD c)) h3 := by
        rw [show (3 + d1 : Int) = ((3 + d1.toNat : Nat) : Int) by omega]
        exact e3
      refine ⟨[.sh (.fl (ns.map .int)), .ow h, .sh (.tup [.tup [.int 0, .int 0], .tup [.int 2, .int 0], .tup [.int 2, .int 2], .tup [.int 0, .int 2]]), .un, .sh d, .un], [.sh (.fl (ns.map .int)), .ow h, .sh (.tup [.tup [.int 0, .int 0], .tup [.int 2, .int 0], .tup [.int 2, .int 2], .tup [.int 0, .int 2]]), .un, .sh d, .un], by simp [run0, run1, sSeq, sNx, sBk, sCt, sEx, sRet, sRetN, sIf, sSet, setC, unbw, putC, Val.cell, sPar, unbws, putCs, sFor, sUnp, sStore, stTo, stD, sRaise, M.bind, M.ret, M.lift, mVar, mC, m2, m1, hold, look, cellD, esc, escs, looks, mTru, dTru, mB, mNot, mAnd, mOr, mBv, mAndV, mOrV, mIf, mChain, mNil, mCons, mTup, mLst, mCB, mPart, mSl, mMut, mMut0, ownD, isLst, relent, mGet2, mCall0, mCall1, outV, lentD, mSeq, gN, gsNil, gsCons, gT, mR1, mR2, asInts, mAny, mKeys, mLc, mLc2, mDc, mNewD, wipeE, back, fI, fAdd, fSub, fNeg, cAll, fC, fLt, fLe, fGt, fGe, fIx, fIxS, D.isDct, atI, ixN, fLen, lenD, fList, fTuple, seqD, lstD, fInt, fAbs, fAppend, fExtend, fIsi, tys, D.ty, isTab, fEq_int, fNe_int, fSl, oneBls, oneInts, fAll, fAny, dec_true, dec_false, fDiv_ok, fMod_ok, fPow_ok, fMulI_l, fMulI_r], .inl ⟨.sh (crowdD c), [.sh (.fl (ns.map .int)), .ow h3, .sh (.tup [.tup [.int 0, .int 0], .tup [.int 2, .int 0], .tup [.int 2, .int 2], .tup [.int 0, .int 2]]), .un, .sh d, .un], crowdD c, [.sh (.fl (ns.map .int)), .ow h3, .sh (.tup [.tup [.int 0, .int 0], .tup [.int 2, .int 0], .tup [.int 2, .int 2], .tup [.int 0, .int 2]]), .un, .sh d, .un], by simp [run0, run1, sSeq, sNx, sBk, sCt, sEx, sRet, sRetN, sIf, sSet, setC, unbw, putC, Val.cell, sPar, unbws, putCs, sFor, sUnp, sStore, stTo, stD, sRaise, M.bind, M.ret, M.lift, mVar, mC, m2, m1, hold, look, cellD, esc, escs, looks, mTru, dTru, mB, mNot, mAnd, mOr, mBv, mAndV, mOrV, mIf, mChain, mNil, mCons, mTup, mLst, mCB, mPart, mSl, mMut, mMut0, ownD, isLst, relent, mGet2, mCall0, mCall1, outV, lentD, mSeq, gN, gsNil, gsCons, gT, mR1, mR2, asInts, mAny, mKeys, mLc, mLc2, mDc, mNewD, wipeE, back, fI, fAdd, fSub, fNeg, cAll, fC, fLt, fLe, fGt, fGe, fIx, fIxS, D.isDct, atI, ixN, fLen, lenD, fList, fTuple, seqD, lstD, fInt, fAbs, fAppend, fExtend, fIsi, tys, D.ty, isTab, fEq_int, fNe_int, fSl, oneBls, oneInts, fAll, fAny, dec_true, dec_false, fDiv_ok, fMod_ok, fPow_ok, fMulI_l, fMulI_r], by simp [E_law_1, e1, e2, e3, run0, run1, sSeq, sNx, sBk, sCt, sEx, sRet, sRetN, sIf, sSet, setC, unbw, putC, Val.cell, sPar, unbws, putCs, sFor, sUnp, sStore, stTo, stD, sRaise, M.bind, M.ret, M.lift, mVar, mC, m2, m1, hold, look, cellD, esc, escs, looks, mTru, dTru, mB, mNot, mAnd, mOr, mBv, mAndV, mOrV, mIf, mChain, mNil, mCons, mTup, mLst, mCB, mPart, mSl, mMut, mMut0, ownD, isLst, relent, mGet2, mCall0, mCall1, outV, lentD, mSeq, gN, gsNil, gsCons, gT, mR1, mR2, asInts, mAny, mKeys, mLc, mLc2, mDc, mNewD, wipeE, back, fI, fAdd, fSub, fNeg, cAll, fC, fLt, fLe, fGt, fGe, fIx, fIxS, D.isDct, atI, ixN, fLen, lenD, fList, fTuple, seqD, lstD, fInt, fAbs, fAppend, fExtend, fIsi, tys, D.ty, isTab, fEq_int, fNe_int, fSl, oneBls, oneInts, fAll, fAny, dec_true, dec_false, fDiv_ok, fMod_ok, fPow_ok, fMulI_l, fMulI_r], by simp [run0, run1, sSeq, sNx, sBk, sCt, sEx, sRet, sRetN, sIf, sSet, setC, unbw, putC, Val.cell, sPar, unbws, putCs, sFor, sUnp, sStore, stTo, stD, sRaise, M.bind, M.ret, M.lift, mVar, mC, m2, m1, hold, look, cellD, esc, escs, looks, mTru, dTru, mB, mNot, mAnd, mOr, mBv, mAndV, mOrV, mIf, mChain, mNil, mCons, mTup, mLst, mCB, mPart, mSl, mMut, mMut0, ownD, isLst, relent, mGet2, mCall0, mCall1, outV, lentD, mSeq, gN, gsNil, gsCons, gT, mR1, mR2, asInts, mAny, mKeys, mLc, mLc2, mDc, mNewD, wipeE, back, fI, fAdd, fSub, fNeg, cAll, fC, fLt, fLe, fGt, fGe, fIx, fIxS, D.isDct, atI, ixN, fLen, lenD, fList, fTuple, seqD, lstD, fInt, fAbs, fAppend, fExtend, fIsi, tys, D.ty, isTab, fEq_int, fNe_int, fSl, oneBls, oneInts, fAll, fAny, dec_true, dec_false, fDiv_ok, fMod_ok, fPow_ok, fMulI_l, fMulI_r], by omega, h3, H3, by simp [run0, run1, sSeq, sNx, sBk, sCt, sEx, sRet, sRetN, sIf, sSet, setC, unbw, putC, Val.cell, sPar, unbws, putCs, sFor, sUnp, sStore, stTo, stD, sRaise, M.bind, M.ret, M.lift, mVar, mC, m2, m1, hold, look, cellD, esc, escs, looks, mTru, dTru, mB, mNot, mAnd, mOr, mBv, mAndV, mOrV, mIf, mChain, mNil, mCons, mTup, mLst, mCB, mPart, mSl, mMut, mMut0, ownD, isLst, relent, mGet2, mCall0, mCall1, outV, lentD, mSeq, gN, gsNil, gsCons, gT, mR1, mR2, asInts, mAny, mKeys, mLc, mLc2, mDc, mNewD, wipeE, back, fI, fAdd, fSub, fNeg, cAll, fC, fLt, fLe, fGt, fGe, fIx, fIxS, D.isDct, atI, ixN, fLen, lenD, fList, fTuple, seqD, lstD, fInt, fAbs, fAppend, fExtend, fIsi, tys, D.ty, isTab, fEq_int, fNe_int, fSl, oneBls, oneInts, fAll, fAny, dec_true, dec_false, fDiv_ok, fMod_ok, fPow_ok, fMulI_l, fMulI_r], ?_, ?_⟩⟩
      · intro x hx
        rcases List.mem_append.mp hx with hx | hx
        · exact ha x hx
        · exact ⟨c, List.mem_singleton.mp hx, ⟨by omega, by omega, c2, fun p hp => by have := c3 p hp; omega⟩⟩
      · rw [List.length_append]; simp; omega) (intsD 0 6) [] [.sh (.fl (ns.map .int)), .ow h, .sh (.tup [.tup [.int 0, .int 0], .tup [.int 2, .int 0], .tup [.int 2, .int 2], .tup [.int 0, .int 2]]), .un, .un, .un] ⟨h, H, rfl, fun x hx => (nomatch hx), rfl⟩
  subst he1
  have r6 := mR1_ok (n := mCons (mC (.int 6)) mNil) (e := [.sh (.fl (ns.map .int)), .ow h, .sh (.tup [.tup [.int 0, .int 0], .tup [.int 2, .int 0], .tup [.int 2, .int 2], .tup [.int 0, .int 2]]), .un, .un, .un]) (j := 6) (e' := [.sh (.fl (ns.map .int)), .ow h, .sh (.tup [.tup [.int 0, .int 0], .tup [.int 2, .int 0], .tup [.int 2, .int 2], .tup [.int 0, .int 2]]), .un, .un, .un]) (by simp [run0, run1, sSeq, sNx, sBk, sCt, sEx, sRet, sRetN, sIf, sSet, setC, unbw, putC, Val.cell, sPar, unbws, putCs, sFor, sUnp, sStore, stTo, stD, sRaise, M.bind, M.ret, M.lift, mVar, mC, m2, m1, hold, look, cellD, esc, escs, looks, mTru, dTru, mB, mNot, mAnd, mOr, mBv, mAndV, mOrV, mIf, mChain, mNil, mCons, mTup, mLst, mCB, mPart, mSl, mMut, mMut0, ownD, isLst, relent, mGet2, mCall0, mCall1, outV, lentD, mSeq, gN, gsNil, gsCons, gT, mR1, mR2, asInts, mAny, mKeys, mLc, mLc2, mDc, mNewD, wipeE, back, fI, fAdd, fSub, fNeg, cAll, fC, fLt, fLe, fGt, fGe, fIx, fIxS, D.isDct, atI, ixN, fLen, lenD, fList, fTuple, seqD, lstD, fInt, fAbs, fAppend, fExtend, fIsi, tys, D.ty, isTab, fEq_int, fNe_int, fSl, oneBls, oneInts, fAll, fAny, dec_true, dec_false, fDiv_ok, fMod_ok, fPow_ok, fMulI_l, fMulI_r]) (by omega)
  have C1 : C_law_1 [.sh (.fl (ns.map .int)), .ow h, .sh (.tup [.tup [.int 0, .int 0], .tup [.int 2, .int 0], .tup [.int 2, .int 2], .tup [.int 0, .int 2]]), .un, .un, .un] = .ok (.ow (.lst acc)) [.sh (.fl (ns.map .int)), .ow h1, .sh (.tup [.tup [.int 0, .int 0], .tup [.int 2, .int 0], .tup [.int 2, .int 2], .tup [.int 0, .int 2]]), .un, .un, .un] := by
    have q1 : lcL [4] (gN 4) (M.ret true) E_law_1 (intsD 0 (6 : Int).toNat) [] (wipeE [.sh (.fl (ns.map .int)), .ow h, .sh (.tup [.tup [.int 0, .int 0], .tup [.int 2, .int 0], .tup [.int 2, .int 2], .tup [.int 0, .int 2]]), .un, .un, .un] [4]) = _ := q1
    simp only [C_law_1, mLc, M.bind, r6, q1]
    simp [back]
  -- each is right
  obtain ⟨bs, e2, q2, h2, H2, he2, hbs⟩ := lcL_ok (vs := [5]) (g := gN 5) (mt := M.ret true) (me := E_law_2) (fun ds bs e => ∃ h, Hand h ∧ e = [.sh (.fl (ns.map .int)), .ow h, .sh (.tup [.tup [.int 0, .int 0], .tup [.int 2, .int 0], .tup [.int 2, .int 2], .tup [.int 0, .int 2]]), .sh (.lst acc), .un, .un] ∧ (∀ x ∈ bs, x = .bl true) ∧ bs.length + ds.length = 6 ∧ ∀ x ∈ ds, ∃ c, x = crowdD c ∧ Good c)
    (fun d ds bs e i => by
      obtain ⟨h, H, rfl, ha, hn, hd⟩ := i
      rw [List.length_cons] at hn
      obtain ⟨c, rfl, g⟩ := hd d List.mem_cons_self
      obtain ⟨h1, e1, H1⟩ := is_right_ok H g
      refine ⟨[.sh (.fl (ns.map .int)), .ow h, .sh (.tup [.tup [.int 0, .int 0], .tup [.int 2, .int 0], .tup [.int 2, .int 2], .tup [.int 0, .int 2]]), .sh (.lst acc), .un, .sh (crowdD c)], [.sh (.fl (ns.map .int)), .ow h, .sh (.tup [.tup [.int 0, .int 0], .tup [.int 2, .int 0], .tup [.int 2, .int 2], .tup [.int 0, .int 2]]), .sh (.lst acc), .un, .sh (crowdD c)], by simp [run0, run1, sSeq, sNx, sBk, sCt, sEx, sRet, sRetN, sIf, sSet, setC, unbw, putC, Val.cell, sPar, unbws, putCs, sFor, sUnp, sStore, stTo, stD, sRaise, M.bind, M.ret, M.lift, mVar, mC, m2, m1, hold, look, cellD, esc, escs, looks, mTru, dTru, mB, mNot, mAnd, mOr, mBv, mAndV, mOrV, mIf, mChain, mNil, mCons, mTup, mLst, mCB, mPart, mSl, mMut, mMut0, ownD, isLst, relent, mGet2, mCall0, mCall1, outV, lentD, mSeq, gN, gsNil, gsCons, gT, mR1, mR2, asInts, mAny, mKeys, mLc, mLc2, mDc, mNewD, wipeE, back, fI, fAdd, fSub, fNeg, cAll, fC, fLt, fLe, fGt, fGe, fIx, fIxS, D.isDct, atI, ixN, fLen, lenD, fList, fTuple, seqD, lstD, fInt, fAbs, fAppend, fExtend, fIsi, tys, D.ty, isTab, fEq_int, fNe_int, fSl, oneBls, oneInts, fAll, fAny, dec_true, dec_false, fDiv_ok, fMod_ok, fPow_ok, fMulI_l, fMulI_r], .inl ⟨.sh (.bl true), [.sh (.fl (ns.map .int)), .ow h1, .sh (.tup [.tup [.int 0, .int 0], .tup [.int 2, .int 0], .tup [.int 2, .int 2], .tup [.int 0, .int 2]]), .sh (.lst acc), .un, .sh (crowdD c)], .bl true, [.sh (.fl (ns.map .int)), .ow h1, .sh (.tup [.tup [.int 0, .int 0], .tup [.int 2, .int 0], .tup [.int 2, .int 2], .tup [.int 0, .int 2]]), .sh (.lst acc), .un, .sh (crowdD c)], by simp [run0, run1, sSeq, sNx, sBk, sCt, sEx, sRet, sRetN, sIf, sSet, setC, unbw, putC, Val.cell, sPar, unbws, putCs, sFor, sUnp, sStore, stTo, stD, sRaise, M.bind, M.ret, M.lift, mVar, mC, m2, m1, hold, look, cellD, esc, escs, looks, mTru, dTru, mB, mNot, mAnd, mOr, mBv, mAndV, mOrV, mIf, mChain, mNil, mCons, mTup, mLst, mCB, mPart, mSl, mMut, mMut0, ownD, isLst, relent, mGet2, mCall0, mCall1, outV, lentD, mSeq, gN, gsNil, gsCons, gT, mR1, mR2, asInts, mAny, mKeys, mLc, mLc2, mDc, mNewD, wipeE, back, fI, fAdd, fSub, fNeg, cAll, fC, fLt, fLe, fGt, fGe, fIx, fIxS, D.isDct, atI, ixN, fLen, lenD, fList, fTuple, seqD, lstD, fInt, fAbs, fAppend, fExtend, fIsi, tys, D.ty, isTab, fEq_int, fNe_int, fSl, oneBls, oneInts, fAll, fAny, dec_true, dec_false, fDiv_ok, fMod_ok, fPow_ok, fMulI_l, fMulI_r], by simp [E_law_2, e1, run0, run1, sSeq, sNx, sBk, sCt, sEx, sRet, sRetN, sIf, sSet, setC, unbw, putC, Val.cell, sPar, unbws, putCs, sFor, sUnp, sStore, stTo, stD, sRaise, M.bind, M.ret, M.lift, mVar, mC, m2, m1, hold, look, cellD, esc, escs, looks, mTru, dTru, mB, mNot, mAnd, mOr, mBv, mAndV, mOrV, mIf, mChain, mNil, mCons, mTup, mLst, mCB, mPart, mSl, mMut, mMut0, ownD, isLst, relent, mGet2, mCall0, mCall1, outV, lentD, mSeq, gN, gsNil, gsCons, gT, mR1, mR2, asInts, mAny, mKeys, mLc, mLc2, mDc, mNewD, wipeE, back, fI, fAdd, fSub, fNeg, cAll, fC, fLt, fLe, fGt, fGe, fIx, fIxS, D.isDct, atI, ixN, fLen, lenD, fList, fTuple, seqD, lstD, fInt, fAbs, fAppend, fExtend, fIsi, tys, D.ty, isTab, fEq_int, fNe_int, fSl, oneBls, oneInts, fAll, fAny, dec_true, dec_false, fDiv_ok, fMod_ok, fPow_ok, fMulI_l, fMulI_r], by simp [run0, run1, sSeq, sNx, sBk, sCt, sEx, sRet, sRetN, sIf, sSet, setC, unbw, putC, Val.cell, sPar, unbws, putCs, sFor, sUnp, sStore, stTo, stD, sRaise, M.bind, M.ret, M.lift, mVar, mC, m2, m1, hold, look, cellD, esc, escs, looks, mTru, dTru, mB, mNot, mAnd, mOr, mBv, mAndV, mOrV, mIf, mChain, mNil, mCons, mTup, mLst, mCB, mPart, mSl, mMut, mMut0, ownD, isLst, relent, mGet2, mCall0, mCall1, outV, lentD, mSeq, gN, gsNil, gsCons, gT, mR1, mR2, asInts, mAny, mKeys, mLc, mLc2, mDc, mNewD, wipeE, back, fI, fAdd, fSub, fNeg, cAll, fC, fLt, fLe, fGt, fGe, fIx, fIxS, D.isDct, atI, ixN, fLen, lenD, fList, fTuple, seqD, lstD, fInt, fAbs, fAppend, fExtend, fIsi, tys, D.ty, isTab, fEq_int, fNe_int, fSl, oneBls, oneInts, fAll, fAny, dec_true, dec_false, fDiv_ok, fMod_ok, fPow_ok, fMulI_l, fMulI_r], by omega, h1, H1, by simp [run0, run1, sSeq, sNx, sBk, sCt, sEx, sRet, sRetN, sIf, sSet, setC, unbw, putC, Val.cell, sPar, unbws, putCs, sFor, sUnp, sStore, stTo, stD, sRaise, M.bind, M.ret, M.lift, mVar, mC, m2, m1, hold, look, cellD, esc, escs, looks, mTru, dTru, mB, mNot, mAnd, mOr, mBv, mAndV, mOrV, mIf, mChain, mNil, mCons, mTup, mLst, mCB, mPart, mSl, mMut, mMut0, ownD, isLst, relent, mGet2, mCall0, mCall1, outV, lentD, mSeq, gN, gsNil, gsCons, gT, mR1, mR2, asInts, mAny, mKeys, mLc, mLc2, mDc, mNewD, wipeE, back, fI, fAdd, fSub, fNeg, cAll, fC, fLt, fLe, fGt, fGe, fIx, fIxS, D.isDct, atI, ixN, fLen, lenD, fList, fTuple, seqD, lstD, fInt, fAbs, fAppend, fExtend, fIsi, tys, D.ty, isTab, fEq_int, fNe_int, fSl, oneBls, oneInts, fAll, fAny, dec_true, dec_false, fDiv_ok, fMod_ok, fPow_ok, fMulI_l, fMulI_r], ?_, ?_, fun x m => hd x (List.mem_cons_of_mem _ m)⟩⟩
      · intro x hx
        rcases List.mem_append.mp hx with hx | hx
        · exact ha x hx
        · exact List.mem_singleton.mp hx
      · rw [List.length_append]; simp; omega) acc [] [.sh (.fl (ns.map .int)), .ow h1, .sh (.tup [.tup [.int 0, .int 0], .tup [.int 2, .int 0], .tup [.int 2, .int 2], .tup [.int 0, .int 2]]), .sh (.lst acc), .un, .un] ⟨h1, H1, rfl, fun x hx => (nomatch hx), by simpa using hlen, hacc⟩
  subst he2
  have C2 : C_law_2 [.sh (.fl (ns.map .int)), .ow h1, .sh (.tup [.tup [.int 0, .int 0], .tup [.int 2, .int 0], .tup [.int 2, .int 2], .tup [.int 0, .int 2]]), .ow (.lst acc), .un, .un] = .ok (.ow (.lst bs)) [.sh (.fl (ns.map .int)), .ow h2, .sh (.tup [.tup [.int 0, .int 0], .tup [.int 2, .int 0], .tup [.int 2, .int 2], .tup [.int 0, .int 2]]), .sh (.lst acc), .un, .un] := by
    have i : mAny 3 [.sh (.fl (ns.map .int)), .ow h1, .sh (.tup [.tup [.int 0, .int 0], .tup [.int 2, .int 0], .tup [.int 2, .int 2], .tup [.int 0, .int 2]]), .ow (.lst acc), .un, .un] = .ok acc [.sh (.fl (ns.map .int)), .ow h1, .sh (.tup [.tup [.int 0, .int 0], .tup [.int 2, .int 0], .tup [.int 2, .int 2], .tup [.int 0, .int 2]]), .sh (.lst acc), .un, .un] := by simp [run0, run1, sSeq, sNx, sBk, sCt, sEx, sRet, sRetN, sIf, sSet, setC, unbw, putC, Val.cell, sPar, unbws, putCs, sFor, sUnp, sStore, stTo, stD, sRaise, M.bind, M.ret, M.lift, mVar, mC, m2, m1, hold, look, cellD, esc, escs, looks, mTru, dTru, mB, mNot, mAnd, mOr, mBv, mAndV, mOrV, mIf, mChain, mNil, mCons, mTup, mLst, mCB, mPart, mSl, mMut, mMut0, ownD, isLst, relent, mGet2, mCall0, mCall1, outV, lentD, mSeq, gN, gsNil, gsCons, gT, mR1, mR2, asInts, mAny, mKeys, mLc, mLc2, mDc, mNewD, wipeE, back, fI, fAdd, fSub, fNeg, cAll, fC, fLt, fLe, fGt, fGe, fIx, fIxS, D.isDct, atI, ixN, fLen, lenD, fList, fTuple, seqD, lstD, fInt, fAbs, fAppend, fExtend, fIsi, tys, D.ty, isTab, fEq_int, fNe_int, fSl, oneBls, oneInts, fAll, fAny, dec_true, dec_false, fDiv_ok, fMod_ok, fPow_ok, fMulI_l, fMulI_r]
    have q2 : lcL [5] (gN 5) (M.ret true) E_law_2 acc [] (wipeE [.sh (.fl (ns.map .int)), .ow h1, .sh (.tup [.tup [.int 0, .int 0], .tup [.int 2, .int 0], .tup [.int 2, .int 2], .tup [.int 0, .int 2]]), .sh (.lst acc), .un, .un] [5]) = _ := q2
    simp only [C_law_2, mLc, M.bind, i, q2]
    simp [back]
  have al : fAll [.lst bs] = some (.sh (.bl true)) := by
    have := fAll_true bs (f := fun d => d) fun x hx => hbs.1 x hx
    rwa [List.map_id'] at this
  simp [F_law, B_law, e0, s1, s2, t1, t2, n1, n2, n3, C1, C2, al, run0, run1, sSeq, sNx, sBk, sCt, sEx, sRet, sRetN, sIf, sSet, setC, unbw, putC, Val.cell, sPar, unbws, putCs, sFor, sUnp, sStore, stTo, stD, sRaise, M.bind, M.ret, M.lift, mVar, mC, m2, m1, hold, look, cellD, esc, escs, looks, mTru, dTru, mB, mNot, mAnd, mOr, mBv, mAndV, mOrV, mIf, mChain, mNil, mCons, mTup, mLst, mCB, mPart, mSl, mMut, mMut0, ownD, isLst, relent, mGet2, mCall0, mCall1, outV, lentD, mSeq, gN, gsNil, gsCons, gT, mR1, mR2, asInts, mAny, mKeys, mLc, mLc2, mDc, mNewD, wipeE, back, fI, fAdd, fSub, fNeg, cAll, fC, fLt, fLe, fGt, fGe, fIx, fIxS, D.isDct, atI, ixN, fLen, lenD, fList, fTuple, seqD, lstD, fInt, fAbs, fAppend, fExtend, fIsi, tys, D.ty, isTab, fEq_int, fNe_int, fSl, dec_true, dec_false, fDiv_ok, fMod_ok, fPow_ok, fMulI_l, fMulI_r]
end Lw

namespace Lw
open PySem PySem.Spec PyProof.Rows L2 VS
theorem tops {K : PySem.W.Frag} {h : Heap} {mg : Str → Option Value} (X : K.In h) (G : h.Ns mainGlobals mg) (c : He.SaysD Hd.fa Hd.fn K) : Tops K mg where
  n_ValueError := He.free_ok X G (c.fact 37 (f := .free "ValueError") rfl)
  n_abs := He.free_ok X G (c.fact 38 (f := .free "abs") rfl)
  n_all := He.free_ok X G (c.fact 39 (f := .free "all") rfl)
  n_bool := He.free_ok X G (c.fact 40 (f := .free "bool") rfl)
  n_int := He.free_ok X G (c.fact 41 (f := .free "int") rfl)
  n_isinstance := He.free_ok X G (c.fact 42 (f := .free "isinstance") rfl)
  n_len := He.free_ok X G (c.fact 43 (f := .free "len") rfl)
  n_list := He.free_ok X G (c.fact 44 (f := .free "list") rfl)
  n_max := He.free_ok X G (c.fact 45 (f := .free "max") rfl)
  n_min := He.free_ok X G (c.fact 46 (f := .free "min") rfl)
  n_range := He.free_ok X G (c.fact 47 (f := .free "range") rfl)
  n_repr := He.free_ok X G (c.fact 48 (f := .free "repr") rfl)
  n_sorted := He.free_ok X G (c.fact 49 (f := .free "sorted") rfl)
  n_tuple := He.free_ok X G (c.fact 50 (f := .free "tuple") rfl)
  d_is_integer := by obtain ⟨fd, F⟩ := c.def_ 0 (d := Hd.d_is_integer) rfl; exact ⟨_, fd, F, He.glo_ok X G (c.fact 0 (f := .glo "is_integer") rfl)⟩
  d_is_within := by obtain ⟨fd, F⟩ := c.def_ 1 (d := Hd.d_is_within) rfl; exact ⟨_, fd, F, He.glo_ok X G (c.fact 1 (f := .glo "is_within") rfl)⟩
  d_is_dot := by obtain ⟨fd, F⟩ := c.def_ 2 (d := Hd.d_is_dot) rfl; exact ⟨_, fd, F, He.glo_ok X G (c.fact 2 (f := .glo "is_dot") rfl)⟩
  d_check_dots := by obtain ⟨fd, F⟩ := c.def_ 3 (d := Hd.d_check_dots) rfl; exact ⟨_, fd, F, He.glo_ok X G (c.fact 3 (f := .glo "check_dots") rfl)⟩
  d_is_crowd := by obtain ⟨fd, F⟩ := c.def_ 4 (d := Hd.d_is_crowd) rfl; exact ⟨_, fd, F, He.glo_ok X G (c.fact 4 (f := .glo "is_crowd") rfl)⟩
  d_check_crowd := by obtain ⟨fd, F⟩ := c.def_ 5 (d := Hd.d_check_crowd) rfl; exact ⟨_, fd, F, He.glo_ok X G (c.fact 5 (f := .glo "check_crowd") rfl)⟩
  d_lots_of := by obtain ⟨fd, F⟩ := c.def_ 6 (d := Hd.d_lots_of) rfl; exact ⟨_, fd, F, He.glo_ok X G (c.fact 6 (f := .glo "lots_of") rfl)⟩
  d_near_enough := by obtain ⟨fd, F⟩ := c.def_ 7 (d := Hd.d_near_enough) rfl; exact ⟨_, fd, F, He.glo_ok X G (c.fact 7 (f := .glo "near_enough") rfl)⟩
  d_moved := by obtain ⟨fd, F⟩ := c.def_ 8 (d := Hd.d_moved) rfl; exact ⟨_, fd, F, He.glo_ok X G (c.fact 8 (f := .glo "moved") rfl)⟩
  d_mirrored := by obtain ⟨fd, F⟩ := c.def_ 9 (d := Hd.d_mirrored) rfl; exact ⟨_, fd, F, He.glo_ok X G (c.fact 9 (f := .glo "mirrored") rfl)⟩
  d_raw_far := by obtain ⟨fd, F⟩ := c.def_ 10 (d := Hd.d_raw_far) rfl; exact ⟨_, fd, F, He.glo_ok X G (c.fact 10 (f := .glo "raw_far") rfl)⟩
  d_raw_far_counts := by obtain ⟨fd, F⟩ := c.def_ 11 (d := Hd.d_raw_far_counts) rfl; exact ⟨_, fd, F, He.glo_ok X G (c.fact 11 (f := .glo "raw_far_counts") rfl)⟩
  d_as_pairs := by obtain ⟨fd, F⟩ := c.def_ 12 (d := Hd.d_as_pairs) rfl; exact ⟨_, fd, F, He.glo_ok X G (c.fact 12 (f := .glo "as_pairs") rfl)⟩
  d_far_counts := by obtain ⟨fd, F⟩ := c.def_ 13 (d := Hd.d_far_counts) rfl; exact ⟨_, fd, F, He.glo_ok X G (c.fact 13 (f := .glo "far_counts") rfl)⟩
  d_most_often := by obtain ⟨fd, F⟩ := c.def_ 14 (d := Hd.d_most_often) rfl; exact ⟨_, fd, F, He.glo_ok X G (c.fact 14 (f := .glo "most_often") rfl)⟩
  d_unlike_far_many := by obtain ⟨fd, F⟩ := c.def_ 15 (d := Hd.d_unlike_far_many) rfl; exact ⟨_, fd, F, He.glo_ok X G (c.fact 15 (f := .glo "unlike_far_many") rfl)⟩
  d__law_hand := by obtain ⟨fd, F⟩ := c.def_ 16 (d := Hd.d__law_hand) rfl; exact ⟨_, fd, F, He.glo_ok X G (c.fact 16 (f := .glo "_law_hand") rfl)⟩
  d__law_draw := by obtain ⟨fd, F⟩ := c.def_ 17 (d := Hd.d__law_draw) rfl; exact ⟨_, fd, F, He.glo_ok X G (c.fact 17 (f := .glo "_law_draw") rfl)⟩
  d__law_any := by obtain ⟨fd, F⟩ := c.def_ 18 (d := Hd.d__law_any) rfl; exact ⟨_, fd, F, He.glo_ok X G (c.fact 18 (f := .glo "_law_any") rfl)⟩
  d__law_mixed := by obtain ⟨fd, F⟩ := c.def_ 19 (d := Hd.d__law_mixed) rfl; exact ⟨_, fd, F, He.glo_ok X G (c.fact 19 (f := .glo "_law_mixed") rfl)⟩
  d__law_lots := by obtain ⟨fd, F⟩ := c.def_ 20 (d := Hd.d__law_lots) rfl; exact ⟨_, fd, F, He.glo_ok X G (c.fact 20 (f := .glo "_law_lots") rfl)⟩
  d__law_crowd := by obtain ⟨fd, F⟩ := c.def_ 21 (d := Hd.d__law_crowd) rfl; exact ⟨_, fd, F, He.glo_ok X G (c.fact 21 (f := .glo "_law_crowd") rfl)⟩
  d__law_far := by obtain ⟨fd, F⟩ := c.def_ 22 (d := Hd.d__law_far) rfl; exact ⟨_, fd, F, He.glo_ok X G (c.fact 22 (f := .glo "_law_far") rfl)⟩
  d__law_far_counts := by obtain ⟨fd, F⟩ := c.def_ 23 (d := Hd.d__law_far_counts) rfl; exact ⟨_, fd, F, He.glo_ok X G (c.fact 23 (f := .glo "_law_far_counts") rfl)⟩
  d__law_is_right := by obtain ⟨fd, F⟩ := c.def_ 24 (d := Hd.d__law_is_right) rfl; exact ⟨_, fd, F, He.glo_ok X G (c.fact 24 (f := .glo "_law_is_right") rfl)⟩
  d_law := by obtain ⟨fd, F⟩ := c.def_ 25 (d := Hd.d_law) rfl; exact ⟨_, fd, F, He.glo_ok X G (c.fact 25 (f := .glo "law") rfl)⟩
  e_CrowdError := ⟨_, He.glo_ok X G (c.fact 26 (f := .glo "CrowdError") rfl), He.exc_ok (K := K) (x := "CrowdError") (c.fact 27 (f := .exc "CrowdError") rfl)⟩
  e_NoDot := ⟨_, He.glo_ok X G (c.fact 28 (f := .glo "NoDot") rfl), He.exc_ok (K := K) (x := "NoDot") (c.fact 29 (f := .exc "NoDot") rfl)⟩
  e_NoCrowd := ⟨_, He.glo_ok X G (c.fact 30 (f := .glo "NoCrowd") rfl), He.exc_ok (K := K) (x := "NoCrowd") (c.fact 31 (f := .exc "NoCrowd") rfl)⟩
  e_TooFar := ⟨_, He.glo_ok X G (c.fact 32 (f := .glo "TooFar") rfl), He.exc_ok (K := K) (x := "TooFar") (c.fact 33 (f := .exc "TooFar") rfl)⟩
  i_MOST_PLACE := He.int_ok X G (c.fact 34 (f := .int "MOST_PLACE" 10000) rfl)
  i_LEAST_CROWD := He.int_ok X G (c.fact 35 (f := .int "LEAST_CROWD" 3) rfl)
  i_MOST_CROWD := He.int_ok X G (c.fact 36 (f := .int "MOST_CROWD" 12) rfl)
end Lw
open PySem PySem.Spec PyProof.Rows L2 VS
namespace Lw
theorem facts {P : Program} {w : World} {K : PySem.W.Frag} {h : Heap} {mg : Str → Option Value} {fa : Addr} (X : K.In h) (G : h.Ns mainGlobals mg) (g : mg ("law" : Str) = some (.ref fa)) (c : He.SaysD Hd.fa Hd.fn K) :
    ∃ fd : FuncData, (∀ (s : Shared) (v : Value), BindsTo s fd ⟨[v], []⟩ [("script", v)]) ∧ ∀ base : Heap, FnG P w K mg base 8 fa fd ["script"] (Prom0 K mg 1 F_law) := by
  have T := tops X G c
  obtain ⟨f, fd, F, hf⟩ := T.d_law
  rw [g] at hf
  cases hf
  exact ⟨fd, fun s v => FunD.bindsA (ps := ["script"]) F (fun _ _ _ _ _ _ us hl => match us, hl with | [_], _ => rfl) s [v] rfl, fun base => fn_law T F⟩
end Lw
open PySem PySem.W PySem.Calls PyProof.Rows
theorem PySem.Challenge.cw_dotcrowds_k87_whole_squares_of_how_far_holds : PySem.Challenge.rw_dotcrowds_k87_whole_squares_of_how_far.Holds := by
  w_on; o_law; refine HandSHeadRun.head_any (r := OpenLaw.row PySem.Challenge.rw_dotcrowds_k87_whole_squares_of_how_far) (q := view (OpenLaw.row PySem.Challenge.rw_dotcrowds_k87_whole_squares_of_how_far).prog [38]) (H := Hd.hk) (ob := Hd.ob) (M := 4000) (loose := Hd.ls) (d := HandSHeadRun.topDef (OpenLaw.row PySem.Challenge.rw_dotcrowds_k87_whole_squares_of_how_far).prog 38) (kwd := []) Hd.ob_eq (by kernel_rfl) (fun s => by kernel_rfl) Hd.run (by kernel_rfl) (by kernel_rfl) (by kernel_rfl) (by rfl) (by first | assumption | decide +kernel) (by decide +kernel) ⟨rfl, rfl, rfl, rfl, rfl, by decide +kernel⟩ ?witness ?walk
  case witness => w_witness2
  case walk =>
    refine VS.law_end (l := PySem.Challenge.rw_dotcrowds_k87_whole_squares_of_how_far) (n := 63) (k := 8) (x := "script") (F := Lw.F_law) rfl (by decide) (by kernel_rfl) ⟨rfl, by decide, by decide⟩ Lw.plain fun w mg fa h Y G g0 => ?_
    obtain ⟨K, KX, cs⟩ := Y
    have g1 : mg ("law" : PySem.Str) = some (.ref fa) := (show (HandSHeadRun.topDef (OpenLaw.row PySem.Challenge.rw_dotcrowds_k87_whole_squares_of_how_far).prog 38).name = ("law" : PySem.Str) from by kernel_rfl) ▸ g0
    obtain ⟨fd, hb, hF⟩ := Lw.facts (P := PySem.Challenge.rw_dotcrowds_k87_whole_squares_of_how_far.prog) (w := w) KX G g1 cs
    exact ⟨K, fd, KX, hb, fun base _ _ => hF base⟩
