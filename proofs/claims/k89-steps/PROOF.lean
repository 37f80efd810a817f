import PyProof.Rows.All
import Wide.All
import OpenK.AllK
import Wide.FinOn
import HandS.ForMost
import HandS.ForExc
import HandS.Conv
import HandS.Zip
import HandS.Deep
import HandS.TupAny
import HandS.IsInst
import HandS.DictComp
import HandS.More
import HandS.SortRule
import HandS.SortInts
import HandS.TupLe
import HandS.Small
import HandS.ExcInit
import HandS.RaiseMore
import HandS.Defaults
import HandS.Wide
import HandS.WideMore
import HandS.Style
import HandS.NoneIn
import HandS.CallSlots
import HandS.WordsExc
import HandS.HeadEnd
import HandS.HeadHook2
import KE.SortData
import KE.SortLaws
import HandS.Words
import PyProof.ReprRoads
import HandS.Iter
import HandS.Head0
import HandS.Head1
import HandS.Head2
import HandS.HeadHook1
import KE.GoesEnum
import KE.GoesNew
import KE.KDictSum
import KE.KStateDown
import Lean
import HandS.Base
import HandS.Call
import HandS.Ends
import PySem.Challenge.RW_dotcrowds_k89_whole_steps_and_moved_crow
set_option Elab.async false
set_option linter.all false
set_option maxRecDepth 100000
set_option maxHeartbeats 0
/-! VA: data by value (D), how a value of the abstract heap bears it (Rep), names' cells, the state's relation (Rel). -/
namespace VS
open PySem PySem.Spec PyProof.Rows L2

/-- decided, but not by reckoning -/
noncomputable def dec (p : Prop) : Bool := @decide p (Classical.propDecidable p)
theorem dec_true {p : Prop} (h : p) : dec p = true := @decide_eq_true p (Classical.propDecidable p) h
theorem dec_false {p : Prop} (h : ¬ p) : dec p = false := @decide_eq_false p (Classical.propDecidable p) h
theorem of_dec {p : Prop} (h : dec p = true) : p := @of_decide_eq_true p (Classical.propDecidable p) h
theorem dec_eq (p : Prop) [Decidable p] : dec p = decide p := by
  by_cases h : p
  · rw [dec_true h, decide_eq_true h]
  · rw [dec_false h, decide_eq_false h]

/-- data by value; op: a closed value (a def, a class, a type); fl: a list that may be frozen (the script); dct: a dict, whose keys are ints and texts (false) or tuples of these (true) -/
inductive D where
  | non | bl (b : Bool) | int (i : Int) | str (x : Str)
  | lst (xs : List D) | tup (xs : List D) | dct (t : Bool) (kvs : List (D × D)) | op (v : V) | fl (xs : List D)
  deriving Inhabited

def kD : Key → D
  | .inl i => .int i
  | .inr x => .str x
def tD (k : List Key) : D := .tup (k.map kD)

abbrev Sub (H H' : Hp) : Prop := ∀ a o, H a = some o → H' a = some o
theorem Sub.refl (H : Hp) : Sub H H := fun _ _ h => h
theorem Sub.trans {H H1 H2 : Hp} (a : Sub H H1) (b : Sub H1 H2) : Sub H H2 := fun c o h => b c o (a c o h)
theorem Sub.new {H : Hp} {p : Addr} {o : HO} (h : H p = none) : Sub H (upd H p o) := fun b x e => by
  rw [upd_ne (ne_of_none e h)]
  exact e
theorem Sub.rd {H H' : Hp} (s : Sub H H') {a : Addr} {u : HO} (h : Rd H a u) : Rd H' a u := by
  rcases h with h | ⟨o, h⟩
  · exact .inl (s a _ h)
  · exact .inr ⟨o, s a _ h⟩
theorem Sub.sqL {K : PySem.W.Frag} {H H' : Hp} (s : Sub H H') {a : Addr} {xs : List V} (h : SqL K H a xs) : SqL K H' a xs := by
  rcases h with h | h
  · exact .inl (s.rd h)
  · exact .inr h
theorem Sub.none {H H' : Hp} (s : Sub H H') {a : Addr} (h : H' a = Option.none) : H a = Option.none := by
  cases q : H a with
  | none => rfl
  | some o => rw [s a o q] at h; cases h

mutual
inductive Rep (K : PySem.W.Frag) (H : Hp) : V → D → Prop
  | non : Rep K H .non .non
  | bl (b : Bool) : Rep K H (.bl b) (.bl b)
  | int (i : Int) : Rep K H (.int i) (.int i)
  | str (x : Str) : Rep K H (.str x) (.str x)
  | lst {a : Addr} {xs : List V} {ds : List D} : H a = some (.lst xs) → Reps K H xs ds → Rep K H (.ref a) (.lst ds)
  | tup {a : Addr} {xs : List V} {ds : List D} : H a = some (.tup xs) → Reps K H xs ds → Rep K H (.ref a) (.tup ds)
  | dK {a : Addr} {kvs : List (Key × V)} {l : List (D × D)} : Rd H a (.dK kvs) → RepsK K H kvs l → Rep K H (.ref a) (.dct false l)
  | dT {a : Addr} {kvs : List (List Key × V)} {l : List (D × D)} : Rd H a (.dT kvs) → RepsT K H kvs l → Rep K H (.ref a) (.dct true l)
  | op (v : V) : Rep K H v (.op v)
  | fl {a : Addr} {xs : List V} {ds : List D} : SqL K H a xs → Reps K H xs ds → Rep K H (.ref a) (.fl ds)
inductive Reps (K : PySem.W.Frag) (H : Hp) : List V → List D → Prop
  | nil : Reps K H [] []
  | cons {v : V} {vs : List V} {d : D} {ds : List D} : Rep K H v d → Reps K H vs ds → Reps K H (v :: vs) (d :: ds)
inductive RepsK (K : PySem.W.Frag) (H : Hp) : List (Key × V) → List (D × D) → Prop
  | nil : RepsK K H [] []
  | cons {k : Key} {v : V} {kvs : List (Key × V)} {d : D} {l : List (D × D)} : Rep K H v d → RepsK K H kvs l → RepsK K H ((k, v) :: kvs) ((kD k, d) :: l)
inductive RepsT (K : PySem.W.Frag) (H : Hp) : List (List Key × V) → List (D × D) → Prop
  | nil : RepsT K H [] []
  | cons {k : List Key} {v : V} {kvs : List (List Key × V)} {d : D} {l : List (D × D)} : Rep K H v d → RepsT K H kvs l → RepsT K H ((k, v) :: kvs) ((tD k, d) :: l)
end

section
variable {K : PySem.W.Frag} {H H' : Hp}
mutual
theorem Rep.mono (s : Sub H H') : ∀ {v : V} {d : D}, Rep K H v d → Rep K H' v d
  | _, _, .non => .non
  | _, _, .bl b => .bl b
  | _, _, .int i => .int i
  | _, _, .str x => .str x
  | _, _, .lst h r => .lst (s _ _ h) (Reps.mono s r)
  | _, _, .fl h r => .fl (s.sqL h) (Reps.mono s r)
  | _, _, .tup h r => .tup (s _ _ h) (Reps.mono s r)
  | _, _, .dK h r => .dK (s.rd h) (RepsK.mono s r)
  | _, _, .dT h r => .dT (s.rd h) (RepsT.mono s r)
  | _, _, .op v => .op v
theorem Reps.mono (s : Sub H H') : ∀ {vs : List V} {ds : List D}, Reps K H vs ds → Reps K H' vs ds
  | _, _, .nil => .nil
  | _, _, .cons r t => .cons (Rep.mono s r) (Reps.mono s t)
theorem RepsK.mono (s : Sub H H') : ∀ {vs : List (Key × V)} {ds : List (D × D)}, RepsK K H vs ds → RepsK K H' vs ds
  | _, _, .nil => .nil
  | _, _, .cons r t => .cons (Rep.mono s r) (RepsK.mono s t)
theorem RepsT.mono (s : Sub H H') : ∀ {vs : List (List Key × V)} {ds : List (D × D)}, RepsT K H vs ds → RepsT K H' vs ds
  | _, _, .nil => .nil
  | _, _, .cons r t => .cons (Rep.mono s r) (RepsT.mono s t)
end
theorem Reps.length : ∀ {vs : List V} {ds : List D}, Reps K H vs ds → vs.length = ds.length
  | _, _, .nil => rfl
  | _, _, .cons _ t => by rw [List.length_cons, List.length_cons, Reps.length t]
theorem Reps.append : ∀ {vs ws : List V} {ds es : List D}, Reps K H vs ds → Reps K H ws es → Reps K H (vs ++ ws) (ds ++ es)
  | _, _, _, _, .nil, s => s
  | _, _, _, _, .cons r t, s => .cons r (Reps.append t s)
theorem Reps.one {v : V} {d : D} (r : Rep K H v d) : Reps K H [v] [d] := .cons r .nil
theorem Reps.get : ∀ {vs : List V} {ds : List D} {i : Nat} {d : D}, Reps K H vs ds → ds[i]? = some d → ∃ v, vs[i]? = some v ∧ Rep K H v d
  | _, _, _, _, .nil, e => by simp at e
  | _, _, 0, _, .cons r _, e => by simp at e; subst e; exact ⟨_, rfl, r⟩
  | _, _, i + 1, d, .cons _ t, e => by
    obtain ⟨v, h1, h2⟩ := Reps.get (i := i) (d := d) t (by simpa using e)
    exact ⟨v, by simpa using h1, h2⟩
theorem Reps.get' : ∀ {vs : List V} {ds : List D} {i : Nat} {v : V}, Reps K H vs ds → vs[i]? = some v → ∃ d, ds[i]? = some d ∧ Rep K H v d
  | _, _, _, _, .nil, e => by simp at e
  | _, _, 0, _, .cons r _, e => by simp at e; subst e; exact ⟨_, rfl, r⟩
  | _, _, i + 1, d, .cons _ t, e => by
    obtain ⟨v, h1, h2⟩ := Reps.get' (i := i) (v := d) t (by simpa using e)
    exact ⟨v, by simpa using h1, h2⟩
theorem Reps.take : ∀ {vs : List V} {ds : List D} (n : Nat), Reps K H vs ds → Reps K H (vs.take n) (ds.take n)
  | _, _, 0, _ => .nil
  | _, _, _ + 1, .nil => .nil
  | _, _, n + 1, .cons r t => .cons r (Reps.take n t)
theorem Reps.drop : ∀ {vs : List V} {ds : List D} (n : Nat), Reps K H vs ds → Reps K H (vs.drop n) (ds.drop n)
  | _, _, 0, r => r
  | _, _, _ + 1, .nil => .nil
  | _, _, n + 1, .cons _ t => Reps.drop n t
theorem Reps.reverse : ∀ {vs : List V} {ds : List D}, Reps K H vs ds → Reps K H vs.reverse ds.reverse
  | _, _, .nil => .nil
  | _, _, .cons r t => by rw [List.reverse_cons, List.reverse_cons]; exact Reps.append (Reps.reverse t) (.one r)
theorem Reps.set {v : V} {d : D} (r : Rep K H v d) : ∀ {vs : List V} {ds : List D} (i : Nat), Reps K H vs ds → Reps K H (vs.set i v) (ds.set i d)
  | _, _, _, .nil => .nil
  | _, _, 0, .cons _ t => .cons r t
  | _, _, i + 1, .cons q t => .cons q (Reps.set r i t)
theorem Reps.eraseIdx : ∀ {vs : List V} {ds : List D} (i : Nat), Reps K H vs ds → Reps K H (vs.eraseIdx i) (ds.eraseIdx i)
  | _, _, _, .nil => .nil
  | _, _, 0, .cons _ t => t
  | _, _, i + 1, .cons q t => .cons q (Reps.eraseIdx i t)
theorem RepsK.length : ∀ {vs : List (Key × V)} {ds : List (D × D)}, RepsK K H vs ds → vs.length = ds.length
  | _, _, .nil => rfl
  | _, _, .cons _ t => by rw [List.length_cons, List.length_cons, RepsK.length t]
theorem RepsT.length : ∀ {vs : List (List Key × V)} {ds : List (D × D)}, RepsT K H vs ds → vs.length = ds.length
  | _, _, .nil => rfl
  | _, _, .cons _ t => by rw [List.length_cons, List.length_cons, RepsT.length t]
end

/-! ### what is owned: a list or a dict whose parts are shared -/
def Own (K : PySem.W.Frag) (W H : Hp) (p : Addr) : D → Prop
  | .lst ds => ∃ vs, H p = some (.lst vs) ∧ Reps K W vs ds
  | .dct false l => ∃ kvs, H p = some (.dK kvs) ∧ RepsK K W kvs l
  | .dct true l => ∃ kvs, H p = some (.dT kvs) ∧ RepsT K W kvs l
  | _ => False
theorem Own.mono {K : PySem.W.Frag} {W W' H H' : Hp} {p : Addr} {d : D} (h : Own K W H p d) (s : Sub W W') (e : ∀ o, H p = some o → H' p = some o) : Own K W' H' p d := by
  cases d with
  | lst ds => obtain ⟨vs, a, b⟩ := h; exact ⟨vs, e _ a, b.mono s⟩
  | dct t l =>
    cases t
    · obtain ⟨kvs, a, b⟩ := h; exact ⟨kvs, e _ a, b.mono s⟩
    · obtain ⟨kvs, a, b⟩ := h; exact ⟨kvs, e _ a, b.mono s⟩
  | _ => exact h.elim
/-- no tuple -/
abbrev NT (o : HO) : Prop := ∀ xs, o ≠ .tup xs
theorem Own.nt {K : PySem.W.Frag} {W H : Hp} {p : Addr} {d : D} {o : HO} (h : Own K W H p d) (e : H p = some o) : NT o := by
  cases d with
  | lst ds => obtain ⟨vs, a, _⟩ := h; rw [a] at e; cases e; intro xs; simp
  | dct t l =>
    cases t
    · obtain ⟨kvs, a, b⟩ := h; rw [a] at e; cases e; intro xs; simp
    · obtain ⟨kvs, a, b⟩ := h; rw [a] at e; cases e; intro xs; simp
  | _ => exact h.elim
theorem Own.some {K : PySem.W.Frag} {W H : Hp} {p : Addr} {d : D} (h : Own K W H p d) : ∃ o, H p = some o := by
  cases d with
  | lst ds => obtain ⟨vs, a, _⟩ := h; exact ⟨_, a⟩
  | dct t l =>
    cases t
    · obtain ⟨kvs, a, b⟩ := h; exact ⟨_, a⟩
    · obtain ⟨kvs, a, b⟩ := h; exact ⟨_, a⟩
  | _ => exact h.elim
/-- made part of the shared world -/
theorem Own.rep {K : PySem.W.Frag} {W W' H : Hp} {p : Addr} {d : D} (h : Own K W H p d) (s : Sub W W') (e : ∀ o, H p = Option.some o → W' p = Option.some o) : Rep K W' (.ref p) d := by
  cases d with
  | lst ds => obtain ⟨vs, a, b⟩ := h; exact .lst (e _ a) (b.mono s)
  | dct t l =>
    cases t
    · obtain ⟨kvs, a, b⟩ := h; exact .dK (.inl (e _ a)) (b.mono s)
    · obtain ⟨kvs, a, b⟩ := h; exact .dT (.inl (e _ a)) (b.mono s)
  | _ => exact h.elim

/-- a value to be read: shared, or owned with shared parts -/
def RepO (K : PySem.W.Frag) (W H : Hp) (v : V) (d : D) : Prop := Rep K W v d ∨ ∃ p, v = .ref p ∧ Own K W H p d
theorem RepO.rep {K : PySem.W.Frag} {W H : Hp} {v : V} {d : D} (s : Sub W H) (h : RepO K W H v d) : Rep K H v d := by
  rcases h with h | ⟨p, rfl, h⟩
  · exact h.mono s
  · exact h.rep s fun _ e => e

/-! ### cells of names -/
inductive Cell where
  | un | sh (d : D) | ow (d : D) | ln (d : D)
  deriving Inhabited
abbrev Env := List Cell
def Cell.own : Cell → Bool
  | .ow _ => true
  | .ln _ => true
  | _ => false
def CellOk (K : PySem.W.Frag) (fg : Hp) (la : Nat → Addr) (W H : Hp) (i : Nat) (s : Option (Option V)) : Cell → Prop
  | .un => True
  | .sh d => ∃ v, s = some (some v) ∧ Rep K W v d
  | .ow d => ∃ p, s = some (some (.ref p)) ∧ W p = none ∧ fg p = none ∧ Own K W H p d
  | .ln d => s = some (some (.ref (la i))) ∧ W (la i) = none ∧ fg (la i) = none ∧ Own K W H (la i) d
theorem CellOk.at_ {K : PySem.W.Frag} {fg : Hp} {la : Nat → Addr} {W H : Hp} {i : Nat} {s : Option (Option V)} {c : Cell} (h : CellOk K fg la W H i s c) (o : c.own = true) :
    ∃ p d, s = some (some (.ref p)) ∧ W p = none ∧ fg p = none ∧ Own K W H p d ∧ (c = .ow d ∨ (c = .ln d ∧ p = la i)) := by
  cases c with
  | un => cases o
  | sh d => cases o
  | ow d => obtain ⟨p, h1, h2, h3, h4⟩ := h; exact ⟨p, d, h1, h2, h3, h4, .inl rfl⟩
  | ln d => obtain ⟨h1, h2, h3, h4⟩ := h; exact ⟨_, d, h1, h2, h3, h4, .inr ⟨rfl, rfl⟩⟩

/-- the state: W the shared world, fg what is foreign (kept as it is, never shared), la where the lent lists stand -/
structure Rel (K : PySem.W.Frag) (fg : Hp) (la : Nat → Addr) (W H : Hp) (σ : L2.St) (e : Env) : Prop where
  sub : Sub W H
  frn : ∀ a o, fg a = some o → H a = some o ∧ (NT o → W a = none)
  len : e.length = σ.length
  cell : ∀ (i : Nat) c, e[i]? = some c → CellOk K fg la W H i σ[i]? c
  apart : ∀ (i j : Nat) c d p, i ≠ j → e[i]? = some c → e[j]? = some d → c.own = true → d.own = true → σ[i]? = some (some (V.ref p)) → σ[j]? = some (some (V.ref p)) → False

/-- all that was stays, what is shared anew is new -/
structure Step (W H W' H' : Hp) : Prop where
  w : Sub W W'
  h : Sub H H'
  s : Sub W' H'
  f : ∀ a o, W a = none → H a = some o → NT o → W' a = none
theorem Step.refl {W H : Hp} (s : Sub W H) : Step W H W H := ⟨.refl _, .refl _, s, fun _ _ h _ _ => h⟩
theorem Step.trans {W H W1 H1 W2 H2 : Hp} (a : Step W H W1 H1) (b : Step W1 H1 W2 H2) : Step W H W2 H2 :=
  ⟨a.w.trans b.w, a.h.trans b.h, b.s, fun x o h1 h2 nt => b.f x o (a.f x o h1 h2 nt) (a.h x o h2) nt⟩
/-- a new shared object -/
theorem Step.new {W H : Hp} {p : Addr} {o : HO} (s : Sub W H) (h : H p = none) : Step W H (upd W p o) (upd H p o) where
  w := .new (s.none h)
  h := .new h
  s := fun a u e => by
    by_cases z : a = p
    · subst z; rw [upd_same] at e ⊢; exact e
    · rw [upd_ne z] at e ⊢; exact s a u e
  f := fun a o h1 h2 _ => by rw [upd_ne (fun z => by rw [z, h] at h2; cases h2)]; exact h1
/-- a new object that is not shared -/
theorem Step.newH {W H : Hp} {p : Addr} {o : HO} (s : Sub W H) (h : H p = none) : Step W H W (upd H p o) where
  w := .refl _
  h := .new h
  s := s.trans (.new h)
  f := fun a _ h1 _ _ => h1

section
variable {K : PySem.W.Frag} {fg : Hp} {la : Nat → Addr} {W H W' H' : Hp} {σ : L2.St} {e : Env}
theorem CellOk.step {i : Nat} {s : Option (Option V)} {c : Cell} (h : CellOk K fg la W H i s c) (t : Step W H W' H') : CellOk K fg la W' H' i s c := by
  cases c with
  | un => trivial
  | sh d => obtain ⟨v, h1, h2⟩ := h; exact ⟨v, h1, h2.mono t.w⟩
  | ow d =>
    obtain ⟨p, h1, h2, h3, h4⟩ := h
    obtain ⟨o, ho⟩ := h4.some
    exact ⟨p, h1, t.f p o h2 ho (h4.nt ho), h3, h4.mono t.w fun u hu => t.h p u hu⟩
  | ln d =>
    obtain ⟨h1, h2, h3, h4⟩ := h
    obtain ⟨o, ho⟩ := h4.some
    exact ⟨h1, t.f _ o h2 ho (h4.nt ho), h3, h4.mono t.w fun u hu => t.h _ u hu⟩
theorem Rel.step (r : Rel K fg la W H σ e) (t : Step W H W' H') : Rel K fg la W' H' σ e where
  sub := t.s
  frn := fun a o h => by
    obtain ⟨h1, h2⟩ := r.frn a o h
    exact ⟨t.h a o h1, fun nt => t.f a o (h2 nt) h1 nt⟩
  len := r.len
  cell := fun i c h => (r.cell i c h).step t
  apart := r.apart

/-! ### what an expression gives: shared data, a new owned list or dict, or what a name holds -/
inductive Val where
  | sh (d : D) | ow (d : D) | bw (i : Nat)
  deriving Inhabited
end
def ValOk (K : PySem.W.Frag) (fg : Hp) (W H : Hp) (σ : L2.St) (e : Env) (v : V) : Val → Prop
  | .sh d => Rep K W v d
  | .ow d => ∃ p, v = .ref p ∧ W p = none ∧ fg p = none ∧ Own K W H p d ∧ ∀ (i : Nat) c, e[i]? = some c → c.own = true → σ[i]? ≠ some (some (V.ref p))
  | .bw i => σ[i]? = some (some v)
def cellD : Option Cell → Option D
  | some (.sh d) => some d
  | some (.ow d) => some d
  | some (.ln d) => some d
  | _ => none
def look (e : Env) : Val → Option D
  | .sh d => some d
  | .ow d => some d
  | .bw i => cellD e[i]?
/-- what may be kept elsewhere: a name's own list is shared from now on -/
def esc (e : Env) : Val → Option (D × Env)
  | .sh d => some (d, e)
  | .ow d => some (d, e)
  | .bw i => match e[i]? with
    | some (.sh d) => some (d, e)
    | some (.ow d) => some (d, e.set i (.sh d))
    | _ => none
/-- held while others are reckoned -/
def hold : Val → Val
  | .ow d => .sh d
  | v => v

section
variable {K : PySem.W.Frag} {fg : Hp} {la : Nat → Addr} {W H W' H' : Hp} {σ : L2.St} {e : Env}
theorem look_ok {v : V} {a : Val} {d : D} (r : Rel K fg la W H σ e) (h : ValOk K fg W H σ e v a) (l : look e a = some d) : RepO K W H v d := by
  cases a with
  | sh d' => cases l; exact .inl h
  | ow d' =>
    cases l
    obtain ⟨p, h1, h2, h3, h4, _⟩ := h
    exact .inr ⟨p, h1, h4⟩
  | bw i =>
    have hv : σ[i]? = some (some v) := h
    have l : cellD e[i]? = some d := l
    cases q : e[i]? with
    | none => rw [q] at l; cases l
    | some c =>
      rw [q] at l
      have k := r.cell i c q
      rw [hv] at k
      cases c with
      | un => cases l
      | sh d' => cases l; obtain ⟨u, h1, h2⟩ := k; cases h1; exact .inl h2
      | ow d' => cases l; obtain ⟨p, h1, h2, h3, h4⟩ := k; cases h1; exact .inr ⟨p, rfl, h4⟩
      | ln d' => cases l; obtain ⟨h1, h2, h3, h4⟩ := k; cases h1; exact .inr ⟨_, rfl, h4⟩
theorem upd_sub {p : Addr} {o : HO} (s : Sub W H) (h : H p = some o) : Sub (upd W p o) H := fun a u e => by
  by_cases z : a = p
  · subst z; rw [upd_same] at e; cases e; exact h
  · rw [upd_ne z] at e; exact s a u e
/-- an owned object that no cell owns is shared -/
theorem Rel.share {p : Addr} {o : HO} (r : Rel K fg la W H σ e) (h : H p = some o) (w : W p = none) (f : fg p = none) (n : ∀ (i : Nat) c, e[i]? = some c → c.own = true → σ[i]? ≠ some (some (V.ref p))) :
    Rel K fg la (upd W p o) H σ e where
  sub := upd_sub r.sub h
  frn := fun a u q => by
    obtain ⟨h1, h2⟩ := r.frn a u q
    refine ⟨h1, fun nt => ?_⟩
    rw [upd_ne (fun z => by rw [z, f] at q; cases q)]
    exact h2 nt
  len := r.len
  cell := fun i c q => by
    have k := r.cell i c q
    have sw : Sub W (upd W p o) := .new w
    cases c with
    | un => trivial
    | sh d => obtain ⟨v, h1, h2⟩ := k; exact ⟨v, h1, h2.mono sw⟩
    | ow d =>
      obtain ⟨b, h1, h2, h3, h4⟩ := k
      refine ⟨b, h1, ?_, h3, h4.mono sw fun _ z => z⟩
      rw [upd_ne (fun z => n i _ q rfl (by rw [h1, z]))]
      exact h2
    | ln d =>
      obtain ⟨h1, h2, h3, h4⟩ := k
      refine ⟨h1, ?_, h3, h4.mono sw fun _ z => z⟩
      rw [upd_ne (fun z => n i _ q rfl (by rw [h1, z]))]
      exact h2
  apart := r.apart
/-- a name's own object is shared -/
theorem Rel.shareAt {i : Nat} {d : D} (r : Rel K fg la W H σ e) (h : e[i]? = some (.ow d)) : ∃ p o, σ[i]? = some (some (V.ref p)) ∧ H p = some o ∧ W p = none ∧ Rep K (upd W p o) (.ref p) d ∧ Rel K fg la (upd W p o) H σ (e.set i (.sh d)) := by
  obtain ⟨p, h1, h2, h3, h4⟩ := r.cell i _ h
  obtain ⟨o, ho⟩ := h4.some
  have hi : i < e.length := (List.getElem?_eq_some_iff.mp h).1
  have sw : Sub W (upd W p o) := .new h2
  have rp : Rep K (upd W p o) (.ref p) d := h4.rep sw fun u hu => by rw [ho] at hu; cases hu; exact upd_same
  have get : ∀ (j : Nat) c, (e.set i (.sh d))[j]? = some c → (j = i ∧ c = .sh d) ∨ (j ≠ i ∧ e[j]? = some c) := fun j c q => by
    by_cases z : i = j
    · subst z; rw [List.getElem?_set_self hi] at q; cases q; exact .inl ⟨rfl, rfl⟩
    · rw [List.getElem?_set_ne z] at q; exact .inr ⟨Ne.symm z, q⟩
  refine ⟨p, o, h1, ho, h2, rp, ⟨upd_sub r.sub ho, fun a u q => ?_, by rw [List.length_set]; exact r.len, fun j c q => ?_, fun j k c c' b ne q1 q2 o1 o2 s1 s2 => ?_⟩⟩
  · obtain ⟨k1, k2⟩ := r.frn a u q
    refine ⟨k1, fun nt => ?_⟩
    rw [upd_ne (fun z => by rw [z, h3] at q; cases q)]
    exact k2 nt
  · rcases get j c q with ⟨rfl, rfl⟩ | ⟨ne, q'⟩
    · exact ⟨_, h1, rp⟩
    · have k := r.cell j c q'
      cases c with
      | un => trivial
      | sh d' => obtain ⟨v, k1, k2⟩ := k; exact ⟨v, k1, k2.mono sw⟩
      | ow d' =>
        obtain ⟨b, k1, k2, k3, k4⟩ := k
        refine ⟨b, k1, ?_, k3, k4.mono sw fun _ z => z⟩
        rw [upd_ne (fun z => r.apart j i _ _ b ne q' h rfl rfl k1 (by rw [h1, z]))]
        exact k2
      | ln d' =>
        obtain ⟨k1, k2, k3, k4⟩ := k
        refine ⟨k1, ?_, k3, k4.mono sw fun _ z => z⟩
        rw [upd_ne (fun z => r.apart j i _ _ _ ne q' h rfl rfl k1 (by rw [h1, z]))]
        exact k2
  · rcases get j c q1 with ⟨rfl, rfl⟩ | ⟨_, q1'⟩
    · cases o1
    · rcases get k c' q2 with ⟨rfl, rfl⟩ | ⟨_, q2'⟩
      · cases o2
      · exact r.apart j k c c' b ne q1' q2' o1 o2 s1 s2
theorem esc_ok {v : V} {a : Val} {d : D} {e' : Env} (r : Rel K fg la W H σ e) (h : ValOk K fg W H σ e v a) (l : esc e a = some (d, e')) : ∃ W', Sub W W' ∧ Rel K fg la W' H σ e' ∧ Rep K W' v d := by
  cases a with
  | sh d' => cases l; exact ⟨W, .refl _, r, h⟩
  | ow d' =>
    cases l
    obtain ⟨p, rfl, h2, h3, h4, h5⟩ := h
    obtain ⟨o, ho⟩ := h4.some
    have sw : Sub W (upd W p o) := .new h2
    exact ⟨_, sw, r.share ho h2 h3 h5, h4.rep sw fun u hu => by rw [ho] at hu; cases hu; exact upd_same⟩
  | bw i =>
    have hv : σ[i]? = some (some v) := h
    unfold esc at l
    simp only at l
    split at l
    · rename_i d' q
      cases l
      obtain ⟨u, h1, h2⟩ := r.cell i _ q
      rw [hv] at h1; cases h1
      exact ⟨W, .refl _, r, h2⟩
    · rename_i d' q
      cases l
      obtain ⟨p, o, s1, ho, w, rp, r'⟩ := r.shareAt q
      rw [hv] at s1; cases s1
      exact ⟨_, .new w, r', rp⟩
    · cases l
theorem hold_ok {v : V} {a : Val} (r : Rel K fg la W H σ e) (h : ValOk K fg W H σ e v a) : ∃ W', Sub W W' ∧ Rel K fg la W' H σ e ∧ ValOk K fg W' H σ e v (hold a) := by
  cases a with
  | sh d' => exact ⟨W, .refl _, r, h⟩
  | bw i => exact ⟨W, .refl _, r, h⟩
  | ow d' =>
    obtain ⟨p, rfl, h2, h3, h4, h5⟩ := h
    obtain ⟨o, ho⟩ := h4.some
    have sw : Sub W (upd W p o) := .new h2
    exact ⟨_, sw, r.share ho h2 h3 h5, h4.rep sw fun u hu => by rw [ho] at hu; cases hu; exact upd_same⟩
/-- what is held stays so -/
theorem held_mono {v : V} {a : Val} {e' : Env} (h : ValOk K fg W H σ e v (hold a)) (s : Sub W W') : ValOk K fg W' H' σ e' v (hold a) := by
  cases a with
  | sh d' => exact Rep.mono s h
  | ow d' => exact Rep.mono s h
  | bw i => exact h
end
end VS

/-! VB: what code does to the cells (M), the judgements DE, DT, DA, DS, DI over the layer's. -/
namespace VS
open PySem PySem.Spec PyProof.Rows L2

/-- an exception: its class's name, its own fields -/
structure Exn where
  nm : Str
  fs : List (Str × D) := []
  deriving Inhabited
inductive R (α : Type) where
  | ok (a : α) (e : Env) | ex (x : Exn) (e : Env) | no
  deriving Inhabited
abbrev M (α : Type) := Env → R α
def M.bind {α β : Type} (m : M α) (f : α → M β) : M β := fun e => match m e with
  | .ok a e' => f a e'
  | .ex x e' => .ex x e'
  | .no => .no
def M.ret {α : Type} (a : α) : M α := fun e => .ok a e
def M.lift {α : Type} (o : Option α) : M α := fun e => match o with
  | some a => .ok a e
  | none => .no

/-- an exception's own fields -/
def XdOk (K : PySem.W.Frag) (W H : Hp) (d : Option Addr) : List (Str × D) → Prop
  | [] => True
  | f :: fs => ∃ dd vs, d = some dd ∧ H dd = some (.xd (((f :: fs).map (·.1)).zip vs)) ∧ Reps K W vs ((f :: fs).map (·.2))
def ExOk (mg : Str → Option Value) (K : PySem.W.Frag) (W H : Hp) (cls : Value) (d : Option Addr) (x : Exn) : Prop := mg x.nm = some cls ∧ XdOk K W H d x.fs

/-- what is to hold behind: by what the cells' code gives -/
def Post {α : Type} (X : Cx) (Wx : WX) (fg : Hp) (la : Nat → Addr) (W : Hp) (σ : L2.St) (ok : Hp → Hp → Env → α → Prop) : R α → Prop
  | .ok a e' => ∀ W' H', Sub W W' → Rel X.K fg la W' H' σ e' → ok W' H' e' a
  | .ex x e' => ∀ W' H' cls d, Sub W W' → Rel X.K fg la W' H' σ e' → ExOk X.mg X.K W' H' cls d x → Wx cls d σ H'
  | .no => False

section
variable {X : Cx} {Wx : WX} {fg : Hp} {la : Nat → Addr} {W W' H : Hp} {σ : L2.St} {α β : Type} {ok ok' : Hp → Hp → Env → α → Prop} {e : Env}
theorem Post.mono {r : R α} (h : Post X Wx fg la W σ ok r) (k : ∀ W' H' e' a, Sub W W' → Rel X.K fg la W' H' σ e' → ok W' H' e' a → ok' W' H' e' a) : Post X Wx fg la W σ ok' r := by
  cases r with
  | ok a e' => exact fun W' H' s r => k W' H' e' a s r (h W' H' s r)
  | ex x e' => exact h
  | no => exact h
theorem Post.wider {r : R α} (h : Post X Wx fg la W σ ok r) (s : Sub W W') : Post X Wx fg la W' σ ok r := by
  cases r with
  | ok a e' => exact fun W1 H1 s1 r1 => h W1 H1 (s.trans s1) r1
  | ex x e' => exact fun W1 H1 cls d s1 r1 z => h W1 H1 cls d (s.trans s1) r1 z
  | no => exact h
theorem Post.bind {m : M α} {f : α → M β} {okb : Hp → Hp → Env → β → Prop} (h : Post X Wx fg la W σ okb (M.bind m f e)) :
    Post X Wx fg la W σ (fun W' _ e' a => Post X Wx fg la W' σ okb (f a e')) (m e) := by
  unfold M.bind at h
  cases q : m e with
  | ok a e' => rw [q] at h; exact fun W' H' s r => Post.wider h s
  | ex x e' => rw [q] at h; exact h
  | no => rw [q] at h; exact h
/-- the state as it stands -/
theorem Post.here {a : α} (h : Post X Wx fg la W σ ok (.ok a e)) (r : Rel X.K fg la W H σ e) : ok W H e a := h W H (.refl _) r
theorem Post.lift {o : Option α} (h : Post X Wx fg la W σ ok (M.lift o e)) (r : Rel X.K fg la W H σ e) : ∃ a, o = some a ∧ ok W H e a := by
  cases o with
  | none => exact (show False from h).elim
  | some a => exact ⟨a, rfl, Post.here h r⟩
end

/-! ### judgements -/
section
variable (X : Cx) (Wx : WX)
def rdE (m : M Val) : TE := fun σ H Q => ∃ fg la W e, Rel X.K fg la W H σ e ∧ Post X Wx fg la W σ (fun W' H' e' a => ∀ v, ValOk X.K fg W' H' σ e' v a → Q v H') (m e)
def rdT (m : M Bool) : TT := fun σ H Q => ∃ fg la W e, Rel X.K fg la W H σ e ∧ Post X Wx fg la W σ (fun _ H' _ a => Q a H') (m e)
def Val.isOw : Val → Bool
  | .ow _ => true
  | _ => false
/-- several values, from the left; the owned ones are apart -/
def ValsOk (K : PySem.W.Frag) (fg : Hp) (W H : Hp) (σ : L2.St) (e : Env) : List V → List Val → Prop
  | [], [] => True
  | v :: vs, a :: as => ValOk K fg W H σ e v a ∧ ValsOk K fg W H σ e vs as ∧ (a.isOw = true → ∀ (j : Nat) b, as[j]? = some b → b.isOw = true → vs[j]? ≠ some v)
  | _, _ => False
def rdA (m : M (List Val)) : TA := fun σ H Q => ∃ fg la W e, Rel X.K fg la W H σ e ∧ Post X Wx fg la W σ (fun W' H' e' a => ∀ vs, ValsOk X.K fg W' H' σ e' vs a → Q vs H') (m e)
def DE (e : Expr) (m : M Val) : Prop := PE X e (rdE X Wx m)
def DT (e : Expr) (m : M Bool) : Prop := PT X e (rdT X Wx m)
def DA (es : List Expr) (m : M (List Val)) : Prop := PA X es (rdA X Wx m)
end

theorem PE.wk {X : Cx} {e : Expr} {t t' : TE} (h : PE X e t) (k : ∀ σ H Q, t' σ H Q → t σ H Q) : PE X e t' := ⟨fun pins s σ H Q I q => h.run pins s σ H Q I (k σ H Q q)⟩
theorem PT.wk {X : Cx} {e : Expr} {t t' : TT} (h : PT X e t) (k : ∀ σ H Q, t' σ H Q → t σ H Q) : PT X e t' := ⟨fun pins s σ H Q I q => h.run pins s σ H Q I (k σ H Q q)⟩
theorem PW.wk {X : Cx} {e : Expr} {t t' : TT} (h : PW X e t) (k : ∀ σ H Q, t' σ H Q → t σ H Q) : PW X e t' := ⟨fun w pins s σ H Q I q => h.run w pins s σ H Q I (k σ H Q q)⟩
theorem PA.wk {X : Cx} {es : List Expr} {t t' : TA} (h : PA X es t) (k : ∀ σ H Q, t' σ H Q → t σ H Q) : PA X es t' := ⟨fun p pins s σ H Q I q => h.run p pins s σ H Q I (k σ H Q q)⟩
theorem PS.wk {X : Cx} {e : Stmt} {t t' : TS} (h : PS X e t) (k : ∀ D σ H, t' D σ H → t D σ H) : PS X e t' := ⟨fun pins s σ H D I q => h.run pins s σ H D I (k D σ H q)⟩
theorem PSs.wk {X : Cx} {e : List Stmt} {t t' : TS} (h : PSs X e t) (k : ∀ D σ H, t' D σ H → t D σ H) : PSs X e t' := ⟨fun pins s σ H D I q => h.run pins s σ H D I (k D σ H q)⟩
theorem PI.wk {X : Cx} {tg e : Expr} {t t' : TI} (h : PI X tg e t) (k : ∀ σ H R, t' σ H R → t σ H R) : PI X tg e t' := ⟨fun pins s σ H R I q => h.run pins s σ H R I (k σ H R q)⟩

section
variable {X : Cx} {Wx : WX}
/-! ### names and constants -/
def mVar (i : Nat) : M Val := fun e => match e[i]? with
  | some (.sh d) => .ok (.sh d) e
  | some (.ow _) => .ok (.bw i) e
  | some (.ln _) => .ok (.bw i) e
  | _ => .no
def mC (d : D) : M Val := fun e => .ok (.sh d) e
theorem d_var (i : Nat) {x : Str} {pos : Pos} (hN : X.N[i]? = some x := by rfl) (hv : Vis X.env.scope x := by first | exact Or.inl rfl | exact Or.inr (Or.inl rfl) | exact Or.inr (Or.inr rfl)) (hd : (x == ("__debug__" : Str)) = false := by decide)
    (hcd : (x == ("__classdict__" : Str)) = false := by decide) : DE X Wx (.Name x pos) (mVar i) := PE.wk (pe_var hN hv hd hcd) (by
  rintro σ H Q ⟨fg, la, W, e, r, h⟩
  unfold mVar at h
  cases q : e[i]? with
  | none => rw [q] at h; exact h.elim
  | some c =>
    rw [q] at h
    have k := r.cell i c q
    cases c with
    | un => exact h.elim
    | sh d =>
      obtain ⟨v, h1, h2⟩ := k
      exact ⟨v, h1, Post.here h r v h2⟩
    | ow d =>
      obtain ⟨p, h1, h2, h3, h4⟩ := k
      exact ⟨_, h1, Post.here h r _ h1⟩
    | ln d =>
      obtain ⟨h1, h2, h3, h4⟩ := k
      exact ⟨_, h1, Post.here h r _ h1⟩)
theorem d_c {e : Expr} {v : V} {d : D} (h : PE X e (tC v)) (hr : ∀ W, Rep X.K W v d) : DE X Wx e (mC d) := PE.wk h (by
  rintro σ H Q ⟨fg, la, W, e, r, h⟩
  exact Post.here h r v (hr W))
theorem d_int {i j pos} : DE X Wx (.Constant (.int i) j pos) (mC (.int i)) := d_c pe_int fun _ => .int i
theorem d_bl {b j pos} : DE X Wx (.Constant (.bool b) j pos) (mC (.bl b)) := d_c pe_bl fun _ => .bl b
theorem d_non {j pos} : DE X Wx (.Constant .none j pos) (mC .non) := d_c pe_non fun _ => .non
theorem d_str {x j pos} : DE X Wx (.Constant (.str x) j pos) (mC (.str x)) := d_c pe_str fun _ => .str x
theorem d_gint {x : Str} {i : Int} {pos : Pos} (hg : Gl X x) (hm : ∃ t, X.mg x = some (.int i t)) (hd : (x == ("__debug__" : Str)) = false := by decide) : DE X Wx (.Name x pos) (mC (.int i)) := by
  obtain ⟨t, hm⟩ := hm
  exact d_c (pe_glob (v := .int i) hg hm ⟨t, rfl⟩ hd) fun _ => .int i
theorem d_gstr {x z : Str} {pos : Pos} (hg : Gl X x) (hm : ∃ t, X.mg x = some (.str z t)) (hd : (x == ("__debug__" : Str)) = false := by decide) : DE X Wx (.Name x pos) (mC (.str z)) := by
  obtain ⟨t, hm⟩ := hm
  exact d_c (pe_glob (v := .str z) hg hm ⟨t, rfl⟩ hd) fun _ => .str z
theorem d_gop {x : Str} {v : V} {u : Value} {pos : Pos} (hg : Gl X x) (hm : X.mg x = some u) (rv : RelV v u) (hd : (x == ("__debug__" : Str)) = false := by decide) : DE X Wx (.Name x pos) (mC (.op v)) :=
  d_c (pe_glob hg hm rv hd) fun _ => .op v
theorem d_bltn {x : Str} {v : V} {u : Value} {pos : Pos} (hg : Gl X x) (hm : X.mg x = none) (hv : bootBuiltins x = some u) (rv : RelV v u) (hn : x ≠ "__name__" := by decide) (hd : (x == ("__debug__" : Str)) = false := by decide) :
    DE X Wx (.Name x pos) (mC (.op v)) := d_c (pe_bltn hg hm hv rv hn hd) fun _ => .op v

/-! ### operators by values -/
/-- what an operation gives: shared data over a grown world, or a new owned object -/
def NewV (K : PySem.W.Frag) (W' H H' : Hp) (v : V) : Val → Prop
  | .sh d => Rep K W' v d
  | .ow d => ∃ p, v = .ref p ∧ H p = none ∧ W' p = none ∧ Own K W' H' p d
  | .bw _ => False
theorem NewV.ok {K : PySem.W.Frag} {fg : Hp} {la : Nat → Addr} {W H W' H' : Hp} {σ : L2.St} {e : Env} {v : V} {a : Val} (r : Rel K fg la W H σ e) (t : Step W H W' H') (h : NewV K W' H H' v a) : ValOk K fg W' H' σ e v a := by
  cases a with
  | sh d => exact h
  | ow d =>
    obtain ⟨p, h1, h2, h3, h4⟩ := h
    refine ⟨p, h1, h3, ?_, h4, fun i c q o s => ?_⟩
    · cases z : fg p with
      | none => rfl
      | some u => have := (r.frn p u z).1; rw [h2] at this; cases this
    · obtain ⟨b, d', s1, w, f, ow, _⟩ := (r.cell i c q).at_ o
      rw [s] at s1; cases s1
      obtain ⟨u, hu⟩ := ow.some
      rw [h2] at hu; cases hu
  | bw i => exact h.elim
def OpD (K : PySem.W.Frag) (r : R2) (f : D → D → Option Val) : Prop := ∀ W H x y d1 d2 a (Q : VK), Sub W H → RepO K W H x d1 → RepO K W H y d2 → f d1 d2 = some a →
  (∀ W' H' v, Step W H W' H' → NewV K W' H H' v a → Q v H') → r x y H Q
def m2 (f : D → D → Option Val) (ma mb : M Val) : M Val := M.bind ma fun a => M.bind mb fun b => fun e => M.lift (match look e (hold a), look e b with
  | some d1, some d2 => f d1 d2
  | _, _ => none) e
theorem two_ok {f : D → D → Option Val} {K : PySem.W.Frag} {r : R2} (ho : OpD K r f) {fg : Hp} {la : Nat → Addr} {W H : Hp} {σ : L2.St} {e : Env} {x y : V} {a b : Val} {Q : VK} {ok : Hp → Hp → Env → Val → Prop}
    (rl : Rel K fg la W H σ e) (ha : ValOk K fg W H σ e x (hold a)) (hb : ValOk K fg W H σ e y b) {c : Val} (hc : (match look e (hold a), look e b with
  | some d1, some d2 => f d1 d2
  | _, _ => none) = some c) (k : ∀ W' H' v, Sub W W' → Rel K fg la W' H' σ e → ValOk K fg W' H' σ e v c → Q v H') : r x y H Q := by
  cases q1 : look e (hold a) with
  | none => rw [q1] at hc; cases hc
  | some d1 =>
    cases q2 : look e b with
    | none => rw [q1, q2] at hc; cases hc
    | some d2 =>
      rw [q1, q2] at hc
      exact ho W H x y d1 d2 c Q rl.sub (look_ok rl ha q1) (look_ok rl hb q2) hc fun W' H' v t nv => k W' H' v t.w (rl.step t) (nv.ok rl t)
/-- the two operands, then the operation: the reading -/
theorem rd2 {f : D → D → Option Val} {r : R2} (ho : OpD X.K r f) {ma mb : M Val} {σ : L2.St} {H : Hp} {Q : VK} (h : rdE X Wx (m2 f ma mb) σ H Q) : tOp r (rdE X Wx ma) (rdE X Wx mb) σ H Q := by
  obtain ⟨fg, la, W, e, rl, h⟩ := h
  refine ⟨fg, la, W, e, rl, (Post.bind h).mono fun W1 H1 e1 a s1 r1 h1 x hx => ?_⟩
  obtain ⟨W2, s2, r2, hx2⟩ := hold_ok r1 hx
  refine ⟨fg, la, W2, e1, r2, ((Post.bind h1).wider s2).mono fun W3 H3 e3 b s3 r3 h3 y hy => ?_⟩
  obtain ⟨c, hc, k⟩ := Post.lift (ok := fun W' H' e' a => ∀ v, ValOk X.K fg W' H' σ e' v a → Q v H') h3 r3
  have h3' := h3
  have e3' : ∀ W' H', Sub W3 W' → Rel X.K fg la W' H' σ e3 → ∀ v, ValOk X.K fg W' H' σ e3 v c → Q v H' := fun W' H' s r => by
    have z := h3
    unfold M.lift at z
    rw [hc] at z
    exact z W' H' s r
  exact two_ok (ok := fun _ _ _ _ => True) ho r3 (held_mono hx2 s3) hy hc fun W' H' v s r hv => e3' W' H' s r v hv
theorem d_bin {op : Operator} {r : R2} {f : D → D → Option Val} {a b : Expr} {ma mb : M Val} {pos : Pos} (ho : OpR X (binaryOp op) r) (hd : OpD X.K r f) (ha : DE X Wx a ma) (hb : DE X Wx b mb) : DE X Wx (.BinOp a op b pos) (m2 f ma mb) :=
  PE.wk (pe_op ho ha hb) fun _ _ _ h => rd2 hd h
theorem d_cmp {op : CmpOp} {r : R2} {f : D → D → Option Val} {a b : Expr} {ma mb : M Val} {pos : Pos} (ho : OpR X (compareOp op) r) (hd : OpD X.K r f) (ha : DE X Wx a ma) (hb : DE X Wx b mb) (hm : behindInMarks op b = false) : DE X Wx (.Compare a [op] [b] pos) (m2 f ma mb) :=
  PE.wk (pe_cmpR ho ha hb hm) fun _ _ _ h => rd2 hd h
def UnD (K : PySem.W.Frag) (r : V → Hp → VK → Prop) (f : D → Option Val) : Prop := ∀ W H x d a (Q : VK), Sub W H → RepO K W H x d → f d = some a → (∀ W' H' v, Step W H W' H' → NewV K W' H H' v a → Q v H') → r x H Q
def m1 (f : D → Option Val) (ma : M Val) : M Val := M.bind ma fun a e => M.lift ((look e a).bind f) e
theorem rd1 {f : D → Option Val} {r : V → Hp → VK → Prop} (ho : UnD X.K r f) {ma : M Val} {σ : L2.St} {H : Hp} {Q : VK} (h : rdE X Wx (m1 f ma) σ H Q) : tUn r (rdE X Wx ma) σ H Q := by
  obtain ⟨fg, la, W, e, rl, h⟩ := h
  refine ⟨fg, la, W, e, rl, (Post.bind h).mono fun W1 H1 e1 a s1 r1 h1 x hx => ?_⟩
  cases q : look e1 a with
  | none => rw [q] at h1; exact (show False from h1).elim
  | some d =>
    rw [q] at h1
    cases q2 : f d with
    | none => rw [Option.bind_some, q2] at h1; exact (show False from h1).elim
    | some c =>
      rw [Option.bind_some, q2] at h1
      exact ho W1 H1 x d c Q r1.sub (look_ok r1 hx q) q2 fun W' H' v t nv => h1 W' H' t.w (r1.step t) v (nv.ok r1 t)
theorem d_un {op : UnaryOp} {r : V → Hp → VK → Prop} {f : D → Option Val} {a : Expr} {ma : M Val} {pos : Pos} (ho : UnR X (unaryOp op) r) (hd : UnD X.K r f) (ha : DE X Wx a ma) : DE X Wx (.UnaryOp op a pos) (m1 f ma) :=
  PE.wk (pe_un ho ha) fun _ _ _ h => rd1 hd h
end
end VS

/-! VC: tests, and, or, not, if-expressions, arguments, displays, subscripts, slices, calls of built-ins. -/
namespace VS
open PySem PySem.Spec PyProof.Rows L2
section
variable {X : Cx} {Wx : WX}

/-! ### tests -/
def dTru : D → Option Bool
  | .non => some false
  | .bl b => some b
  | .int i => some (i != 0)
  | .str x => if x.length ≤ sizeLine then some ((x.length : Int) != 0) else none
  | .lst xs => some !xs.isEmpty
  | .tup xs => some !xs.isEmpty
  | .fl xs => some !xs.isEmpty
  | _ => none
theorem Reps.isEmpty {K : PySem.W.Frag} {H : Hp} {vs : List V} {ds : List D} (h : Reps K H vs ds) : (!vs.isEmpty) = !ds.isEmpty := by cases h <;> rfl
theorem truV_of {K : PySem.W.Frag} {H : Hp} {v : V} {d : D} {k : Bool} (h : Rep K H v d) (e : dTru d = some k) : TruV K v H k := by
  cases h with
  | non => cases e; rfl
  | bl b => cases e; rfl
  | int i => cases e; rfl
  | str x =>
    unfold dTru at e
    simp only at e
    split at e
    · cases e; exact ⟨by assumption, rfl⟩
    · cases e
  | lst h r => cases e; exact .inl ⟨_, SqL.of h, r.isEmpty.symm⟩
  | tup h r => cases e; exact .inr (.inl ⟨_, SqT.of h, r.isEmpty.symm⟩)
  | fl h r => cases e; exact .inl ⟨_, h, r.isEmpty.symm⟩
  | dK h r => cases e
  | dT h r => cases e
  | op v => cases e
def mTru (m : M Val) : M Bool := M.bind m fun a e => M.lift ((look e a).bind dTru) e
theorem dt_truth {e : Expr} {m : M Val} (ha : DE X Wx e m) (he : ∀ whole, isTrue e X.env whole = (do let v ← whole; standAt e.pos; holding [v] (truthy v)) := by intro _; rfl) : DT X Wx e (mTru m) :=
  PT.wk (pt_truth ha he) (by
    rintro σ H Q ⟨fg, la, W, e, rl, h⟩
    refine ⟨fg, la, W, e, rl, (Post.bind h).mono fun W1 H1 e1 a s1 r1 h1 x hx => ?_⟩
    obtain ⟨k, hk, q⟩ := Post.lift h1 r1
    cases z : look e1 a with
    | none => rw [z] at hk; cases hk
    | some d =>
      rw [z] at hk
      exact ⟨k, truV_of ((look_ok r1 hx z).rep r1.sub) hk, q⟩)
/-- a value that is a truth value -/
def mB (m : M Val) : M Bool := M.bind m fun a e => match a with
  | .sh (.bl b) => .ok b e
  | _ => .no
theorem rd_mB {m : M Val} {σ : L2.St} {H : Hp} {Q : Bool → Hp → Prop} (h : rdT X Wx (mB m) σ H Q) : rdE X Wx m σ H (fun x H' => ∃ k, x = .bl k ∧ Q k H') := by
  obtain ⟨fg, la, W, e, rl, h⟩ := h
  refine ⟨fg, la, W, e, rl, (Post.bind h).mono fun W1 H1 e1 a s1 r1 h1 x hx => ?_⟩
  cases a with
  | sh d =>
    cases d with
    | bl b =>
      cases (show Rep X.K W1 x (.bl b) from hx)
      exact ⟨b, rfl, Post.here h1 r1⟩
    | _ => exact (show False from h1).elim
  | _ => exact (show False from h1).elim
theorem dt_cmp {op : CmpOp} {r : R2} {f : D → D → Option Val} {a b : Expr} {ma mb : M Val} {pos : Pos} (ho : OpR X (compareOp op) r) (hd : OpD X.K r f) (ha : DE X Wx a ma) (hb : DE X Wx b mb) (hm : behindInMarks op b = false) : DT X Wx (.Compare a [op] [b] pos) (mB (m2 f ma mb)) :=
  PT.wk (pt_cmpR ho ha hb hm) fun _ _ _ h => rd2 hd (rd_mB h)
def mNot (m : M Bool) : M Bool := M.bind m fun b => M.ret !b
theorem dt_not {a : Expr} {m : M Bool} {pos : Pos} (ha : DT X Wx a m) : DT X Wx (.UnaryOp .Not a pos) (mNot m) := PT.wk (pt_not ha) (by
  rintro σ H Q ⟨fg, la, W, e, rl, h⟩
  exact ⟨fg, la, W, e, rl, (Post.bind h).mono fun W1 H1 e1 a s1 r1 h1 => Post.here h1 r1⟩)
def mAnd (m n : M Bool) : M Bool := M.bind m fun b => if b then n else M.ret false
def mOr (m n : M Bool) : M Bool := M.bind m fun b => if b then M.ret true else n
def DW (X : Cx) (Wx : WX) (e : Expr) (m : M Bool) : Prop := PW X e (rdT X Wx m)
theorem dw_and1 {a : Expr} {m : M Bool} {pos : Pos} (ha : DT X Wx a m) : DW X Wx (.BoolOp .And [a] pos) m := pw_and1 ha
theorem dw_or1 {a : Expr} {m : M Bool} {pos : Pos} (ha : DT X Wx a m) : DW X Wx (.BoolOp .Or [a] pos) m := pw_or1 ha
theorem dw_and {a b : Expr} {rest : List Expr} {m n : M Bool} {pos : Pos} (ha : DT X Wx a m) (hb : DW X Wx (.BoolOp .And (b :: rest) pos) n) : DW X Wx (.BoolOp .And (a :: b :: rest) pos) (mAnd m n) := PW.wk (pw_and ha hb) (by
  rintro σ H Q ⟨fg, la, W, e, rl, h⟩
  refine ⟨fg, la, W, e, rl, (Post.bind h).mono fun W1 H1 e1 a s1 r1 h1 => ?_⟩
  cases a with
  | true => exact ⟨fg, la, W1, e1, r1, h1⟩
  | false => exact Post.here h1 r1)
theorem dw_or {a b : Expr} {rest : List Expr} {m n : M Bool} {pos : Pos} (ha : DT X Wx a m) (hb : DW X Wx (.BoolOp .Or (b :: rest) pos) n) : DW X Wx (.BoolOp .Or (a :: b :: rest) pos) (mOr m n) := PW.wk (pw_or ha hb) (by
  rintro σ H Q ⟨fg, la, W, e, rl, h⟩
  refine ⟨fg, la, W, e, rl, (Post.bind h).mono fun W1 H1 e1 a s1 r1 h1 => ?_⟩
  cases a with
  | true => exact Post.here h1 r1
  | false => exact ⟨fg, la, W1, e1, r1, h1⟩)
theorem dt_w {e : Expr} {m : M Bool} (h : DW X Wx e m) : DT X Wx e m := PW.pt h

/-! ### the same as values -/
def mBv (m : M Bool) : M Val := M.bind m fun b => M.ret (.sh (.bl b))
theorem de_one {op} {a : Expr} {m : M Val} {pos : Pos} (h : DE X Wx a m) : DE X Wx (.BoolOp op [a] pos) m := pe_one h
def mAndV (m n : M Val) : M Val := M.bind (mB m) fun b => if b then n else mC (.bl false)
def mOrV (m n : M Val) : M Val := M.bind (mB m) fun b => if b then mC (.bl true) else n
theorem rd_bindB {m : M Val} {f : Bool → M Val} {σ : L2.St} {H : Hp} {Q : VK} (h : rdE X Wx (M.bind (mB m) f) σ H Q) : rdE X Wx m σ H (fun x H' => ∃ k, x = .bl k ∧ rdE X Wx (f k) σ H' Q) := by
  obtain ⟨fg, la, W, e, rl, h⟩ := h
  exact rd_mB ⟨fg, la, W, e, rl, (Post.bind h).mono fun W1 H1 e1 b s1 r1 h1 => ⟨fg, la, W1, e1, r1, h1⟩⟩
theorem de_and {a b : Expr} {rest : List Expr} {m n : M Val} {pos : Pos} (ha : DE X Wx a m) (hb : DE X Wx (.BoolOp .And (b :: rest) pos) n) : DE X Wx (.BoolOp .And (a :: b :: rest) pos) (mAndV m n) := PE.wk (pe_and ha hb) (by
  intro σ H Q h
  obtain ⟨fg, la, W, e, rl, z⟩ := rd_bindB h
  refine ⟨fg, la, W, e, rl, z.mono fun W1 H1 e1 a s1 r1 h1 x hx => ?_⟩
  obtain ⟨k, rfl, q⟩ := h1 x hx
  refine ⟨k, rfl, ?_⟩
  cases k with
  | true => exact q
  | false =>
    obtain ⟨fg', la', W', e', rl', q⟩ := q
    exact Post.here q rl' _ (.bl false))
theorem de_or {a b : Expr} {rest : List Expr} {m n : M Val} {pos : Pos} (ha : DE X Wx a m) (hb : DE X Wx (.BoolOp .Or (b :: rest) pos) n) : DE X Wx (.BoolOp .Or (a :: b :: rest) pos) (mOrV m n) := PE.wk (pe_or ha hb) (by
  intro σ H Q h
  obtain ⟨fg, la, W, e, rl, z⟩ := rd_bindB h
  refine ⟨fg, la, W, e, rl, z.mono fun W1 H1 e1 a s1 r1 h1 x hx => ?_⟩
  obtain ⟨k, rfl, q⟩ := h1 x hx
  refine ⟨k, rfl, ?_⟩
  cases k with
  | false => exact q
  | true =>
    obtain ⟨fg', la', W', e', rl', q⟩ := q
    exact Post.here q rl' _ (.bl true))
theorem de_not {a : Expr} {m : M Val} {pos : Pos} (ha : DE X Wx a m) : DE X Wx (.UnaryOp .Not a pos) (mBv (mNot (mB m))) := PE.wk (pe_not ha) (by
  rintro σ H Q ⟨fg, la, W, e, rl, h⟩
  refine rd_mB ⟨fg, la, W, e, rl, (Post.bind (Post.bind h)).mono fun W1 H1 e1 b s1 r1 h1 => ?_⟩
  exact Post.here (Post.here h1 r1) r1 _ (.bl _))
def mIf (c : M Bool) (m n : M Val) : M Val := M.bind c fun b => if b then m else n
theorem de_if {c a b : Expr} {mc : M Bool} {m n : M Val} {pos : Pos} (hc : DT X Wx c mc) (ha : DE X Wx a m) (hb : DE X Wx b n) : DE X Wx (.IfExp c a b pos) (mIf mc m n) := PE.wk (pe_ifExp hc ha hb) (by
  rintro σ H Q ⟨fg, la, W, e, rl, h⟩
  refine ⟨fg, la, W, e, rl, (Post.bind h).mono fun W1 H1 e1 b s1 r1 h1 => ?_⟩
  cases b with
  | true => exact ⟨fg, la, W1, e1, r1, h1⟩
  | false => exact ⟨fg, la, W1, e1, r1, h1⟩)
def mChain (f g : D → D → Option Val) (ma mb mc : M Val) : M Val := M.bind ma fun a => M.bind mb fun b => M.bind (mB fun e => M.lift (match look e (hold a), look e (hold b) with
  | some d1, some d2 => f d1 d2
  | _, _ => none) e) fun k => if k then M.bind mc (fun c e => M.lift (match look e (hold b), look e c with
  | some d1, some d2 => g d1 d2
  | _, _ => none) e) else mC (.bl false)
theorem rd_chain {r r' : R2} {f g : D → D → Option Val} (hf : OpD X.K r f) (hg : OpD X.K r' g) {ma mb mc : M Val} {σ : L2.St} {H : Hp} {Q : VK} (h : rdE X Wx (mChain f g ma mb mc) σ H Q) : tChain r r' (rdE X Wx ma) (rdE X Wx mb) (rdE X Wx mc) σ H Q := by
  obtain ⟨fg, la, W, e, rl, h⟩ := h
  refine ⟨fg, la, W, e, rl, (Post.bind h).mono fun W1 H1 e1 a s1 r1 h1 x hx => ?_⟩
  obtain ⟨W2, s2, r2, hx2⟩ := hold_ok r1 hx
  refine ⟨fg, la, W2, e1, r2, ((Post.bind h1).wider s2).mono fun W3 H3 e3 b s3 r3 h3 y hy => ?_⟩
  obtain ⟨W4, s4, r4, hy4⟩ := hold_ok r3 hy
  have h4 := (Post.bind h3).wider s4
  have hx4 := held_mono (H' := H3) (e' := e3) hx2 (s3.trans s4)
  cases q1 : look e3 (hold a) with
  | none => simp only [mB, M.bind, M.lift, q1] at h4; exact (show False from h4).elim
  | some d1 =>
    cases q2 : look e3 (hold b) with
    | none => simp only [mB, M.bind, M.lift, q1, q2] at h4; exact (show False from h4).elim
    | some d2 =>
      simp only [mB, M.bind, M.lift, q1, q2] at h4
      cases q3 : f d1 d2 with
      | none => rw [q3] at h4; exact (show False from h4).elim
      | some c =>
        rw [q3] at h4
        cases c with
        | sh d =>
          cases d with
          | bl k =>
            refine hf W4 H3 x y d1 d2 _ _ r4.sub (look_ok r4 hx4 q1) (look_ok r4 hy4 q2) q3 fun W5 H5 v t nv => ?_
            cases (show Rep X.K W5 v (.bl k) from nv)
            refine ⟨k, rfl, ?_⟩
            have h5 := h4 W5 H5 t.w (r4.step t)
            cases k with
            | false => exact Post.here h5 (r4.step t) _ (.bl false)
            | true =>
              refine ⟨fg, la, W5, e3, r4.step t, (Post.bind h5).mono fun W6 H6 e6 c s6 r6 h6 z hz => ?_⟩
              have hy6 := held_mono (H' := H6) (e' := e6) hy4 (t.w.trans s6)
              cases p1 : look e6 (hold b) with
              | none => simp only [M.lift, p1] at h6; exact (show False from h6).elim
              | some g1 =>
                cases p2 : look e6 c with
                | none => simp only [M.lift, p1, p2] at h6; exact (show False from h6).elim
                | some g2 =>
                  simp only [M.lift, p1, p2] at h6
                  cases p3 : g g1 g2 with
                  | none => rw [p3] at h6; exact (show False from h6).elim
                  | some w =>
                    rw [p3] at h6
                    exact hg W6 H6 y z g1 g2 w _ r6.sub (look_ok r6 hy6 p1) (look_ok r6 hz p2) p3 fun W7 H7 v t nv => h6 W7 H7 t.w (r6.step t) v (nv.ok r6 t)
          | _ => exact (show False from h4).elim
        | _ => exact (show False from h4).elim
theorem de_chain {op op' : CmpOp} {r r' : R2} {f g : D → D → Option Val} {a b c : Expr} {ma mb mc : M Val} {pos : Pos} (ho : OpR X (compareOp op) r) (ho' : OpR X (compareOp op') r') (hf : OpD X.K r f) (hg : OpD X.K r' g) (ha : DE X Wx a ma) (hb : DE X Wx b mb) (hc : DE X Wx c mc)
    (hm : lastMarks [op, op'] [b, c] = false := by with_unfolding_all rfl) : DE X Wx (.Compare a [op, op'] [b, c] pos) (mChain f g ma mb mc) :=
  PE.wk (pe_chain ho ho' ha hb hc hm) fun _ _ _ h => rd_chain hf hg h
theorem dt_chain {op op' : CmpOp} {r r' : R2} {f g : D → D → Option Val} {a b c : Expr} {ma mb mc : M Val} {pos : Pos} (ho : OpR X (compareOp op) r) (ho' : OpR X (compareOp op') r') (hf : OpD X.K r f) (hg : OpD X.K r' g) (ha : DE X Wx a ma) (hb : DE X Wx b mb) (hc : DE X Wx c mc)
    (hm : lastMarks [op, op'] [b, c] = false := by with_unfolding_all rfl) : DT X Wx (.Compare a [op, op'] [b, c] pos) (mB (mChain f g ma mb mc)) :=
  PT.wk (pt_chain ho ho' ha hb hc hm) fun _ _ _ h => rd_chain hf hg (rd_mB h)
end
end VS

/-! VD: arguments, displays, calls of built-ins, subscripts, slices. -/
namespace VS
open PySem PySem.Spec PyProof.Rows L2

section
variable {K : PySem.W.Frag} {fg fg' : Hp} {la : Nat → Addr} {W W' H H' : Hp} {σ : L2.St} {e e' : Env}
/-- an owned object that no cell owns is foreign for a while -/
theorem Rel.keep {p : Addr} {o : HO} (r : Rel K fg la W H σ e) (h : H p = some o) (w : W p = none) (n : ∀ (i : Nat) c, e[i]? = some c → c.own = true → σ[i]? ≠ some (some (V.ref p))) : Rel K (upd fg p o) la W H σ e where
  sub := r.sub
  frn := fun a u q => by
    by_cases z : a = p
    · subst z; rw [upd_same] at q; cases q; exact ⟨h, fun _ => w⟩
    · rw [upd_ne z] at q; exact r.frn a u q
  len := r.len
  cell := fun i c q => by
    have k := r.cell i c q
    cases c with
    | un => trivial
    | sh d => exact k
    | ow d =>
      obtain ⟨b, h1, h2, h3, h4⟩ := k
      refine ⟨b, h1, h2, ?_, h4⟩
      rw [upd_ne (fun z => n i _ q rfl (by rw [h1, z]))]
      exact h3
    | ln d =>
      obtain ⟨h1, h2, h3, h4⟩ := k
      refine ⟨h1, h2, ?_, h4⟩
      rw [upd_ne (fun z => n i _ q rfl (by rw [h1, z]))]
      exact h3
  apart := r.apart
theorem Rel.less (r : Rel K fg' la W H σ e) (s : Sub fg fg') : Rel K fg la W H σ e where
  sub := r.sub
  frn := fun a u q => r.frn a u (s a u q)
  len := r.len
  cell := fun i c q => by
    have k := r.cell i c q
    cases c with
    | un => trivial
    | sh d => exact k
    | ow d => obtain ⟨b, h1, h2, h3, h4⟩ := k; exact ⟨b, h1, h2, s.none h3, h4⟩
    | ln d => obtain ⟨h1, h2, h3, h4⟩ := k; exact ⟨h1, h2, s.none h3, h4⟩
  apart := r.apart
theorem ValOk.less {v : V} {a : Val} (h : ValOk K fg' W H σ e v a) (s : Sub fg fg') : ValOk K fg W H σ e v a := by
  cases a with
  | sh d => exact h
  | bw i => exact h
  | ow d => obtain ⟨p, h1, h2, h3, h4⟩ := h; exact ⟨p, h1, h2, s.none h3, h4⟩
theorem ValsOk.less (s : Sub fg fg') : ∀ {vs : List V} {as : List Val}, ValsOk K fg' W H σ e vs as → ValsOk K fg W H σ e vs as
  | [], [], h => h
  | _ :: _, _ :: _, h => ⟨h.1.less s, ValsOk.less s h.2.1, h.2.2⟩
  | [], _ :: _, h => h.elim
  | _ :: _, [], h => h.elim
theorem ValsOk.at_ : ∀ {vs : List V} {as : List Val} (j : Nat) {a : Val}, ValsOk K fg W H σ e vs as → as[j]? = some a → ∃ v, vs[j]? = some v ∧ ValOk K fg W H σ e v a
  | [], [], _, _, _, q => by simp at q
  | v :: _, b :: _, 0, a, h, q => by simp at q; subst q; exact ⟨v, rfl, h.1⟩
  | _ :: vs, _ :: as, j + 1, a, h, q => by
    obtain ⟨v, h1, h2⟩ := ValsOk.at_ (vs := vs) (as := as) j (a := a) h.2.1 (by simpa using q)
    exact ⟨v, by simpa using h1, h2⟩
  | [], _ :: _, _, _, h, _ => h.elim
  | _ :: _, [], _, _, h, _ => h.elim
theorem ValsOk.length : ∀ {vs : List V} {as : List Val}, ValsOk K fg W H σ e vs as → vs.length = as.length
  | [], [], _ => rfl
  | _ :: vs, _ :: as, h => by rw [List.length_cons, List.length_cons, ValsOk.length (vs := vs) (as := as) h.2.1]
  | [], _ :: _, h => h.elim
  | _ :: _, [], h => h.elim

/-- esc_ok, with what is shared anew -/
theorem esc_ok' {v : V} {a : Val} {d : D} (r : Rel K fg la W H σ e) (h : ValOk K fg W H σ e v a) (l : esc e a = some (d, e')) :
    ∃ W', Sub W W' ∧ Rel K fg la W' H σ e' ∧ Rep K W' v d ∧ (∀ q, W q = none → W' q = none ∨ (v = .ref q ∧ (a.isOw = true ∨ ∃ (i : Nat) (c : Cell), e[i]? = some c ∧ c.own = true ∧ σ[i]? = some (some v)))) ∧
      (∀ (i : Nat) c, e'[i]? = some c → c.own = true → e[i]? = some c) := by
  cases a with
  | sh d' => cases l; exact ⟨W, .refl _, r, h, fun _ z => .inl z, fun _ _ z _ => z⟩
  | ow d' =>
    cases l
    obtain ⟨p, rfl, h2, h3, h4, h5⟩ := h
    obtain ⟨o, ho⟩ := h4.some
    have sw : Sub W (upd W p o) := .new h2
    refine ⟨_, sw, r.share ho h2 h3 h5, h4.rep sw fun u hu => by rw [ho] at hu; cases hu; exact upd_same, fun q z => ?_, fun _ _ z _ => z⟩
    by_cases w : q = p
    · exact .inr ⟨by rw [w], .inl rfl⟩
    · exact .inl (by rw [upd_ne w]; exact z)
  | bw i =>
    have hv : σ[i]? = some (some v) := h
    unfold esc at l
    simp only at l
    split at l
    · rename_i d' q
      cases l
      obtain ⟨u, h1, h2⟩ := r.cell i _ q
      rw [hv] at h1; cases h1
      exact ⟨W, .refl _, r, h2, fun _ z => .inl z, fun _ _ z _ => z⟩
    · rename_i d' q
      cases l
      obtain ⟨p, o, s1, ho, w, rp, r'⟩ := r.shareAt q
      rw [hv] at s1; cases s1
      refine ⟨_, .new w, r', rp, fun x z => ?_, fun j c z o => ?_⟩
      · by_cases w : x = p
        · exact .inr ⟨by rw [w], .inr ⟨i, _, q, rfl, hv⟩⟩
        · exact .inl (by rw [upd_ne w]; exact z)
      · by_cases y : i = j
        · subst y
          rw [List.getElem?_set_self (List.getElem?_eq_some_iff.mp q).1] at z
          cases z
          cases o
        · rw [List.getElem?_set_ne y] at z; exact z
    · cases l
/-- the values that come later stay so -/
theorem ValsOk.after_esc {v : V} {a : Val} {W1 : Hp} {e1 : Env} (sw : Sub W W1) (n : ∀ q, W q = none → W1 q = none ∨ (v = .ref q ∧ (a.isOw = true ∨ ∃ (i : Nat) (c : Cell), e[i]? = some c ∧ c.own = true ∧ σ[i]? = some (some v))))
    (oc : ∀ (i : Nat) c, e1[i]? = some c → c.own = true → e[i]? = some c) :
    ∀ {vs : List V} {as : List Val}, ValsOk K fg W H σ e vs as → (a.isOw = true → ∀ (j : Nat) b, as[j]? = some b → b.isOw = true → vs[j]? ≠ some v) → ValsOk K fg W1 H σ e1 vs as
  | [], [], h, _ => h
  | u :: vs, b :: as, h, k => by
    refine ⟨?_, ValsOk.after_esc sw n oc h.2.1 fun oa j c q o => by simpa using k oa (j + 1) c (by simpa using q) o, h.2.2⟩
    cases b with
    | sh d => exact Rep.mono sw h.1
    | bw i => exact h.1
    | ow d =>
      obtain ⟨p, rfl, h2, h3, h4, h5⟩ := h.1
      refine ⟨p, rfl, ?_, h3, h4.mono sw fun _ z => z, fun i c q o => h5 i c (oc i c q o) o⟩
      rcases n p h2 with z | ⟨z, oa | ⟨i, c, q, o, s⟩⟩
      · exact z
      · exact absurd (by rw [z]; rfl) (k oa 0 (.ow d) rfl rfl)
      · rw [z] at s
        exact absurd s (h5 i c q o)
  | [], _ :: _, h, _ => h.elim
  | _ :: _, [], h, _ => h.elim
end
def escs : Env → List Val → Option (List D × Env)
  | e, [] => some ([], e)
  | e, a :: as => match esc e a with
    | none => none
    | some (d, e1) => match escs e1 as with
      | none => none
      | some (ds, e2) => some (d :: ds, e2)
section
variable {K : PySem.W.Frag} {fg fg' : Hp} {la : Nat → Addr} {H H' : Hp} {σ : L2.St}
theorem escs_ok : ∀ {as : List Val} {vs : List V} {W : Hp} {e e' : Env} {ds : List D}, Rel K fg la W H σ e → ValsOk K fg W H σ e vs as → escs e as = some (ds, e') → ∃ W', Sub W W' ∧ Rel K fg la W' H σ e' ∧ Reps K W' vs ds
  | [], [], W, e, e', ds, r, _, l => by cases l; exact ⟨W, .refl _, r, .nil⟩
  | a :: as, v :: vs, W, e, e', ds, r, h, l => by
    unfold escs at l
    cases q : esc e a with
    | none => rw [q] at l; cases l
    | some p =>
      obtain ⟨d, e1⟩ := p
      rw [q] at l
      simp only at l
      cases q2 : escs e1 as with
      | none => rw [q2] at l; cases l
      | some p2 =>
        obtain ⟨ds2, e2⟩ := p2
        rw [q2] at l
        cases l
        obtain ⟨W1, s1, r1, rp, n, oc⟩ := esc_ok' r h.1 q
        obtain ⟨W2, s2, r2, rps⟩ := escs_ok r1 (h.2.1.after_esc s1 n oc h.2.2) q2
        exact ⟨W2, s1.trans s2, r2, .cons (rp.mono s2) rps⟩
  | [], _ :: _, _, _, _, _, _, h, _ => h.elim
  | _ :: _, [], _, _, _, _, _, h, _ => h.elim
end
def looks (e : Env) : List Val → Option (List D)
  | [] => some []
  | a :: as => match look e a, looks e as with
    | some d, some ds => some (d :: ds)
    | _, _ => none
inductive RepOs (K : PySem.W.Frag) (W H : Hp) : List V → List D → Prop
  | nil : RepOs K W H [] []
  | cons {v : V} {vs : List V} {d : D} {ds : List D} : RepO K W H v d → RepOs K W H vs ds → RepOs K W H (v :: vs) (d :: ds)
section
variable {K : PySem.W.Frag} {fg : Hp} {la : Nat → Addr} {W H : Hp} {σ : L2.St} {e : Env}
theorem looks_ok (r : Rel K fg la W H σ e) : ∀ {as : List Val} {vs : List V} {ds : List D}, ValsOk K fg W H σ e vs as → looks e as = some ds → RepOs K W H vs ds
  | [], [], ds, _, l => by cases l; exact .nil
  | a :: as, v :: vs, ds, h, l => by
    unfold looks at l
    cases q : look e a with
    | none => rw [q] at l; cases l
    | some d =>
      cases q2 : looks e as with
      | none => rw [q, q2] at l; cases l
      | some ds2 =>
        rw [q, q2] at l
        cases l
        exact .cons (look_ok r h.1 q) (looks_ok r h.2.1 q2)
  | [], _ :: _, _, h, _ => h.elim
  | _ :: _, [], _, h, _ => h.elim
end

section
variable {X : Cx} {Wx : WX}
theorem Post.fg {α : Type} {fg fg' : Hp} {la : Nat → Addr} {W : Hp} {σ : L2.St} {ok : Hp → Hp → Env → α → Prop} {r : R α} (h : Post X Wx fg la W σ ok r) (s : Sub fg fg') : Post X Wx fg' la W σ ok r := by
  cases r with
  | ok a e' => exact fun W1 H1 s1 r1 => h W1 H1 s1 (r1.less s)
  | ex x e' => exact fun W1 H1 cls d s1 r1 z => h W1 H1 cls d s1 (r1.less s) z
  | no => exact h
/-! ### arguments -/
def mNil : M (List Val) := M.ret []
def mCons (m : M Val) (n : M (List Val)) : M (List Val) := M.bind m fun a => M.bind n fun as => M.ret (a :: as)
theorem da_nil : DA X Wx [] mNil := PA.wk pa_nil (by
  rintro σ H Q ⟨fg, la, W, e, rl, h⟩
  exact Post.here h rl [] trivial)
theorem da_cons {e : Expr} {es : List Expr} {m : M Val} {n : M (List Val)} (ha : DE X Wx e m) (hr : DA X Wx es n) (hs : starEach (e :: es) X.env = (false, eval e X.env) :: starEach es X.env := by rfl) : DA X Wx (e :: es) (mCons m n) :=
  PA.wk (pa_cons ha hr hs) (by
    rintro σ H Q ⟨fg, la, W, e, rl, h⟩
    refine ⟨fg, la, W, e, rl, (Post.bind h).mono fun W1 H1 e1 a s1 r1 h1 x hx => ?_⟩
    have fin : ∀ fg2, Sub fg fg2 → Rel X.K fg2 la W1 H1 σ e1 → (∀ W2 H2 e2, Sub W1 W2 → Rel X.K fg2 la W2 H2 σ e2 → ValOk X.K fg W2 H2 σ e2 x a ∧ (a.isOw = true → ∃ p o, x = .ref p ∧ fg2 p = some o)) →
        rdA X Wx n σ H1 fun xs H2 => Q (x :: xs) H2 := fun fg2 sf r2 k => by
      refine ⟨fg2, la, W1, e1, r2, ((Post.bind h1).fg sf).mono fun W3 H3 e3 as s3 r3 h3 vs hv => ?_⟩
      obtain ⟨k1, k2⟩ := k W3 H3 e3 s3 r3
      refine Post.here h3 (r3.less sf) _ ⟨k1, hv.less sf, fun oa j b qb ob z => ?_⟩
      obtain ⟨p, o, rfl, hp⟩ := k2 oa
      obtain ⟨u, hu, vk⟩ := ValsOk.at_ j hv qb
      rw [z] at hu; cases hu
      cases b with
      | ow d =>
        obtain ⟨p', e', h2, h3, _⟩ := vk
        cases e'
        rw [hp] at h3; cases h3
      | _ => cases ob
    cases a with
    | sh d => exact fin fg (.refl _) r1 fun W2 H2 e2 s2 r2 => ⟨Rep.mono s2 hx, fun z => nomatch z⟩
    | bw i => exact fin fg (.refl _) r1 fun W2 H2 e2 s2 r2 => ⟨hx, fun z => nomatch z⟩
    | ow d =>
      obtain ⟨p, rfl, h2, h3, h4, h5⟩ := hx
      obtain ⟨o, ho⟩ := h4.some
      refine fin (upd fg p o) (.new h3) (r1.keep ho h2 h5) fun W2 H2 e2 s2 r2 => ⟨?_, fun _ => ⟨p, o, rfl, upd_same⟩⟩
      obtain ⟨k1, k2⟩ := r2.frn p o upd_same
      refine ⟨p, rfl, k2 (h4.nt ho), h3, h4.mono s2 fun u hu => by rw [ho] at hu; cases hu; exact k1, fun i c q oc z => ?_⟩
      obtain ⟨b, d', s', _, f', _⟩ := (r2.cell i c q).at_ oc
      rw [z] at s'; cases s'
      rw [upd_same] at f'; cases f')
/-! ### displays -/
def mTup (n : M (List Val)) : M Val := M.bind n fun as e => match escs e as with
  | some (ds, e') => if ds.length ≤ 1000 then .ok (.sh (.tup ds)) e' else .no
  | none => .no
def mLst (n : M (List Val)) : M Val := M.bind n fun as e => match escs e as with
  | some (ds, e') => if ds.length ≤ 1000 then .ok (.ow (.lst ds)) e' else .no
  | none => .no
theorem le1000 {n : Nat} (h : n ≤ 1000) : n ≤ sizeLine := Nat.le_of_lt (small1000 h)
theorem de_tup {es : List Expr} {n : M (List Val)} {x1} {pos : Pos} (h : DA X Wx es n) : DE X Wx (.Tuple es x1 pos) (mTup n) := PE.wk (pe_tup h) (by
  rintro σ H Q ⟨fg, la, W, e, rl, h⟩
  refine ⟨fg, la, W, e, rl, (Post.bind h).mono fun W1 H1 e1 as s1 r1 h1 vs hv => ?_⟩
  cases q : escs e1 as with
  | none => rw [q] at h1; exact (show False from h1).elim
  | some p =>
    obtain ⟨ds, e2⟩ := p
    rw [q] at h1
    simp only at h1
    obtain ⟨W2, s2, r2, rp⟩ := escs_ok r1 hv q
    by_cases hl : ds.length ≤ 1000
    · rw [if_pos hl] at h1
      refine ⟨by rw [rp.length]; exact le1000 hl, fun p hp => ?_⟩
      have t : Step W2 H1 (upd W2 p (.tup vs)) (upd H1 p (.tup vs)) := .new r2.sub hp
      exact h1 _ _ (s2.trans t.w) (r2.step t) _ (.tup upd_same (rp.mono t.w))
    · rw [if_neg hl] at h1; exact (show False from h1).elim)
theorem de_lst {es : List Expr} {n : M (List Val)} {pos : Pos} (h : DA X Wx es n) : DE X Wx (.List es pos) (mLst n) := PE.wk (pe_lst h) (by
  rintro σ H Q ⟨fg, la, W, e, rl, h⟩
  refine ⟨fg, la, W, e, rl, (Post.bind h).mono fun W1 H1 e1 as s1 r1 h1 vs hv => ?_⟩
  cases q : escs e1 as with
  | none => rw [q] at h1; exact (show False from h1).elim
  | some p =>
    obtain ⟨ds, e2⟩ := p
    rw [q] at h1
    simp only at h1
    obtain ⟨W2, s2, r2, rp⟩ := escs_ok r1 hv q
    by_cases hl : ds.length ≤ 1000
    · rw [if_pos hl] at h1
      refine ⟨by rw [rp.length]; exact le1000 hl, fun p hp => ?_⟩
      have t : Step W2 H1 W2 (upd H1 p (.lst vs)) := .newH r2.sub hp
      exact h1 _ _ s2 (r2.step t) _ (NewV.ok (H := H1) (W := W2) r2 t ⟨p, rfl, hp, r2.sub.none hp, vs, upd_same, rp⟩)
    · rw [if_neg hl] at h1; exact (show False from h1).elim)
/-! ### calls of built-ins -/
def CallD (K : PySem.W.Frag) (r : List V → Hp → VK → Prop) (f : List D → Option Val) : Prop := ∀ W H vs ds a (Q : VK), Sub W H → RepOs K W H vs ds → f ds = some a → (∀ W' H' v, Step W H W' H' → NewV K W' H H' v a → Q v H') → r vs H Q
def mCB (f : List D → Option Val) (n : M (List Val)) : M Val := M.bind n fun as e => M.lift ((looks e as).bind f) e
theorem rdCB {f : List D → Option Val} {r : List V → Hp → VK → Prop} (ho : CallD X.K r f) {n : M (List Val)} {σ : L2.St} {H : Hp} {Q : VK} (h : rdE X Wx (mCB f n) σ H Q) : tCB r (rdA X Wx n) σ H Q := by
  obtain ⟨fg, la, W, e, rl, h⟩ := h
  refine ⟨fg, la, W, e, rl, (Post.bind h).mono fun W1 H1 e1 as s1 r1 h1 vs hv => ?_⟩
  cases q : looks e1 as with
  | none => rw [q] at h1; exact (show False from h1).elim
  | some ds =>
    rw [q, Option.bind_some] at h1
    cases q2 : f ds with
    | none => rw [q2] at h1; exact (show False from h1).elim
    | some a =>
      rw [q2] at h1
      exact ho W1 H1 vs ds a Q r1.sub (looks_ok r1 hv q) q2 fun W' H' v t nv => h1 W' H' t.w (r1.step t) v (nv.ok r1 t)
theorem de_callB {f : List D → Option Val} {r : List V → Hp → VK → Prop} {id : String} {x : Str} {p pos : Pos} {e : Expr} {es : List Expr} {n : M (List Val)} (hc : CallR X (.builtin id) r) (hd : CallD X.K r f) (hg : Gl X x) (hm : X.mg x = none) (hv : bootBuiltins x = some (.builtin id)) (ha : DA X Wx (e :: es) n)
    (hn : x ≠ "__name__" := by decide) (hdb : (x == ("__debug__" : Str)) = false := by decide)
    (he : starEach (e :: es) X.env = (false, eval e X.env) :: starEach es X.env := by rfl) (hpl : (backTo pos (starEach es X.env)).any (·.1) = false := by rfl) : DE X Wx (.Call (.Name x p) (e :: es) [] pos) (mCB f n) :=
  PE.wk (pe_callB hc hg hm hv ha hn hdb he hpl) fun _ _ _ h => rdCB hd h
theorem de_callTy {f : List D → Option Val} {r : List V → Hp → VK → Prop} {T : String} {x : Str} {p pos : Pos} {e : Expr} {es : List Expr} {n : M (List Val)} (hc : CallR X (.type T) r) (hd : CallD X.K r f) (hg : Gl X x) (hm : X.mg x = none) (hv : bootBuiltins x = some (.type T)) (ha : DA X Wx (e :: es) n)
    (hn : x ≠ "__name__" := by decide) (hdb : (x == ("__debug__" : Str)) = false := by decide)
    (he : starEach (e :: es) X.env = (false, eval e X.env) :: starEach es X.env := by rfl) (hpl : (backTo pos (starEach es X.env)).any (·.1) = false := by rfl) : DE X Wx (.Call (.Name x p) (e :: es) [] pos) (mCB f n) :=
  PE.wk (pe_callTy hc hg hm hv ha hn hdb he hpl) fun _ _ _ h => rdCB hd h
theorem CallR.or {f : Value} {r r' : List V → Hp → VK → Prop} (h : CallR X f r) (h' : CallR X f r') : CallR X f (fun xs H Q => r xs H Q ∨ r' xs H Q) := by
  intro pins s σ H xs us Q I rx q
  rcases q with q | q
  · exact h pins s σ H xs us Q I rx q
  · exact h' pins s σ H xs us Q I rx q
/-! ### subscripts, slices -/
theorem de_ix {r : R2} {f : D → D → Option Val} {a b : Expr} {ma mb : M Val} {pos : Pos} (hr : IxR X r) (hd : OpD X.K r f) (ha : DE X Wx a ma) (hb : DE X Wx b mb) (hs : PlainIx b) : DE X Wx (.Subscript a b pos) (m2 f ma mb) :=
  PE.wk (pe_ix hr ha hb hs) fun _ _ _ h => rd2 hd h
/-- the ends of a slice: ints, or left out -/
def DO (X : Cx) (Wx : WX) (e : Option Expr) (m : Option (M Val)) : Prop := match e, m with
  | none, none => True
  | some e, some m => DE X Wx e m
  | _, _ => False
def mPart (m : Option (M Val)) : M (Option Int) := match m with
  | none => M.ret none
  | some m => M.bind m fun a e => match a with
    | .sh (.int i) => .ok (some i) e
    | _ => .no
def SlD (K : PySem.W.Frag) (r : V → Option Int → Option Int → Hp → VK → Prop) (f : D → Option Int → Option Int → Option Val) : Prop :=
  ∀ W H x d lo hi a (Q : VK), Sub W H → RepO K W H x d → f d lo hi = some a → (∀ W' H' v, Step W H W' H' → NewV K W' H H' v a → Q v H') → r x lo hi H Q
def mSl (f : D → Option Int → Option Int → Option Val) (m : M Val) (lo hi : Option (M Val)) : M Val := M.bind m fun a => M.bind (mPart lo) fun l => M.bind (mPart hi) fun h => fun e => M.lift ((look e (hold a)).bind fun d => f d l h) e
def rdO (X : Cx) (Wx : WX) (m : Option (M Val)) : TO := fun σ H Q => ∃ fg la W e, Rel X.K fg la W H σ e ∧ Post X Wx fg la W σ (fun _ H' _ a => Q a H') (mPart m e)
theorem po_of {e : Option Expr} {m : Option (M Val)} (h : DO X Wx e m) : PO X e (rdO X Wx m) := by
  have wk : ∀ {e : Option Expr} {t t' : TO}, PO X e t → (∀ σ H Q, t' σ H Q → t σ H Q) → PO X e t' := fun {e t t'} h k => ⟨fun pins s σ H Q I q => h.run pins s σ H Q I (k σ H Q q)⟩
  cases e with
  | none =>
    cases m with
    | none =>
      refine wk po_none ?_
      rintro σ H Q ⟨fg, la, W, e, rl, h⟩
      exact Post.here h rl
    | some m => exact h.elim
  | some e =>
    cases m with
    | none => exact h.elim
    | some m =>
      refine wk (po_some (show PE X e (rdE X Wx m) from h)) ?_
      rintro σ H Q ⟨fg, la, W, e, rl, h⟩
      refine ⟨fg, la, W, e, rl, (Post.bind h).mono fun W1 H1 e1 a s1 r1 h1 x hx => ?_⟩
      cases a with
      | sh d =>
        cases d with
        | int i => cases (show Rep X.K W1 x (.int i) from hx); exact ⟨i, rfl, Post.here h1 r1⟩
        | _ => exact (show False from h1).elim
      | _ => exact (show False from h1).elim
theorem de_slice {r : V → Option Int → Option Int → Hp → VK → Prop} {f : D → Option Int → Option Int → Option Val} {e : Expr} {lo hi : Option Expr} {m : M Val} {ml mh : Option (M Val)} {p2 pos : Pos} (hr : SlR X r) (hd : SlD X.K r f) (he : DE X Wx e m) (hl : DO X Wx lo ml) (hh : DO X Wx hi mh) :
    DE X Wx (.Subscript e (.Slice lo hi none p2) pos) (mSl f m ml mh) := PE.wk (pe_slice hr he (po_of hl) (po_of hh)) (by
  rintro σ H Q ⟨fg, la, W, e, rl, h⟩
  refine ⟨fg, la, W, e, rl, (Post.bind h).mono fun W1 H1 e1 a s1 r1 h1 x hx => ?_⟩
  obtain ⟨W2, s2, r2, hx2⟩ := hold_ok r1 hx
  refine ⟨fg, la, W2, e1, r2, ((Post.bind h1).wider s2).mono fun W3 H3 e3 l s3 r3 h3 => ?_⟩
  refine ⟨fg, la, W3, e3, r3, (Post.bind h3).mono fun W4 H4 e4 u s4 r4 h4 => ?_⟩
  have hx4 := held_mono (H' := H4) (e' := e4) hx2 (s3.trans s4)
  cases q : look e4 (hold a) with
  | none => rw [q] at h4; exact (show False from h4).elim
  | some d =>
    rw [q, Option.bind_some] at h4
    cases q2 : f d l u with
    | none => rw [q2] at h4; exact (show False from h4).elim
    | some c =>
      rw [q2] at h4
      exact hd W4 H4 x d l u c Q r4.sub (look_ok r4 hx4 q) q2 fun W' H' v t nv => h4 W' H' t.w (r4.step t) v (nv.ok r4 t))
end
end VS

/-! VE: statements: names set, several at once, if, return, blocks, expressions dropped. -/
namespace VS
open PySem PySem.Spec PyProof.Rows L2

inductive Flw where
  | nx | bk | ct | rt (a : Val)
  deriving Inhabited
def PostS (X : Cx) (Wx : WX) (fg : Hp) (la : Nat → Addr) (W : Hp) (D : Ends) : R Flw → Prop
  | .ok .nx e' => ∀ W' H' σ', Sub W W' → Rel X.K fg la W' H' σ' e' → D.nx σ' H'
  | .ok .bk e' => ∀ W' H' σ', Sub W W' → Rel X.K fg la W' H' σ' e' → D.bk σ' H'
  | .ok .ct e' => ∀ W' H' σ', Sub W W' → Rel X.K fg la W' H' σ' e' → D.ct σ' H'
  | .ok (.rt a) e' => ∀ W' H' σ' v, Sub W W' → Rel X.K fg la W' H' σ' e' → ValOk X.K fg W' H' σ' e' v a → D.rt v H'
  | .ex x e' => ∀ W' H' σ' cls d, Sub W W' → Rel X.K fg la W' H' σ' e' → ExOk X.mg X.K W' H' cls d x → Wx cls d σ' H'
  | .no => False
section
variable {X : Cx} {Wx : WX} {fg fg' : Hp} {la : Nat → Addr} {W W' H : Hp} {σ : L2.St} {e : Env} {D : Ends}
theorem PostS.wider {r : R Flw} (h : PostS X Wx fg la W D r) (s : Sub W W') : PostS X Wx fg la W' D r := by
  cases r with
  | ok a e' =>
    cases a with
    | nx => exact fun W1 H1 σ1 s1 r1 => h W1 H1 σ1 (s.trans s1) r1
    | bk => exact fun W1 H1 σ1 s1 r1 => h W1 H1 σ1 (s.trans s1) r1
    | ct => exact fun W1 H1 σ1 s1 r1 => h W1 H1 σ1 (s.trans s1) r1
    | rt a => exact fun W1 H1 σ1 v s1 r1 z => h W1 H1 σ1 v (s.trans s1) r1 z
  | ex x e' => exact fun W1 H1 σ1 cls d s1 r1 z => h W1 H1 σ1 cls d (s.trans s1) r1 z
  | no => exact h
theorem PostS.fgw {r : R Flw} (h : PostS X Wx fg la W D r) (s : Sub fg fg') : PostS X Wx fg' la W D r := by
  cases r with
  | ok a e' =>
    cases a with
    | nx => exact fun W1 H1 σ1 s1 r1 => h W1 H1 σ1 s1 (r1.less s)
    | bk => exact fun W1 H1 σ1 s1 r1 => h W1 H1 σ1 s1 (r1.less s)
    | ct => exact fun W1 H1 σ1 s1 r1 => h W1 H1 σ1 s1 (r1.less s)
    | rt a => exact fun W1 H1 σ1 v s1 r1 z => h W1 H1 σ1 v s1 (r1.less s) (z.less s)
  | ex x e' => exact fun W1 H1 σ1 cls d s1 r1 z => h W1 H1 σ1 cls d s1 (r1.less s) z
  | no => exact h
theorem PostS.nx (h : PostS X Wx fg la W D (.ok .nx e)) (r : Rel X.K fg la W H σ e) : D.nx σ H := h W H σ (.refl _) r
/-- behind an expression -/
theorem PostS.bind {α : Type} {m : M α} {f : α → M Flw} (h : PostS X Wx fg la W D (M.bind m f e)) : Post X Wx fg la W σ (fun W' _ e' a => PostS X Wx fg la W' D (f a e')) (m e) := by
  unfold M.bind at h
  cases q : m e with
  | ok a e' => rw [q] at h; exact fun W' H' s r => PostS.wider h s
  | ex x e' => rw [q] at h; exact fun W' H' cls d s r z => h W' H' σ cls d s r z
  | no => rw [q] at h; exact h
end
def rdS (X : Cx) (Wx : WX) (m : M Flw) : TS := fun D σ H => ∃ fg la W e, Rel X.K fg la W H σ e ∧ PostS X Wx fg la W D (m e)
def DS (X : Cx) (Wx : WX) (st : Stmt) (m : M Flw) : Prop := PS X st (rdS X Wx m)
def DSs (X : Cx) (Wx : WX) (st : List Stmt) (m : M Flw) : Prop := PSs X st (rdS X Wx m)

/-! ### blocks -/
def sNx : M Flw := M.ret .nx
def sSeq (m n : M Flw) : M Flw := M.bind m fun f => match f with
  | .nx => n
  | f => M.ret f
section
variable {X : Cx} {Wx : WX}
theorem rd_seq {m n : M Flw} {D : Ends} {σ : L2.St} {H : Hp} (h : rdS X Wx (sSeq m n) D σ H) : rdS X Wx m { D with nx := rdS X Wx n D } σ H := by
  obtain ⟨fg, la, W, e, rl, h⟩ := h
  refine ⟨fg, la, W, e, rl, ?_⟩
  unfold sSeq M.bind at h
  cases q : m e with
  | ok f e' =>
    rw [q] at h
    cases f with
    | nx => exact fun W1 H1 σ1 s1 r1 => ⟨fg, la, W1, e', r1, h.wider s1⟩
    | bk => exact h
    | ct => exact h
    | rt a => exact h
  | ex x e' => rw [q] at h; exact h
  | no => rw [q] at h; exact h
theorem dss_nil : DSs X Wx [] sNx := PSs.wk pss_nil (by
  rintro D σ H ⟨fg, la, W, e, rl, h⟩
  exact PostS.nx h rl)
theorem dss_cons {st : Stmt} {rest : List Stmt} {m n : M Flw} (h1 : DS X Wx st m) (h2 : DSs X Wx rest n) : DSs X Wx (st :: rest) (sSeq m n) := PSs.wk (pss_cons h1 h2) fun _ _ _ h => rd_seq h
theorem dss_one {st : Stmt} {m : M Flw} (h1 : DS X Wx st m) : DSs X Wx [st] m := pss_one h1
theorem ds_pass {pos : Pos} : DS X Wx (.Pass pos) sNx := PS.wk ps_pass (by
  rintro D σ H ⟨fg, la, W, e, rl, h⟩
  exact PostS.nx h rl)
def sBk : M Flw := M.ret .bk
def sCt : M Flw := M.ret .ct
theorem ds_break {pos : Pos} : DS X Wx (.Break pos) sBk := PS.wk ps_break (by
  rintro D σ H ⟨fg, la, W, e, rl, h⟩
  exact (show ∀ W' H' σ', Sub W W' → Rel X.K fg la W' H' σ' e → D.bk σ' H' from h) W H σ (.refl _) rl)
theorem ds_continue {pos : Pos} : DS X Wx (.Continue pos) sCt := PS.wk ps_continue (by
  rintro D σ H ⟨fg, la, W, e, rl, h⟩
  exact (show ∀ W' H' σ', Sub W W' → Rel X.K fg la W' H' σ' e → D.ct σ' H' from h) W H σ (.refl _) rl)
/-- an expression whose value is dropped -/
def sEx (m : M Val) : M Flw := M.bind m fun _ => sNx
theorem ds_expr {e : Expr} {m : M Val} {pos : Pos} (h : DE X Wx e m) (hs : swapsWith e none pos.line X.env = pure false := by rfl) : DS X Wx (.Expr e pos) (sEx m) := PS.wk (ps_expr h hs) (by
  rintro D σ H ⟨fg, la, W, e, rl, h⟩
  exact ⟨fg, la, W, e, rl, (PostS.bind h).mono fun W1 H1 e1 a s1 r1 h1 v hv => PostS.nx h1 r1⟩)
def sRet (m : M Val) : M Flw := M.bind m fun a => M.ret (.rt a)
theorem ds_ret {e : Expr} {m : M Val} {pos : Pos} (h : DE X Wx e m) : DS X Wx (.Return (some e) pos) (sRet m) := PS.wk (ps_ret h) (by
  rintro D σ H ⟨fg, la, W, e, rl, h⟩
  exact ⟨fg, la, W, e, rl, (PostS.bind h).mono fun W1 H1 e1 a s1 r1 h1 v hv => (show ∀ W' H' σ' v, Sub W1 W' → Rel X.K fg la W' H' σ' e1 → ValOk X.K fg W' H' σ' e1 v a → D.rt v H' from h1) W1 H1 σ v (.refl _) r1 hv⟩)
def sRetN : M Flw := M.ret (.rt (.sh .non))
theorem ds_retN {pos : Pos} : DS X Wx (.Return none pos) sRetN := PS.wk ps_retN (by
  rintro D σ H ⟨fg, la, W, e, rl, h⟩
  exact (show ∀ W' H' σ' v, Sub W W' → Rel X.K fg la W' H' σ' e → ValOk X.K fg W' H' σ' e v (.sh .non) → D.rt v H' from h) W H σ _ (.refl _) rl .non)
def sIf (c : M Bool) (m n : M Flw) : M Flw := M.bind c fun b => if b then m else n
theorem ds_if {c : Expr} {a b : List Stmt} {mc : M Bool} {m n : M Flw} {pos : Pos} (hc : DT X Wx c mc) (ha : DSs X Wx a m) (hb : DSs X Wx b n) : DS X Wx (.If c a b pos) (sIf mc m n) := PS.wk (ps_if hc ha hb) (by
  rintro D σ H ⟨fg, la, W, e, rl, h⟩
  refine ⟨fg, la, W, e, rl, (PostS.bind h).mono fun W1 H1 e1 b s1 r1 h1 => ?_⟩
  cases b with
  | true => exact ⟨fg, la, W1, e1, r1, h1⟩
  | false => exact ⟨fg, la, W1, e1, r1, h1⟩)
end

/-! ### names set -/
def Val.cell : Val → Cell
  | .sh d => .sh d
  | .ow d => .ow d
  | .bw _ => .un
/-- a borrowed value is shared, the others stay -/
def unbw (e : Env) : Val → Option (Val × Env)
  | .bw i => (esc e (.bw i)).map fun p => (.sh p.1, p.2)
  | a => some (a, e)
def Cell.lent : Cell → Bool
  | .ln _ => true
  | _ => false
/-- the cell of a name that is not lent -/
def putC (e : Env) (i : Nat) (c : Cell) : Option Env := match e[i]? with
  | some (.ln _) => none
  | none => none
  | some _ => some (e.set i c)
def setC (e : Env) (i : Nat) (a : Val) : Option Env := match unbw e a with
  | some (b, e1) => putC e1 i b.cell
  | none => none
section
variable {K : PySem.W.Frag} {fg : Hp} {la : Nat → Addr} {W W' H H' : Hp} {σ : L2.St} {e e' : Env}
def Val.fix : Val → Bool
  | .bw _ => false
  | _ => true
theorem Rel.put {i : Nat} {v : V} {a : Val} (r : Rel K fg la W H σ e) (h : ValOk K fg W H σ e v a) (f : a.fix = true) (l : putC e i a.cell = some e') : Rel K fg la W H (σ.set i (some v)) e' := by
  unfold putC at l
  split at l
  · cases l
  · cases l
  · rename_i c0 nl q
    cases l
    have hi : i < e.length := (List.getElem?_eq_some_iff.mp q).1
    have hσ : i < σ.length := by rw [← r.len]; exact hi
    have get : ∀ (j : Nat) c, (e.set i a.cell)[j]? = some c → (j = i ∧ c = a.cell) ∨ (j ≠ i ∧ e[j]? = some c) := fun j c q => by
      by_cases z : i = j
      · subst z; rw [List.getElem?_set_self hi] at q; cases q; exact .inl ⟨rfl, rfl⟩
      · rw [List.getElem?_set_ne z] at q; exact .inr ⟨Ne.symm z, q⟩
    have ownv : ∀ p, (Val.cell a).own = true → (σ.set i (some v))[i]? = some (some (V.ref p)) → ∀ (j : Nat) c, j ≠ i → e[j]? = some c → c.own = true → σ[j]? = some (some (V.ref p)) → False := fun p o s j c ne q oc s2 => by
      cases a with
      | sh d => cases o
      | bw k => cases f
      | ow d =>
        obtain ⟨p', rfl, _, _, _, h5⟩ := h
        rw [List.getElem?_set_self hσ] at s
        cases s
        exact h5 j c q oc s2
    refine ⟨r.sub, r.frn, by rw [List.length_set, List.length_set]; exact r.len, fun j c qj => ?_, fun j k c c' p ne q1 q2 o1 o2 s1 s2 => ?_⟩
    · rcases get j c qj with ⟨rfl, rfl⟩ | ⟨ne, q'⟩
      · cases a with
        | sh d => exact ⟨v, by rw [List.getElem?_set_self hσ], h⟩
        | bw k => cases f
        | ow d =>
          obtain ⟨p, rfl, h2, h3, h4, h5⟩ := h
          exact ⟨p, by rw [List.getElem?_set_self hσ], h2, h3, h4⟩
      · rw [List.getElem?_set_ne (Ne.symm ne)]
        exact r.cell j c q'
    · rcases get j c q1 with ⟨rfl, rfl⟩ | ⟨n1, q1'⟩
      · rcases get k c' q2 with ⟨rfl, rfl⟩ | ⟨n2, q2'⟩
        · exact ne rfl
        · rw [List.getElem?_set_ne (Ne.symm n2)] at s2
          exact ownv p o1 s1 k c' n2 q2' o2 s2
      · rw [List.getElem?_set_ne (Ne.symm n1)] at s1
        rcases get k c' q2 with ⟨rfl, rfl⟩ | ⟨n2, q2'⟩
        · exact ownv p o2 s2 j c n1 q1' o1 s1
        · rw [List.getElem?_set_ne (Ne.symm n2)] at s2
          exact r.apart j k c c' p ne q1' q2' o1 o2 s1 s2
theorem unbw_ok {v : V} {a b : Val} {e1 : Env} (r : Rel K fg la W H σ e) (h : ValOk K fg W H σ e v a) (l : unbw e a = some (b, e1)) : ∃ W', Sub W W' ∧ Rel K fg la W' H σ e1 ∧ ValOk K fg W' H σ e1 v b ∧ b.fix = true := by
  cases a with
  | sh d => cases l; exact ⟨W, .refl _, r, h, rfl⟩
  | ow d => cases l; exact ⟨W, .refl _, r, h, rfl⟩
  | bw i =>
    unfold unbw at l
    simp only at l
    cases q : esc e (.bw i) with
    | none => rw [q] at l; cases l
    | some p =>
      obtain ⟨d, e2⟩ := p
      rw [q] at l
      cases l
      obtain ⟨W', s, r', rp⟩ := esc_ok r h q
      exact ⟨W', s, r', rp, rfl⟩
theorem Rel.setC {i : Nat} {v : V} {a : Val} (r : Rel K fg la W H σ e) (h : ValOk K fg W H σ e v a) (l : setC e i a = some e') : ∃ W', Sub W W' ∧ Rel K fg la W' H (σ.set i (some v)) e' := by
  unfold VS.setC at l
  cases q : unbw e a with
  | none => rw [q] at l; cases l
  | some p =>
    obtain ⟨b, e1⟩ := p
    rw [q] at l
    obtain ⟨W', s, r1, h1, f⟩ := unbw_ok r h q
    exact ⟨W', s, r1.put h1 f l⟩
end
section
variable {X : Cx} {Wx : WX}
def sSet (i : Nat) (m : M Val) : M Flw := M.bind m fun a e => match setC e i a with
  | some e' => .ok .nx e'
  | none => .no
theorem rd_set {i : Nat} {m : M Val} {D : Ends} {σ : L2.St} {H : Hp} (h : rdS X Wx (sSet i m) D σ H) : tAsg (rdE X Wx m) (gName i) D σ H := by
  obtain ⟨fg, la, W, e, rl, h⟩ := h
  refine ⟨fg, la, W, e, rl, (PostS.bind h).mono fun W1 H1 e1 a s1 r1 h1 v hv => ?_⟩
  cases q : setC e1 i a with
  | none => rw [q] at h1; exact (show False from h1).elim
  | some e2 =>
    rw [q] at h1
    obtain ⟨W2, s2, r2⟩ := r1.setC hv q
    exact (show ∀ W' H' σ', Sub W1 W' → Rel X.K fg la W' H' σ' e2 → D.nx σ' H' from h1) W2 H1 _ s2 r2
theorem ds_set {i : Nat} {x : Str} {e : Expr} {m : M Val} {pos' pos : Pos} (hN : X.N.Nodup) (hi : X.N[i]? = some x) (hx : Loc X.env.scope x) (he : DE X Wx e m) (hs : swapsWith e (some (.Name x pos')) pos.line X.env = pure false := by rfl) (hf : X.fn x = true ∨ X.env.scope.names.lookup x = some .local := by first | exact .inl rfl | exact .inr rfl | assumption) :
    DS X Wx (.Assign [.Name x pos'] e pos) (sSet i m) := PS.wk (ps_set hN hi hx he hs hf) fun _ _ _ h => rd_set h

/-! ### several names at once -/
def unbws : Env → List Val → Option (List Val × Env)
  | e, [] => some ([], e)
  | e, a :: as => match unbw e a with
    | none => none
    | some (b, e1) => match unbws e1 as with
      | none => none
      | some (bs, e2) => some (b :: bs, e2)
def putCs : Env → List Nat → List Val → Option Env
  | e, [], [] => some e
  | e, i :: is, a :: as => match putC e i a.cell with
    | some e1 => putCs e1 is as
    | none => none
  | _, _, _ => none
def setσ : L2.St → List Nat → List V → L2.St
  | σ, i :: is, v :: vs => setσ (σ.set i (some v)) is vs
  | σ, _, _ => σ
end
section
variable {K : PySem.W.Frag} {fg : Hp} {la : Nat → Addr} {H : Hp}
/-- the rest of the values as they were, behind one that was unborrowed -/
theorem unbws_ok {σ : L2.St} : ∀ {as bs : List Val} {vs : List V} {W : Hp} {e e' : Env}, Rel K fg la W H σ e → ValsOk K fg W H σ e vs as → unbws e as = some (bs, e') → ∃ W', Sub W W' ∧ Rel K fg la W' H σ e' ∧ ValsOk K fg W' H σ e' vs bs ∧ bs.all Val.fix = true ∧
    (∀ q, W q = none → W' q = none ∨ ∃ (i : Nat) (c : Cell), e[i]? = some c ∧ c.own = true ∧ σ[i]? = some (some (V.ref q))) ∧ (∀ (i : Nat) c, e'[i]? = some c → c.own = true → e[i]? = some c)
  | [], _, [], W, e, e', r, _, l => by cases l; exact ⟨W, .refl _, r, trivial, rfl, fun _ z => .inl z, fun _ _ z _ => z⟩
  | a :: as, bs, v :: vs, W, e, e', r, h, l => by
    unfold unbws at l
    cases q : unbw e a with
    | none => rw [q] at l; cases l
    | some p =>
      obtain ⟨b, e1⟩ := p
      rw [q] at l
      simp only at l
      cases q2 : unbws e1 as with
      | none => rw [q2] at l; cases l
      | some p2 =>
        obtain ⟨bs2, e2⟩ := p2
        rw [q2] at l
        cases l
        have step : ∃ W1, Sub W W1 ∧ Rel K fg la W1 H σ e1 ∧ ValOk K fg W1 H σ e1 v b ∧ b.fix = true ∧ (∀ q, W q = none → W1 q = none ∨ ∃ (i : Nat) (c : Cell), e[i]? = some c ∧ c.own = true ∧ σ[i]? = some (some (V.ref q))) ∧
            (∀ (i : Nat) c, e1[i]? = some c → c.own = true → e[i]? = some c) ∧ (b.isOw = a.isOw) := by
          cases a with
          | sh d => cases q; exact ⟨W, .refl _, r, h.1, rfl, fun _ z => .inl z, fun _ _ z _ => z, rfl⟩
          | ow d => cases q; exact ⟨W, .refl _, r, h.1, rfl, fun _ z => .inl z, fun _ _ z _ => z, rfl⟩
          | bw k =>
            unfold unbw at q
            simp only at q
            cases q3 : esc e (.bw k) with
            | none => rw [q3] at q; cases q
            | some p3 =>
              obtain ⟨d, e3⟩ := p3
              rw [q3] at q
              cases q
              obtain ⟨W1, s1, r1, rp, n, oc⟩ := esc_ok' r h.1 q3
              refine ⟨W1, s1, r1, rp, rfl, fun y hy => ?_, oc, rfl⟩
              rcases n y hy with z | ⟨z, z2 | ⟨i, c, z3, z4, z5⟩⟩
              · exact .inl z
              · cases z2
              · exact .inr ⟨i, c, z3, z4, by rw [← z]; exact z5⟩
        obtain ⟨W1, s1, r1, hv, fx, n, oc, io⟩ := step
        have rest : ValsOk K fg W1 H σ e1 vs as := by
          clear q2
          have : ∀ {vs : List V} {as : List Val}, ValsOk K fg W H σ e vs as → ValsOk K fg W1 H σ e1 vs as := by
            intro vs
            induction vs with
            | nil => intro as h; cases as with
              | nil => trivial
              | cons _ _ => exact h.elim
            | cons u us ih =>
              intro as h
              cases as with
              | nil => exact h.elim
              | cons c cs =>
                refine ⟨?_, ih h.2.1, h.2.2⟩
                cases c with
                | sh d => exact Rep.mono s1 h.1
                | bw i => exact h.1
                | ow d =>
                  obtain ⟨p, rfl, h2, h3, h4, h5⟩ := h.1
                  refine ⟨p, rfl, ?_, h3, h4.mono s1 fun _ z => z, fun i c q o => h5 i c (oc i c q o) o⟩
                  rcases n p h2 with z | ⟨i, c, z3, z4, z5⟩
                  · exact z
                  · exact absurd z5 (h5 i c z3 z4)
          exact this h.2.1
        obtain ⟨W2, s2, r2, hvs, fxs, n2, oc2⟩ := unbws_ok r1 rest q2
        have ios : ∀ (j : Nat) b', bs2[j]? = some b' → b'.isOw = true → ∃ a', as[j]? = some a' ∧ a'.isOw = true := by
          clear rest hvs n2 oc2 r2 s2 fxs
          have : ∀ {as bs2 : List Val} {e1 e2 : Env}, unbws e1 as = some (bs2, e2) → ∀ (j : Nat) b', bs2[j]? = some b' → b'.isOw = true → ∃ a', as[j]? = some a' ∧ a'.isOw = true := by
            intro as
            induction as with
            | nil => intro bs2 e1 e2 l j b' z; cases l; simp at z
            | cons c cs ih =>
              intro bs2 e1 e2 l j b' z o
              unfold unbws at l
              cases y : unbw e1 c with
              | none => rw [y] at l; cases l
              | some p =>
                obtain ⟨b, e3⟩ := p
                rw [y] at l
                simp only at l
                cases y2 : unbws e3 cs with
                | none => rw [y2] at l; cases l
                | some p2 =>
                  obtain ⟨bs3, e4⟩ := p2
                  rw [y2] at l
                  cases l
                  cases j with
                  | zero =>
                    simp at z; subst z
                    refine ⟨c, rfl, ?_⟩
                    cases c with
                    | sh d => cases y; exact o
                    | ow d => rfl
                    | bw k =>
                      unfold unbw at y
                      simp only at y
                      cases y3 : esc e1 (.bw k) with
                      | none => rw [y3] at y; cases y
                      | some p3 => rw [y3] at y; cases y; cases o
                  | succ j => simpa using ih y2 j b' (by simpa using z) o
          exact this q2
        refine ⟨W2, s1.trans s2, r2, ⟨?_, hvs, fun ob j b' qb ob' => ?_⟩, by rw [List.all_cons, fx, fxs]; rfl, fun y hy => ?_, fun i c z o => oc i c (oc2 i c z o) o⟩
        · cases b with
          | sh d => exact Rep.mono s2 hv
          | bw k => cases fx
          | ow d =>
            obtain ⟨p, rfl, h2, h3, h4, h5⟩ := hv
            refine ⟨p, rfl, ?_, h3, h4.mono s2 fun _ z => z, fun i c q o => h5 i c (oc2 i c q o) o⟩
            rcases n2 p h2 with z | ⟨i, c, z3, z4, z5⟩
            · exact z
            · exact absurd z5 (h5 i c z3 z4)
        · obtain ⟨a', ha', oa'⟩ := ios j b' qb ob'
          exact h.2.2 (by rw [← io]; exact ob) j a' ha' oa'
        · rcases n y hy with z | z
          · rcases n2 y z with z' | ⟨i, c, z3, z4, z5⟩
            · exact .inl z'
            · exact .inr ⟨i, c, oc i c z3 z4, z4, z5⟩
          · exact .inr z
  | [], _, _ :: _, _, _, _, _, h, _ => h.elim
  | _ :: _, _, [], _, _, _, _, h, _ => h.elim
theorem ValsOk.put {W : Hp} {σ : L2.St} {e e' : Env} {i : Nat} {v : V} {a : Val} (h : ValOk K fg W H σ e v a) (f : a.fix = true) (l : putC e i a.cell = some e') (hl : e.length = σ.length) :
    ∀ {vs : List V} {as : List Val}, ValsOk K fg W H σ e vs as → as.all Val.fix = true → (a.isOw = true → ∀ (j : Nat) b, as[j]? = some b → b.isOw = true → vs[j]? ≠ some v) → ValsOk K fg W H (σ.set i (some v)) e' vs as
  | [], [], h, _, _ => h
  | u :: vs, b :: as, hh, fs, k => by
    rw [List.all_cons, Bool.and_eq_true] at fs
    refine ⟨?_, ValsOk.put h f l hl hh.2.1 fs.2 fun oa j c q o => by simpa using k oa (j + 1) c (by simpa using q) o, hh.2.2⟩
    cases b with
    | sh d => exact hh.1
    | bw i => exact absurd fs.1 (fun z => nomatch z)
    | ow d =>
      obtain ⟨p, rfl, h2, h3, h4, h5⟩ := hh.1
      refine ⟨p, rfl, h2, h3, h4, fun j c q o s => ?_⟩
      unfold putC at l
      split at l
      · cases l
      · cases l
      · rename_i c0 nl q0
        cases l
        have hi : i < e.length := (List.getElem?_eq_some_iff.mp q0).1
        by_cases z : i = j
        · subst z
          rw [List.getElem?_set_self hi] at q
          cases q
          rw [List.getElem?_set_self (by rw [← hl]; exact hi)] at s
          cases s
          cases a with
          | sh d => cases o
          | bw k => cases f
          | ow d => exact k rfl 0 (.ow _) rfl rfl rfl
        · rw [List.getElem?_set_ne z] at q s
          exact h5 j c q o s
  | [], _ :: _, h, _, _ => h.elim
  | _ :: _, [], h, _, _ => h.elim
theorem putCs_ok {W : Hp} : ∀ {is : List Nat} {as : List Val} {vs : List V} {σ : L2.St} {e e' : Env}, Rel K fg la W H σ e → ValsOk K fg W H σ e vs as → as.all Val.fix = true → putCs e is as = some e' → Rel K fg la W H (setσ σ is vs) e'
  | [], [], [], σ, e, e', r, _, _, l => by cases l; exact r
  | i :: is, a :: as, v :: vs, σ, e, e', r, h, f, l => by
    rw [List.all_cons, Bool.and_eq_true] at f
    unfold putCs at l
    cases q : putC e i a.cell with
    | none => rw [q] at l; cases l
    | some e1 =>
      rw [q] at l
      exact putCs_ok (is := is) (as := as) (vs := vs) (σ := σ.set i (some v)) (r.put h.1 f.1 q) (ValsOk.put h.1 f.1 q r.len h.2.1 f.2 h.2.2) f.2 l
  | [], [], _ :: _, _, _, _, _, h, _, _ => h.elim
  | [], _ :: _, _, _, _, _, _, _, _, l => by cases l
  | _ :: _, [], _, _, _, _, _, _, _, l => by cases l
  | _ :: _, _ :: _, [], _, _, _, _, h, _, _ => h.elim
end
section
variable {X : Cx} {Wx : WX}
def sPar (is : List Nat) (n : M (List Val)) : M Flw := M.bind n fun as e => match unbws e as with
  | some (bs, e1) => match putCs e1 is bs with
    | some e2 => .ok .nx e2
    | none => .no
  | none => .no
theorem rd_par {is : List Nat} {n : M (List Val)} {D : Ends} {σ : L2.St} {H : Hp} (h : rdS X Wx (sPar is n) D σ H) :
    rdA X Wx n σ H (fun vs H1 => vs.length = is.length ∧ D.nx (setσ σ is vs) H1 ∧ ∀ p o, H1 p = none → D.nx (setσ σ is vs) (upd H1 p o)) := by
  obtain ⟨fg, la, W, e, rl, h⟩ := h
  refine ⟨fg, la, W, e, rl, (PostS.bind h).mono fun W1 H1 e1 as s1 r1 h1 vs hv => ?_⟩
  cases q : unbws e1 as with
  | none => rw [q] at h1; exact (show False from h1).elim
  | some p =>
    obtain ⟨bs, e2⟩ := p
    rw [q] at h1
    simp only at h1
    cases q2 : putCs e2 is bs with
    | none => rw [q2] at h1; exact (show False from h1).elim
    | some e3 =>
      rw [q2] at h1
      have h1 : ∀ W' H' σ', Sub W1 W' → Rel X.K fg la W' H' σ' e3 → D.nx σ' H' := h1
      obtain ⟨W2, s2, r2, hvs, fx, _, _⟩ := unbws_ok r1 hv q
      have fin := putCs_ok r2 hvs fx q2
      refine ⟨?_, h1 W2 H1 _ s2 fin, fun p o hp => h1 W2 _ _ s2 (fin.step (.newH r2.sub hp))⟩
      have : ∀ {is : List Nat} {bs : List Val} {e e' : Env}, putCs e is bs = some e' → bs.length = is.length := by
        intro is
        induction is with
        | nil => intro bs e e' l; cases bs with
          | nil => rfl
          | cons _ _ => cases l
        | cons i is ih =>
          intro bs e e' l
          cases bs with
          | nil => cases l
          | cons b bs =>
            unfold putCs at l
            cases z : putC e i b.cell with
            | none => rw [z] at l; cases l
            | some e1 => rw [z] at l; rw [List.length_cons, List.length_cons, ih l]
      rw [hvs.length]
      exact this q2
theorem ds_par {i j : Nat} {x y : Str} {a b : Expr} {n : M (List Val)} {px py pt pos : Pos} {kt k2 pt2} (hc : X.calm = true) (hN : X.N.Nodup) (hi : X.N[i]? = some x) (hj : X.N[j]? = some y) (hij : i ≠ j)
    (hx : X.env.scope.names.lookup x = some .local) (hy : X.env.scope.names.lookup y = some .local) (ha : DA X Wx [a, b] n)
    (hw : swappedStores [.Tuple [.Name x px, .Name y py] kt pt] (.Tuple [a, b] k2 pt2) X.env = pure (some [x, y]))
    (hs : swapsWithSole [.Tuple [.Name x px, .Name y py] kt pt] (.Tuple [a, b] k2 pt2) pos.line X.env = pure false := by rfl) :
    DS X Wx (.Assign [.Tuple [.Name x px, .Name y py] kt pt] (.Tuple [a, b] k2 pt2) pos) (sPar [i, j] n) := PS.wk (ps_par hc hN hi hj hij hx hy ha hw hs) (by
  intro D σ H h
  obtain ⟨fg, la, W, e, rl, z⟩ := rd_par h
  refine ⟨fg, la, W, e, rl, z.mono fun W1 H1 e1 as s1 r1 h1 vs hv => ?_⟩
  obtain ⟨hl, q, _⟩ := h1 vs hv
  match vs, hl with
  | [v, w], _ => exact ⟨v, w, rfl, q⟩)
/-- a, b, .. = x, y, ..: a tuple is made and taken apart -/
def gNames : List Nat → TGs
  | [] => gNil
  | i :: is => gCons (gName i) (gNames is)
theorem gNames_ok : ∀ {is : List Nat} {vs : List V} {σ : L2.St} {H : Hp} {Q : L2.St → Hp → Prop}, vs.length = is.length → Q (setσ σ is vs) H → gNames is vs σ H Q
  | [], [], _, _, _, _, q => ⟨rfl, q⟩
  | i :: is, v :: vs, σ, H, Q, l, q => ⟨v, vs, rfl, gNames_ok (is := is) (vs := vs) (σ := σ.set i (some v)) (by simpa using l) q⟩
  | [], _ :: _, _, _, _, l, _ => by simp at l
  | _ :: _, [], _, _, _, l, _ => by simp at l
theorem ds_parG {is : List Nat} {es vs : List Expr} {n : M (List Val)} {k k2 : Nat} {pos p1 p2 : Pos} (hc : X.calm = true) (hg : PGs X es (gNames is)) (ha : DA X Wx vs n) (hl : is.length ≤ 1000)
    (hn : (assignEach es X.env).length = is.length := by rfl) (hst : (assignEach es X.env).findIdx? (·.1) = none := by rfl)
    (hs : swapsWithSole [.Tuple es k p1] (.Tuple vs k2 p2) pos.line X.env = pure false := by rfl) (hw : swappedStores [.Tuple es k p1] (.Tuple vs k2 p2) X.env = pure none := by rfl)
    (h1 : (assignEach [.Tuple es k p1] X.env).map (·.2) = [assign (.Tuple es k p1) X.env] := by rfl) : DS X Wx (.Assign [.Tuple es k p1] (.Tuple vs k2 p2) pos) (sPar is n) :=
  PS.wk (ps_asg (pe_tup ha) (pg_tup hc hg hn hst) hs hw h1) (by
    intro D σ H h
    obtain ⟨fg, la, W, e, rl, z⟩ := rd_par h
    refine ⟨fg, la, W, e, rl, z.mono fun W1 H1 e1 as s1 r1 h1 vs hv => ?_⟩
    obtain ⟨hl', q, q2⟩ := h1 vs hv
    exact ⟨by rw [hl']; exact le1000 hl, fun p hp => ⟨p, vs, rfl, SqT.of upd_same, hl', gNames_ok hl' (q2 p _ hp)⟩⟩)
/-- a, b, .. = a tuple or a list of so many -/
def putD : Env → List Nat → List D → Option Env
  | e, [], [] => some e
  | e, i :: is, d :: ds => match putC e i (.sh d) with
    | some e1 => putD e1 is ds
    | none => none
  | _, _, _ => none
theorem putD_ok {K : PySem.W.Frag} {fg : Hp} {la : Nat → Addr} {W H : Hp} : ∀ {is : List Nat} {ds : List D} {vs : List V} {σ : L2.St} {e e' : Env}, Rel K fg la W H σ e → Reps K W vs ds → putD e is ds = some e' → vs.length = is.length ∧ Rel K fg la W H (setσ σ is vs) e'
  | [], [], [], σ, e, e', r, _, l => by cases l; exact ⟨rfl, r⟩
  | i :: is, d :: ds, v :: vs, σ, e, e', r, h, l => by
    unfold putD at l
    cases q : putC e i (.sh d) with
    | none => rw [q] at l; cases l
    | some e1 =>
      rw [q] at l
      cases h with
      | cons h1 h2 =>
        obtain ⟨z1, z2⟩ := putD_ok (r.put (a := .sh d) h1 rfl q) h2 l
        exact ⟨by rw [List.length_cons, List.length_cons, z1], z2⟩
  | [], _ :: _, _, _, _, _, _, _, l => by cases l
  | _ :: _, [], _, _, _, _, _, _, l => by cases l
  | _, [], _ :: _, _, _, _, _, h, _ => by cases h
  | _, _ :: _, [], _, _, _, _, h, _ => by cases h
end
end VS

/-! VF: targets, what is walked, for, while, list comprehensions. -/
namespace VS
open PySem PySem.Spec PyProof.Rows L2

/-! ### targets -/
def rdG (K : PySem.W.Frag) (is : List Nat) (g : D → Env → Option Env) : TG := fun v σ H Q => ∃ fg la W e d e', Rel K fg la W H σ e ∧ Rep K W v d ∧ g d e = some e' ∧
  ∀ σ', σ'.length = σ.length → (∀ j : Nat, j ∉ is → σ'[j]? = σ[j]?) → Rel K fg la W H σ' e' → Q σ' H
def rdGs (K : PySem.W.Frag) (is : List Nat) (g : List D → Env → Option Env) : TGs := fun vs σ H Q => ∃ fg la W e ds e', Rel K fg la W H σ e ∧ Reps K W vs ds ∧ g ds e = some e' ∧
  ∀ σ', σ'.length = σ.length → (∀ j : Nat, j ∉ is → σ'[j]? = σ[j]?) → Rel K fg la W H σ' e' → Q σ' H
def DG (X : Cx) (tg : Expr) (is : List Nat) (g : D → Env → Option Env) : Prop := PG X tg (rdG X.K is g)
def DGs (X : Cx) (ts : List Expr) (is : List Nat) (g : List D → Env → Option Env) : Prop := PGs X ts (rdGs X.K is g)
theorem PG.wk {X : Cx} {e : Expr} {t t' : TG} (h : PG X e t) (k : ∀ v σ H Q, t' v σ H Q → t v σ H Q) : PG X e t' := ⟨fun pins s σ H v u Q I r q => h.run pins s σ H v u Q I r (k v σ H Q q)⟩
theorem PGs.wk {X : Cx} {e : List Expr} {t t' : TGs} (h : PGs X e t) (k : ∀ v σ H Q, t' v σ H Q → t v σ H Q) : PGs X e t' := ⟨fun pins s σ H v u Q I r q => h.run pins s σ H v u Q I r (k v σ H Q q)⟩
theorem PG.or {X : Cx} {e : Expr} {t t' : TG} (h : PG X e t) (h' : PG X e t') : PG X e (fun v σ H Q => t v σ H Q ∨ t' v σ H Q) := ⟨fun pins s σ H v u Q I r q => by
  rcases q with q | q
  · exact h.run pins s σ H v u Q I r q
  · exact h'.run pins s σ H v u Q I r q⟩
theorem PI.or {X : Cx} {tg e : Expr} {t t' : TI} (h : PI X tg e t) (h' : PI X tg e t') : PI X tg e (fun σ H R => t σ H R ∨ t' σ H R) := ⟨fun pins s σ H R I q => by
  rcases q with q | q
  · exact h.run pins s σ H R I q
  · exact h'.run pins s σ H R I q⟩
def gN (i : Nat) : D → Env → Option Env := fun d e => putC e i (.sh d)
def gsNil : List D → Env → Option Env := fun ds e => match ds with
  | [] => some e
  | _ => none
def gsCons (g : D → Env → Option Env) (gs : List D → Env → Option Env) : List D → Env → Option Env := fun ds e => match ds with
  | d :: ds => match g d e with
    | some e1 => gs ds e1
    | none => none
  | [] => none
def gT (gs : List D → Env → Option Env) : D → Env → Option Env := fun d e => match d with
  | .tup ds => gs ds e
  | .lst ds => gs ds e
  | _ => none
section
variable {X : Cx} {Wx : WX}
theorem dg_name {i : Nat} {x : Str} {pos : Pos} (hN : X.N.Nodup) (hi : X.N[i]? = some x) (hx : Loc X.env.scope x) (hf : X.fn x = true ∨ X.env.scope.names.lookup x = some .local := by first | exact .inl rfl | exact .inr rfl | assumption) : DG X (.Name x pos) [i] (gN i) :=
  PG.wk (pg_name hN hi hx hf) (by
    rintro v σ H Q ⟨fg, la, W, e, d, e', rl, rp, hg, q⟩
    refine q _ (by rw [List.length_set]) (fun j hj => ?_) (rl.put (a := .sh d) rp rfl hg)
    rw [List.getElem?_set_ne (fun z => hj (by rw [z]; exact List.mem_singleton.mpr rfl))])
theorem dgs_nil : DGs X [] [] gsNil := PGs.wk pgs_nil (by
  rintro vs σ H Q ⟨fg, la, W, e, ds, e', rl, rp, hg, q⟩
  cases ds with
  | cons _ _ => cases hg
  | nil => cases hg; cases rp; exact ⟨rfl, q σ rfl (fun _ _ => rfl) rl⟩)
theorem dgs_cons {e : Expr} {es : List Expr} {is js : List Nat} {g : D → Env → Option Env} {gs : List D → Env → Option Env} (h1 : DG X e is g) (h2 : DGs X es js gs)
    (hs : (assignEach (e :: es) X.env).map (·.2) = assign e X.env :: (assignEach es X.env).map (·.2) := by rfl) : DGs X (e :: es) (is ++ js) (gsCons g gs) := PGs.wk (pgs_cons h1 h2 hs) (by
  rintro vs σ H Q ⟨fg, la, W, e, ds, e', rl, rp, hg, q⟩
  cases ds with
  | nil => cases hg
  | cons d ds =>
    cases rp with
    | cons r1 r2 =>
      unfold gsCons at hg
      simp only at hg
      cases z : g d e with
      | none => rw [z] at hg; cases hg
      | some e1 =>
        rw [z] at hg
        refine ⟨_, _, rfl, fg, la, W, e, d, e1, rl, r1, z, fun σ1 l1 o1 rl1 => ⟨fg, la, W, e1, ds, e', rl1, r2, hg, fun σ2 l2 o2 rl2 => q σ2 (l2.trans l1) (fun j hj => ?_) rl2⟩⟩
        rw [o2 j (fun m => hj (List.mem_append_right _ m)), o1 j (fun m => hj (List.mem_append_left _ m))])
theorem dg_tup {es : List Expr} {k : Nat} {is : List Nat} {gs : List D → Env → Option Env} {pos : Pos} (n : Nat) (hc : X.calm = true) (h : DGs X es is gs) (hn : (assignEach es X.env).length = n := by rfl) (hst : (assignEach es X.env).findIdx? (·.1) = none := by rfl)
    (hl : ∀ ds e e', gs ds e = some e' → ds.length = n) : DG X (.Tuple es k pos) is (gT gs) := PG.wk (PG.or (pg_tup hc h hn hst) (pg_unl hc h hn hst)) (by
  rintro v σ H Q ⟨fg, la, W, e, d, e', rl, rp, hg, q⟩
  cases d with
  | tup ds =>
    cases rp with
    | tup ha r => exact .inl ⟨_, _, rfl, SqT.of (rl.sub _ _ ha), by rw [r.length]; exact hl ds e e' hg, fg, la, W, e, ds, e', rl, r, hg, q⟩
  | lst ds =>
    cases rp with
    | lst ha r => exact .inr ⟨_, _, rfl, SqL.of (rl.sub _ _ ha), by rw [r.length]; exact hl ds e e' hg, fg, la, W, e, ds, e', rl, r, hg, q⟩
  | _ => cases hg)
theorem gs_len0 : ∀ ds e e', gsNil ds e = some e' → ds.length = 0 := fun ds e e' h => by cases ds with
  | nil => rfl
  | cons _ _ => cases h
theorem gs_len1 {g : D → Env → Option Env} {gs : List D → Env → Option Env} {n : Nat} (h : ∀ ds e e', gs ds e = some e' → ds.length = n) : ∀ ds e e', gsCons g gs ds e = some e' → ds.length = n + 1 := fun ds e e' q => by
  cases ds with
  | nil => cases q
  | cons d ds =>
    unfold gsCons at q
    simp only at q
    cases z : g d e with
    | none => rw [z] at q; cases q
    | some e1 => rw [z] at q; rw [List.length_cons, h ds e1 e' q]

/-! ### what is walked -/
/-- the walk gives these items, whatever the heap has got -/
def ItOk (K : PySem.W.Frag) (W0 : Hp) (J : It) (ds : List D) : Prop := ∀ (i : Nat) W H, Sub W0 W → Sub W H →
  (∀ d, ds[i]? = some d → J.go i H ∧ ∀ x H', J.yld i H x H' → ∃ W', Step W H W' H' ∧ Rep K W' x d) ∧ (ds.length = i → J.stop i H)
def rdI (X : Cx) (Wx : WX) (m : M (List D)) : TI := fun σ H R => ∃ fg la W e, Rel X.K fg la W H σ e ∧ Post X Wx fg la W σ (fun W' H' e' ds => ∀ J, ItOk X.K W' J ds → R J H') (m e)
def DI (X : Cx) (Wx : WX) (tg e : Expr) (m : M (List D)) : Prop := PI X tg e (rdI X Wx m)
/-- a list or a tuple, shared from now on -/
def mSeq (m : M Val) : M (List D) := M.bind m fun a e => match esc e a with
  | some (.lst ds, e') => .ok ds e'
  | some (.tup ds, e') => .ok ds e'
  | some (.fl ds, e') => .ok ds e'
  | _ => .no
theorem itl_ok {K : PySem.W.Frag} {W : Hp} {a : Addr} {vs : List V} {ds : List D} (ha : SqL K W a vs) (hu : ∀ H xs, Sub W H → SqL K H a xs → xs = vs) (r : Reps K W vs ds) : ItOk K W (Itl K a) ds := fun i W1 H1 s1 s2 => by
  have h1 : SqL K H1 a vs := Sub.sqL (s1.trans s2) ha
  refine ⟨fun d hd => ?_, fun hl => ⟨vs, h1, by rw [r.length]; exact Nat.le_of_eq hl⟩⟩
  obtain ⟨v, hv, rv⟩ := r.get hd
  refine ⟨⟨vs, v, h1, hv⟩, fun x H' y => ?_⟩
  obtain ⟨rfl, y⟩ := y
  have := (y vs h1).symm.trans hv
  cases this
  exact ⟨W1, .refl s2, rv.mono s1⟩
theorem sqL_at {K : PySem.W.Frag} {H : Hp} {a : Addr} {vs xs : List V} (h : H a = some (.lst vs)) (hk : K.lookup a = none) (h' : SqL K H a xs) : xs = vs := by
  rcases h' with (z | ⟨o, z⟩) | ⟨o, its, n, z, _⟩
  · rw [h] at z; cases z; rfl
  · rw [h] at z; cases z
  · rw [hk] at z; cases z
theorem itt_ok {K : PySem.W.Frag} {W : Hp} {a : Addr} {vs : List V} {ds : List D} (ha : SqT K W a vs) (sq : ∀ H, Sub W H → SqT K H a vs) (r : Reps K W vs ds) : ItOk K W (Itt K a) ds := fun i W1 H1 s1 s2 => by
  have h1 : SqT K H1 a vs := sq _ (s1.trans s2)
  refine ⟨fun d hd => ?_, fun hl => ⟨vs, h1, by rw [r.length]; exact Nat.le_of_eq hl⟩⟩
  obtain ⟨v, hv, rv⟩ := r.get hd
  refine ⟨⟨vs, v, h1, hv⟩, fun x H' y => ?_⟩
  obtain ⟨rfl, y⟩ := y
  have := (y vs h1).symm.trans hv
  cases this
  exact ⟨W1, .refl s2, rv.mono s1⟩
theorem itl_ok' {K : PySem.W.Frag} {W : Hp} {a : Addr} {vs : List V} {ds : List D} (ha : SqL K W a vs) (r : Reps K W vs ds) : ItOk K W (Itl K a) ds := fun i W1 H1 s1 s2 => by
  have h1 : SqL K H1 a vs := Sub.sqL (s1.trans s2) ha
  refine ⟨fun d hd => ?_, fun hl => ⟨vs, h1, by rw [r.length]; exact Nat.le_of_eq hl⟩⟩
  obtain ⟨v, hv, rv⟩ := r.get hd
  refine ⟨⟨vs, v, h1, hv⟩, fun x H' y => ?_⟩
  obtain ⟨rfl, y⟩ := y
  have := (y vs h1).symm.trans hv
  cases this
  exact ⟨W1, .refl s2, rv.mono s1⟩
theorem di_seq {tg e : Expr} {m : M Val} (h : DE X Wx e m) : DI X Wx tg e (mSeq m) := PI.wk (PI.or (pi_list h) (pi_tup h)) (by
  rintro σ H R ⟨fg, la, W, e, rl, h⟩
  unfold mSeq M.bind at h
  cases q : m e with
  | no => rw [q] at h; exact h.elim
  | ex x e' => rw [q] at h; exact .inl ⟨fg, la, W, e, rl, by rw [q]; exact h⟩
  | ok a e1 =>
    rw [q] at h
    simp only at h
    cases q2 : esc e1 a with
    | none => rw [q2] at h; exact h.elim
    | some p =>
      obtain ⟨d, e2⟩ := p
      rw [q2] at h
      cases d with
      | lst ds =>
        refine .inl ⟨fg, la, W, e, rl, ?_⟩
        rw [q]
        intro W1 H1 s1 r1 v hv
        obtain ⟨W2, s2, r2, rp⟩ := esc_ok r1 hv q2
        cases rp with
        | lst ha rr => exact ⟨_, rfl, ⟨_, SqL.of (r2.sub _ _ ha)⟩, h W2 H1 (s1.trans s2) r2 _ (itl_ok' (SqL.of ha) rr)⟩
      | fl ds =>
        refine .inl ⟨fg, la, W, e, rl, ?_⟩
        rw [q]
        intro W1 H1 s1 r1 v hv
        obtain ⟨W2, s2, r2, rp⟩ := esc_ok r1 hv q2
        cases rp with
        | fl ha rr => exact ⟨_, rfl, ⟨_, Sub.sqL r2.sub ha⟩, h W2 H1 (s1.trans s2) r2 _ (itl_ok' ha rr)⟩
      | tup ds =>
        refine .inr ⟨fg, la, W, e, rl, ?_⟩
        rw [q]
        intro W1 H1 s1 r1 v hv
        obtain ⟨W2, s2, r2, rp⟩ := esc_ok r1 hv q2
        cases rp with
        | tup ha rr => exact ⟨_, rfl, ⟨_, SqT.of (r2.sub _ _ ha)⟩, h W2 H1 (s1.trans s2) r2 _ (itt_ok (SqT.of ha) (fun H s => SqT.of (s _ _ ha)) rr)⟩
      | _ => exact h.elim)
def intsD (lo : Int) (n : Nat) : List D := (List.range n).map fun i : Nat => D.int (lo + (i : Int))
theorem itr_ok {K : PySem.W.Frag} {W : Hp} {lo : Int} {n : Nat} : ItOk K W (Itr lo n) (intsD lo n) := fun i W1 H1 s1 s2 => by
  refine ⟨fun d hd => ?_, fun hl => by
    show n ≤ i
    exact Nat.le_of_eq (by simpa [intsD] using hl)⟩
  unfold intsD at hd
  rw [List.getElem?_map] at hd
  by_cases hi : i < n
  · rw [List.getElem?_eq_getElem (by simpa using hi)] at hd
    simp at hd
    subst hd
    refine ⟨hi, fun x H' y => ?_⟩
    obtain ⟨rfl, rfl⟩ := y
    exact ⟨W1, .refl s2, .int _⟩
  · rw [List.getElem?_eq_none (by simpa using hi)] at hd; cases hd
def asInts : List Val → Option (List Int)
  | [] => some []
  | .sh (.int i) :: r => (asInts r).map (i :: ·)
  | _ :: _ => none
theorem asInts_ok {K : PySem.W.Frag} {fg W H : Hp} {σ : L2.St} {e : Env} : ∀ {as : List Val} {is : List Int} {vs : List V}, asInts as = some is → ValsOk K fg W H σ e vs as → vs = is.map V.int := by
  intro as
  induction as with
  | nil => intro is vs q h; cases q; cases vs with
    | nil => rfl
    | cons _ _ => exact h.elim
  | cons a as ih =>
    intro is vs q h
    cases vs with
    | nil => exact h.elim
    | cons v vs =>
      cases a with
      | ow d => cases q
      | bw i => cases q
      | sh d =>
        cases d with
        | int i =>
          unfold asInts at q
          cases z : asInts as with
          | none => rw [z] at q; cases q
          | some js =>
            rw [z] at q
            cases q
            have h1 : Rep K W v (.int i) := h.1
            cases h1
            rw [List.map_cons, ih z h.2.1]
        | _ => cases q
noncomputable def mR1 (n : M (List Val)) : M (List D) := M.bind n fun as e => match asInts as with
  | some [j] => if dec (-(2 ^ 62) ≤ j ∧ j < 2 ^ 62) = true then .ok (intsD 0 j.toNat) e else .no
  | _ => .no
noncomputable def mR2 (n : M (List Val)) : M (List D) := M.bind n fun as e => match asInts as with
  | some [i, j] => if dec ((-(2 ^ 62) ≤ i ∧ i < 2 ^ 62) ∧ -(2 ^ 62) ≤ j ∧ j < 2 ^ 62) = true then .ok (intsD i (j - i).toNat) e else .no
  | _ => .no
theorem di_range1 {tg a : Expr} {n : M (List Val)} {p pos : Pos} (hg : Gl X "range") (hm : X.mg "range" = none) (ha : DA X Wx [a] n) (hs : starEach [a] X.env = [(false, eval a X.env)] := by rfl) : DI X Wx tg (.Call (.Name "range" p) [a] [] pos) (mR1 n) :=
  PI.wk (pi_range1 hg hm ha hs) (by
    rintro σ H R ⟨fg, la, W, e, rl, h⟩
    refine ⟨fg, la, W, e, rl, (Post.bind h).mono fun W1 H1 e1 as s1 r1 h1 vs hv => ?_⟩
    split at h1
    · rename_i j q
      have ev := asInts_ok q hv
      split at h1
      · rename_i c
        have c := of_dec c
        exact ⟨j, ev, c.1, c.2, (show Post X Wx fg la W1 σ (fun W' H' e' ds => ∀ J, ItOk X.K W' J ds → R J H') (.ok _ e1) from h1).here r1 _ itr_ok⟩
      · exact (show False from h1).elim
    · exact (show False from h1).elim)
theorem di_range2 {tg a b : Expr} {n : M (List Val)} {p pos : Pos} (hg : Gl X "range") (hm : X.mg "range" = none) (ha : DA X Wx [a, b] n) (hs : starEach [a, b] X.env = [(false, eval a X.env), (false, eval b X.env)] := by rfl) (hs2 : starEach [b] X.env = [(false, eval b X.env)] := by rfl) :
    DI X Wx tg (.Call (.Name "range" p) [a, b] [] pos) (mR2 n) :=
  PI.wk (pi_range2 hg hm ha hs hs2) (by
    rintro σ H R ⟨fg, la, W, e, rl, h⟩
    refine ⟨fg, la, W, e, rl, (Post.bind h).mono fun W1 H1 e1 as s1 r1 h1 vs hv => ?_⟩
    split at h1
    · rename_i i j q
      have ev := asInts_ok q hv
      split at h1
      · rename_i c
        have c := of_dec c
        exact ⟨i, j, ev, ⟨c.1.1, c.1.2, c.2.1, c.2.2⟩, (show Post X Wx fg la W1 σ (fun W' H' e' ds => ∀ J, ItOk X.K W' J ds → R J H') (.ok _ e1) from h1).here r1 _ itr_ok⟩
      · exact (show False from h1).elim
    · exact (show False from h1).elim)

/-! ### for -/
def forL (g : D → Env → Option Env) (b : M Flw) : List D → M Flw
  | [] => sNx
  | d :: ds => fun e => match g d e with
    | none => .no
    | some e1 => match b e1 with
      | .ok .nx e2 => forL g b ds e2
      | .ok .ct e2 => forL g b ds e2
      | .ok .bk e2 => .ok .nx e2
      | .ok (.rt a) e2 => .ok (.rt a) e2
      | .ex x e2 => .ex x e2
      | .no => .no
def sFor (mi : M (List D)) (g : D → Env → Option Env) (b : M Flw) : M Flw := M.bind mi fun ds => forL g b ds
theorem ds_for {tg iter : Expr} {body : List Stmt} {mi : M (List D)} {is : List Nat} {g : D → Env → Option Env} {mb : M Flw} {pos : Pos} (hp : PassesOwn (model X.prog X.w) X.A X.env X.xe) (hc : X.calm = true) (hi : DI X Wx tg iter mi) (hg : DG X tg is g) (hb : DSs X Wx body mb)
    (hs : ∀ x, foldedSetIterable iter X.env x = pure x := by intro _; rfl) : DS X Wx (.For tg iter body [] pos) (sFor mi g mb) := PS.wk (ps_for hp hc hi hg hb hs) (by
  rintro Dn σ H ⟨fg, la, W, e, rl, h⟩
  refine ⟨fg, la, W, e, rl, (PostS.bind h).mono fun W1 H1 e1 ds s1 r1 h1 J hJ => ?_⟩
  refine ⟨fun i m σ H => (m = ds.length - i ∧ i ≤ ds.length) ∧ ∃ W2 e2, Sub W1 W2 ∧ Rel X.K fg la W2 H σ e2 ∧ PostS X Wx fg la W2 Dn (forL g mb (ds.drop i) e2), ⟨_, ⟨rfl, Nat.zero_le _⟩, W1, e1, .refl _, r1, h1⟩, ?_⟩
  rintro i m σ2 H2 ⟨⟨rfl, hle⟩, W2, e2, s2, r2, p2⟩
  obtain ⟨go, st⟩ := hJ i W2 H2 s2 r2.sub
  by_cases hlt : i < ds.length
  · have hd : ds[i]? = some ds[i] := List.getElem?_eq_getElem hlt
    obtain ⟨g1, y⟩ := go _ hd
    have ed : ds.drop i = ds[i] :: ds.drop (i + 1) := List.drop_eq_getElem_cons hlt
    rw [ed] at p2
    refine .inr ⟨g1, fun σ' H' => ∃ W2 e2, Sub W1 W2 ∧ Rel X.K fg la W2 H' σ' e2 ∧ PostS X Wx fg la W2 Dn (forL g mb (ds.drop (i + 1)) e2), fun σ' H' n => ⟨ds.length - (i + 1), by omega, ⟨rfl, hlt⟩, n⟩, fun x H' yx => ?_⟩
    obtain ⟨W3, t3, rp⟩ := y x H' yx
    unfold forL at p2
    cases q : g ds[i] e2 with
    | none => rw [q] at p2; exact (show False from p2).elim
    | some e3 =>
      rw [q] at p2
      simp only at p2
      have p2 := PostS.wider p2 t3.w
      refine ⟨fg, la, W3, e2, ds[i], e3, r2.step t3, rp, q, fun σ4 _ _ r4 => ⟨fg, la, W3, e3, r4, ?_⟩⟩
      cases q2 : mb e3 with
      | no => rw [q2] at p2; exact (show False from p2).elim
      | ex x e4 => rw [q2] at p2; exact p2
      | ok f e4 =>
        rw [q2] at p2
        cases f with
        | nx => exact fun W5 H5 σ5 s5 r5 => ⟨W5, e4, (s2.trans t3.w).trans s5, r5, PostS.wider p2 s5⟩
        | ct => exact fun W5 H5 σ5 s5 r5 => ⟨W5, e4, (s2.trans t3.w).trans s5, r5, PostS.wider p2 s5⟩
        | bk => exact p2
        | rt a => exact p2
  · have ed : ds.drop i = [] := List.drop_eq_nil_of_le (by omega)
    rw [ed] at p2
    exact .inl ⟨st (by omega), PostS.nx p2 r2⟩)

/-! ### while: at most so many turns -/
def whileN (c : M Bool) (b : M Flw) : Nat → M Flw
  | 0 => fun _ => .no
  | n + 1 => M.bind c fun k => if k then (fun e => match b e with
      | .ok .nx e2 => whileN c b n e2
      | .ok .ct e2 => whileN c b n e2
      | .ok .bk e2 => .ok .nx e2
      | .ok (.rt a) e2 => .ok (.rt a) e2
      | .ex x e2 => .ex x e2
      | .no => .no) else sNx
theorem ds_while {c : Expr} {body : List Stmt} {mc : M Bool} {mb : M Flw} {pos : Pos} (n : Nat) (hp : PassesOwn (model X.prog X.w) X.A X.env X.xe) (hc : DT X Wx c mc) (hb : DSs X Wx body mb) : DS X Wx (.While c body [] pos) (whileN mc mb n) := PS.wk (ps_while hp hc hb) (by
  rintro Dn σ H ⟨fg, la, W, e, rl, h⟩
  refine ⟨fun m σ H => ∃ W2 e2, Sub W W2 ∧ Rel X.K fg la W2 H σ e2 ∧ PostS X Wx fg la W2 Dn (whileN mc mb m e2), ⟨n, W, e, .refl _, rl, h⟩, ?_⟩
  rintro m σ2 H2 ⟨W2, e2, s2, r2, p2⟩
  cases m with
  | zero => exact (show False from p2).elim
  | succ m =>
    refine ⟨fg, la, W2, e2, r2, (PostS.bind p2).mono fun W3 H3 e3 k s3 r3 h3 => ?_⟩
    cases k with
    | false => exact PostS.nx h3 r3
    | true =>
      simp only [if_true] at h3 ⊢
      refine ⟨fun σ' H' => ∃ W2 e2, Sub W W2 ∧ Rel X.K fg la W2 H' σ' e2 ∧ PostS X Wx fg la W2 Dn (whileN mc mb m e2), fun σ' H' q => ⟨m, Nat.lt_succ_self _, q⟩, fg, la, W3, e3, r3, ?_⟩
      cases q2 : mb e3 with
      | no => rw [q2] at h3; exact (show False from h3).elim
      | ex x e4 => rw [q2] at h3; exact h3
      | ok f e4 =>
        rw [q2] at h3
        cases f with
        | nx => exact fun W5 H5 σ5 s5 r5 => ⟨W5, e4, (s2.trans s3).trans s5, r5, PostS.wider h3 s5⟩
        | ct => exact fun W5 H5 σ5 s5 r5 => ⟨W5, e4, (s2.trans s3).trans s5, r5, PostS.wider h3 s5⟩
        | bk => exact h3
        | rt a => exact h3)
end

/-! ### list comprehensions -/
def wipeE (e : Env) : List Nat → Env
  | [] => e
  | v :: vs => (wipeE e vs).set v .un
/-- the names that a block had for its own are as they were -/
def back (e0 e : Env) : List Nat → Env
  | [] => e
  | v :: vs => (back e0 e vs).set v (match e0[v]? with
    | some (.sh d) => .sh d
    | _ => .un)
section
variable {K : PySem.W.Frag} {fg : Hp} {la : Nat → Addr} {W W' H H' : Hp} {σ σ' : L2.St} {e e0 : Env}
theorem Rel.wipe1 (r : Rel K fg la W H σ e) (i : Nat) (s : Option V) : Rel K fg la W H (σ.set i s) (e.set i .un) where
  sub := r.sub
  frn := r.frn
  len := by rw [List.length_set, List.length_set]; exact r.len
  cell := fun j c q => by
    by_cases z : i = j
    · subst z
      by_cases hi : i < e.length
      · rw [List.getElem?_set_self hi] at q; cases q; trivial
      · rw [List.getElem?_eq_none (by simpa using hi)] at q; cases q
    · rw [List.getElem?_set_ne z] at q ⊢
      exact r.cell j c q
  apart := fun j k c c' p ne q1 q2 o1 o2 s1 s2 => by
    by_cases z : i = j
    · subst z
      by_cases hi : i < e.length
      · rw [List.getElem?_set_self hi] at q1; cases q1; cases o1
      · rw [List.getElem?_eq_none (by simpa using hi)] at q1; cases q1
    · by_cases y : i = k
      · subst y
        by_cases hi : i < e.length
        · rw [List.getElem?_set_self hi] at q2; cases q2; cases o2
        · rw [List.getElem?_eq_none (by simpa using hi)] at q2; cases q2
      · rw [List.getElem?_set_ne z] at q1 s1
        rw [List.getElem?_set_ne y] at q2 s2
        exact r.apart j k c c' p ne q1 q2 o1 o2 s1 s2
theorem Rel.wiped (r : Rel K fg la W H σ e) : ∀ vs : List Nat, Rel K fg la W H (wipe σ vs) (wipeE e vs)
  | [] => r
  | v :: vs => (Rel.wiped r vs).wipe1 v none
theorem wipe_get {σ : L2.St} : ∀ {vs : List Nat} {j : Nat}, j ∉ vs → (wipe σ vs)[j]? = σ[j]?
  | [], _, _ => rfl
  | v :: vs, j, h => by
    unfold L2.wipe
    rw [List.getElem?_set_ne (fun z => h (by rw [z]; exact List.mem_cons_self))]
    exact wipe_get fun m => h (List.mem_cons_of_mem _ m)
theorem wipe_in {σ : L2.St} : ∀ {vs : List Nat} {j : Nat}, j ∈ vs → (wipe σ vs)[j]? = none ∨ (wipe σ vs)[j]? = some none
  | [], _, h => by cases h
  | v :: vs, j, h => by
    unfold L2.wipe
    by_cases z : v = j
    · subst z
      by_cases hl : v < (wipe σ vs).length
      · exact .inr (List.getElem?_set_self hl)
      · exact .inl (by rw [List.getElem?_eq_none (by simpa using hl)])
    · rw [List.getElem?_set_ne z]
      exact wipe_in ((List.mem_cons.mp h).resolve_left fun q => z q.symm)
theorem wipe_ext {σ σ' : L2.St} {vs : List Nat} (hl : σ'.length = σ.length) (h : ∀ j : Nat, j ∉ vs → σ'[j]? = σ[j]?) : wipe σ' vs = wipe σ vs := by
  apply List.ext_getElem?
  intro j
  by_cases m : j ∈ vs
  · by_cases hj : j < σ.length
    · have a := wipe_in (σ := σ') m
      have b := wipe_in (σ := σ) m
      have la : j < (wipe σ' vs).length := by rw [wipe_length, hl]; exact hj
      have lb : j < (wipe σ vs).length := by rw [wipe_length]; exact hj
      rw [List.getElem?_eq_getElem la] at a ⊢
      rw [List.getElem?_eq_getElem lb] at b ⊢
      rcases a with a | a <;> rcases b with b | b <;> first | cases a | cases b | (rw [a, b])
    · rw [List.getElem?_eq_none (by rw [wipe_length, hl]; omega), List.getElem?_eq_none (by rw [wipe_length]; omega)]
  · rw [wipe_get m, wipe_get m, h j m]
theorem back_len : ∀ vs : List Nat, (back e0 e vs).length = e.length
  | [] => rfl
  | v :: vs => by unfold back; rw [List.length_set, back_len vs]
theorem wipeE_len : ∀ vs : List Nat, (wipeE e vs).length = e.length
  | [] => rfl
  | v :: vs => by unfold wipeE; rw [List.length_set, wipeE_len vs]
theorem back_get : ∀ {vs : List Nat} {j : Nat}, (back e0 e vs)[j]? = if j ∈ vs ∧ j < e.length then some (match e0[j]? with
    | some (.sh d) => .sh d
    | _ => .un) else e[j]?
  | [], j => by simp [back]
  | v :: vs, j => by
    unfold back
    by_cases z : v = j
    · subst z
      by_cases hl : v < e.length
      · rw [List.getElem?_set_self (by rw [back_len]; exact hl), if_pos ⟨List.mem_cons_self, hl⟩]
      · rw [List.getElem?_eq_none (by rw [List.length_set, back_len]; omega), if_neg (fun h => hl h.2), List.getElem?_eq_none (by omega)]
    · rw [List.getElem?_set_ne z, back_get (vs := vs)]
      by_cases m : j ∈ vs ∧ j < e.length
      · rw [if_pos m, if_pos ⟨List.mem_cons_of_mem _ m.1, m.2⟩]
      · rw [if_neg m, if_neg (fun h => m ⟨(List.mem_cons.mp h.1).resolve_left fun q => z q.symm, h.2⟩)]
/-- behind the block -/
theorem Rel.backed {vs : List Nat} (r0 : Rel K fg la W H σ e0) (s : Sub W W') (r : Rel K fg la W' H' (wipe σ vs) e) : Rel K fg la W' H' σ (back e0 e vs) where
  sub := r.sub
  frn := r.frn
  len := by rw [back_len, r.len, wipe_length]
  cell := fun j c q => by
    rw [back_get] at q
    by_cases m : j ∈ vs ∧ j < e.length
    · rw [if_pos m] at q
      cases q
      split
      · rename_i d z
        obtain ⟨v, h1, h2⟩ := r0.cell j _ z
        exact ⟨v, h1, h2.mono s⟩
      · trivial
    · rw [if_neg m] at q
      have hj : j < e.length := (List.getElem?_eq_some_iff.mp q).1
      have := r.cell j c q
      rw [wipe_get (fun h => m ⟨h, hj⟩)] at this
      exact this
  apart := fun j k c c' p ne q1 q2 o1 o2 s1 s2 => by
    have key : ∀ (j : Nat) c, (back e0 e vs)[j]? = some c → c.own = true → j ∉ vs ∧ e[j]? = some c := fun j c q o => by
      rw [back_get] at q
      by_cases m : j ∈ vs ∧ j < e.length
      · rw [if_pos m] at q
        cases q
        split at o <;> cases o
      · rw [if_neg m] at q
        exact ⟨fun h => m ⟨h, (List.getElem?_eq_some_iff.mp q).1⟩, q⟩
    obtain ⟨m1, k1⟩ := key j c q1 o1
    obtain ⟨m2, k2⟩ := key k c' q2 o2
    exact r.apart j k c c' p ne k1 k2 o1 o2 (by rw [wipe_get m1]; exact s1) (by rw [wipe_get m2]; exact s2)
end
abbrev WF : WX := fun _ _ _ _ => False
def lcL (vs : List Nat) (g : D → Env → Option Env) (mt : M Bool) (me : M Val) : List D → List D → Env → Option (List D × Env)
  | [], acc, e => some (acc, e)
  | d :: ds, acc, e => match g d e with
    | none => none
    | some e1 => match mt e1 with
      | .ok true e2 => match me e2 with
        | .ok a e3 => match esc e3 a with
          | some (x, e4) => if acc.length < 1000000 then lcL vs g mt me ds (acc ++ [x]) (wipeE e4 vs) else none
          | none => none
        | _ => none
      | .ok false e2 => lcL vs g mt me ds acc (wipeE e2 vs)
      | _ => none
def mLc (vs : List Nat) (mi : M (List D)) (g : D → Env → Option Env) (mt : M Bool) (me : M Val) : M Val := M.bind mi fun ds e => match lcL vs g mt me ds [] (wipeE e vs) with
  | some (acc, e') => .ok (.ow (.lst acc)) (back e e' vs)
  | none => .no
theorem ltBig {n : Nat} (h : n < 1000000) : n < sizeLine := Nat.lt_trans h (by rw [sizeLine_eq]; decide)
section
variable {X : Cx} {Wx : WX}
/-- what is foreign may be written anew -/
theorem Rel.write {K : PySem.W.Frag} {fg : Hp} {la : Nat → Addr} {W H : Hp} {σ : L2.St} {e : Env} {p : Addr} {o o' : HO} (r : Rel K (upd fg p o) la W H σ e) (fp : fg p = none) (nt : NT o) : Rel K (upd fg p o') la W (upd H p o') σ e := by
  have hp := r.frn p o upd_same
  have hpn := hp.2 nt
  have less : Rel K fg la W H σ e := r.less (.new fp)
  have nown : ∀ (i : Nat) c, e[i]? = some c → c.own = true → σ[i]? ≠ some (some (V.ref p)) := fun i c qc oc s => by
    obtain ⟨b, d, s', w, f, ow, _⟩ := (r.cell i c qc).at_ oc
    rw [s] at s'; cases s'
    rw [upd_same] at f; cases f
  have r2 : Rel K fg la W (upd H p o') σ e := by
    refine ⟨fun a u z => ?_, fun a u z => ?_, less.len, fun j c qc => ?_, less.apart⟩
    · rw [upd_ne (fun w => by rw [w, hpn] at z; cases z)]; exact less.sub a u z
    · rw [upd_ne (fun w => by rw [w, fp] at z; cases z)]; exact less.frn a u z
    · have k := less.cell j c qc
      cases c with
      | un => trivial
      | sh d => exact k
      | ow d =>
        obtain ⟨b, h1, h2, h3, h4⟩ := k
        exact ⟨b, h1, h2, h3, h4.mono (.refl _) fun u hu => by rw [upd_ne (fun w => nown j _ qc rfl (by rw [h1, w]))]; exact hu⟩
      | ln d =>
        obtain ⟨h1, h2, h3, h4⟩ := k
        exact ⟨h1, h2, h3, h4.mono (.refl _) fun u hu => by rw [upd_ne (fun w => nown j _ qc rfl (by rw [h1, w]))]; exact hu⟩
  exact r2.keep upd_same hpn nown
/-- the turns of a comprehension -/
theorem lc_loop {vs is : List Nat} {g : D → Env → Option Env} {mt : M Bool} {me : M Val} (hi : ∀ j ∈ is, j ∈ vs) {σ : L2.St} {H0 W0 fg : Hp} {la : Nat → Addr} {e0 eF : Env} {ds acc0 accF : List D} {vacc0 : List V} {J : It} {Dl : Addr} {Qe : Hp → Prop} (fD : fg Dl = none)
    (r0 : Rel X.K (upd fg Dl (.lst vacc0)) la W0 H0 (wipe σ vs) e0) (ra0 : Reps X.K W0 vacc0 acc0) (p0 : lcL vs g mt me ds acc0 e0 = some (accF, eF)) (hJ : ItOk X.K W0 J ds)
    (fin : ∀ W2 H2 vaccF, Sub W0 W2 → Rel X.K (upd fg Dl (.lst vaccF)) la W2 H2 (wipe σ vs) eF → Reps X.K W2 vaccF accF → Qe H2) :
    ∃ Wi : Nat → Nat → Hp → Prop, (∃ m, Wi 0 m H0) ∧ ∀ (i m : Nat) (H : Hp), Wi i m H → (J.stop i H ∧ Qe H) ∨ (J.go i H ∧ ∃ Nx : Hp → Prop, (∀ H', Nx H' → ∃ m', m' < m ∧ Wi (i + 1) m' H') ∧ ∀ (x : V) (H' : Hp), J.yld i H x H' →
      rdG X.K is g x (wipe σ vs) H' fun σ2 H2 => wipe σ2 vs = wipe σ vs ∧ rdT X WF mt σ2 H2 fun b H3 => if b = true then rdE X WF me σ2 H3 (fun y H7 => ∃ acc, H7 Dl = some (.lst acc) ∧ acc.length < sizeLine ∧ Nx (upd H7 Dl (.lst (acc ++ [y])))) else Nx H3) := by
  refine ⟨fun i m H => (m = ds.length - i ∧ i ≤ ds.length) ∧ ∃ W2 e2 acc vacc, Sub W0 W2 ∧ H Dl = some (.lst vacc) ∧ Reps X.K W2 vacc acc ∧ Rel X.K (upd fg Dl (.lst vacc)) la W2 H (wipe σ vs) e2 ∧ lcL vs g mt me (ds.drop i) acc e2 = some (accF, eF),
    ⟨_, ⟨rfl, Nat.zero_le _⟩, W0, e0, acc0, vacc0, .refl _, (r0.frn Dl _ upd_same).1, ra0, r0, p0⟩, ?_⟩
  rintro i m H2 ⟨⟨rfl, hle⟩, W2, e2, acc, vacc, s2, hd2, ra, r2, p2⟩
  obtain ⟨go, st⟩ := hJ i W2 H2 s2 r2.sub
  by_cases hlt : i < ds.length
  · have hd : ds[i]? = some ds[i] := List.getElem?_eq_getElem hlt
    obtain ⟨g1, y⟩ := go _ hd
    have ed : ds.drop i = ds[i] :: ds.drop (i + 1) := List.drop_eq_getElem_cons hlt
    rw [ed] at p2
    refine .inr ⟨g1, fun H => ∃ W2 e2 acc vacc, Sub W0 W2 ∧ H Dl = some (.lst vacc) ∧ Reps X.K W2 vacc acc ∧ Rel X.K (upd fg Dl (.lst vacc)) la W2 H (wipe σ vs) e2 ∧ lcL vs g mt me (ds.drop (i + 1)) acc e2 = some (accF, eF),
      fun H' n => ⟨ds.length - (i + 1), by omega, ⟨rfl, hlt⟩, n⟩, fun x H' yx => ?_⟩
    obtain ⟨W3, t3, rp⟩ := y x H' yx
    unfold lcL at p2
    cases q : g ds[i] e2 with
    | none => rw [q] at p2; cases p2
    | some e3 =>
      rw [q] at p2
      simp only at p2
      refine ⟨upd fg Dl (.lst vacc), la, W3, e2, ds[i], e3, r2.step t3, rp, q, fun σ4 l4 o4 r4 => ?_⟩
      have w4 : wipe σ4 vs = wipe σ vs := by
        have e1 := wipe_ext (σ := wipe σ vs) (σ' := σ4) (vs := vs) l4 fun j hj => o4 j fun m => hj (hi j m)
        have e2 := wipe_ext (σ := σ) (σ' := wipe σ vs) (vs := vs) (wipe_length σ vs) fun j hj => wipe_get hj
        exact e1.trans e2
      refine ⟨w4, upd fg Dl (.lst vacc), la, W3, e3, r4, ?_⟩
      cases q2 : mt e3 with
      | no => rw [q2] at p2; cases p2
      | ex z e4 => rw [q2] at p2; cases p2
      | ok b e4 =>
        rw [q2] at p2
        intro W5 H5 s5 r5
        cases b with
        | false =>
          simp only at p2
          rw [if_neg Bool.false_ne_true]
          refine ⟨W5, wipeE e4 vs, acc, vacc, (s2.trans t3.w).trans s5, (r5.frn Dl _ upd_same).1, ra.mono (t3.w.trans s5), ?_, p2⟩
          have := r5.wiped vs
          rw [w4] at this
          exact this
        | true =>
          simp only at p2
          rw [if_pos rfl]
          refine ⟨upd fg Dl (.lst vacc), la, W5, e4, r5, ?_⟩
          cases q3 : me e4 with
          | no => rw [q3] at p2; cases p2
          | ex z e5 => rw [q3] at p2; cases p2
          | ok a e5 =>
            rw [q3] at p2
            simp only at p2
            intro W6 H6 s6 r6 v hv
            cases q4 : esc e5 a with
            | none => rw [q4] at p2; cases p2
            | some pp =>
              obtain ⟨xd, e6⟩ := pp
              rw [q4] at p2
              simp only at p2
              obtain ⟨W7, s7, r7, rv⟩ := esc_ok r6 hv q4
              by_cases hl : acc.length < 1000000
              · rw [if_pos hl] at p2
                have hd6 := (r7.frn Dl _ upd_same)
                have ra7 : Reps X.K W7 vacc acc := ra.mono (((t3.w.trans s5).trans s6).trans s7)
                refine ⟨vacc, hd6.1, ltBig (by rw [ra7.length]; exact hl), W7, wipeE e6 vs, acc ++ [xd], vacc ++ [v], (((s2.trans t3.w).trans s5).trans s6).trans s7, upd_same, ra7.append (.one rv), ?_, p2⟩
                have rw7 := r7.wiped vs
                rw [w4] at rw7
                exact rw7.write fD fun xs => by simp
              · rw [if_neg hl] at p2; cases p2
  · have ed : ds.drop i = [] := List.drop_eq_nil_of_le (by omega)
    rw [ed] at p2
    obtain ⟨rfl, rfl⟩ : acc = accF ∧ e2 = eF := by
      have z := Option.some.inj p2
      exact ⟨congrArg Prod.fst z, congrArg Prod.snd z⟩
    exact .inl ⟨st (by omega), fin W2 H2 vacc s2 r2 ra⟩
/-- the comprehension, what it walks being known -/
theorem rd_lcB {vs is : List Nat} {g : D → Env → Option Env} {mt : M Bool} {me : M Val} (hi : ∀ j ∈ is, j ∈ vs) {σ : L2.St} {H1 W1 fg : Hp} {la : Nat → Addr} {e1 : Env} {ds : List D} {J : It} {Q : VK} (r1 : Rel X.K fg la W1 H1 σ e1)
    (h1 : Post X Wx fg la W1 σ (fun W' H' e' a => ∀ v, ValOk X.K fg W' H' σ e' v a → Q v H') (match lcL vs g mt me ds [] (wipeE e1 vs) with
  | some (acc, e') => .ok (.ow (.lst acc)) (back e1 e' vs)
  | none => .no)) (hJ : ItOk X.K W1 J ds) : tLc (fun _ H R => R J H) (rdG X.K is g) (rdT X WF mt) (rdE X WF me) vs σ H1 Q := by
  intro Dl hD
  cases q0 : lcL vs g mt me ds [] (wipeE e1 vs) with
  | none => rw [q0] at h1; exact (show False from h1).elim
  | some p0 =>
    obtain ⟨accF, eF⟩ := p0
    rw [q0] at h1
    have h1 : ∀ W' H', Sub W1 W' → Rel X.K fg la W' H' σ (back e1 eF vs) → ∀ v, ValOk X.K fg W' H' σ (back e1 eF vs) v (.ow (.lst accF)) → Q v H' := h1
    have fD : fg Dl = none := by
      cases z : fg Dl with
      | none => rfl
      | some u => have := (r1.frn Dl u z).1; rw [hD] at this; cases this
    have start : Rel X.K (upd fg Dl (.lst [])) la W1 (upd H1 Dl (.lst [])) (wipe σ vs) (wipeE e1 vs) := by
      have t : Step W1 H1 W1 (upd H1 Dl (.lst [])) := .newH r1.sub hD
      refine ((r1.step t).wiped vs).keep upd_same (r1.sub.none hD) fun i c qc o s => ?_
      obtain ⟨p, d, s', w, f, ow, _⟩ := ((r1.wiped vs).cell i c qc).at_ o
      rw [s] at s'; cases s'
      obtain ⟨u, hu⟩ := ow.some
      rw [hD] at hu; cases hu
    refine lc_loop (Qe := fun H2 => Q (.ref Dl) H2) hi fD start .nil q0 hJ fun W2 H2 vaccF s2 r2 ra => ?_
    have hd2' := r2.frn Dl _ upd_same
    have rb : Rel X.K fg la W2 H2 σ (back e1 eF vs) := Rel.backed r1 s2 (r2.less (.new fD))
    refine h1 W2 H2 s2 rb _ ⟨Dl, rfl, (hd2'.2 fun xs => by simp), fD, ⟨vaccF, hd2'.1, ra⟩, fun j c qc o s => ?_⟩
    rw [back_get] at qc
    by_cases mm : j ∈ vs ∧ j < eF.length
    · rw [if_pos mm] at qc
      cases qc
      split at o <;> cases o
    · rw [if_neg mm] at qc
      obtain ⟨p, d, s', w, f, ow, _⟩ := (r2.cell j c qc).at_ o
      rw [wipe_get (fun h => mm ⟨h, (List.getElem?_eq_some_iff.mp qc).1⟩), s] at s'
      cases s'
      rw [upd_same] at f; cases f
theorem rd_lc {vs is : List Nat} {mi : M (List D)} {g : D → Env → Option Env} {mt : M Bool} {me : M Val} (hi : ∀ j ∈ is, j ∈ vs) {σ : L2.St} {H : Hp} {Q : VK} (h : rdE X Wx (mLc vs mi g mt me) σ H Q) :
    tLc (rdI X Wx mi) (rdG X.K is g) (rdT X WF mt) (rdE X WF me) vs σ H Q := by
  obtain ⟨fg, la, W, e, rl, h⟩ := h
  exact ⟨fg, la, W, e, rl, (Post.bind h).mono fun W1 H1 e1 ds s1 r1 h1 J hJ => rd_lcB hi r1 h1 hJ⟩
/-- the block's judgements hold in each of its contexts -/
def Blk (X : Cx) (scope : Scope) (P : Cx → Prop) : Prop := ∀ (s : Shared) (H : Hp) (C : Addr) (cl : List (Str × Addr)) (fp : List Addr), P (X.blk s H scope (compEnvC scope cl C X.env) fp)
def DTs (X : Cx) (Wx : WX) (ifs : List Expr) (m : M Bool) : Prop := PTs X ifs (rdT X Wx m)
theorem de_lc {elt tg iter : Expr} {ifs : List Expr} {scope : Scope} {own : List (Str × Nat)} {is : List Nat} {pos : Pos} {mi : M (List D)} {g : D → Env → Option Env} {mt : M Bool} {me : M Val} (hc : X.calm = true) (hN : X.N.Nodup) (hi : DI X Wx tg iter mi) (ok : BlkOk X.N X.env.scope scope own)
    (hg : Blk X scope fun Y => DG Y tg is g) (ht : Blk X scope fun Y => DTs Y WF ifs mt) (he : Blk X scope fun Y => DE Y WF elt me) (hv : ∀ j ∈ is, j ∈ own.map (·.2)) (hs : ∀ x, foldedSetIterable iter X.env x = pure x := by intro _; rfl) :
    DE X Wx (.ListComp elt [⟨tg, iter, ifs, 0⟩] scope pos) (mLc (own.map (·.2)) mi g mt me) :=
  PE.wk (pe_lc (g := rdG X.K is g) (tt := rdT X WF mt) (te := rdE X WF me) hc hN hi ok (fun s H C cl fp => hg s H C cl fp) (fun s H C cl fp => ht s H C cl fp) (fun s H C cl fp => he s H C cl fp) hs) fun _ _ _ h => rd_lc hv h
theorem ds_setLc {i : Nat} {y : Str} {py : Pos} {elt tg iter : Expr} {ifs : List Expr} {scope : Scope} {own : List (Str × Nat)} {is : List Nat} {pos spos : Pos} {mi : M (List D)} {g : D → Env → Option Env} {mt : M Bool} {me : M Val} (hc : X.calm = true) (hN : X.N.Nodup) (hy : X.N[i]? = some y) (hyl : X.env.scope.names.lookup y = some .local)
    (hsw : swapsWith (.ListComp elt [⟨tg, iter, ifs, 0⟩] scope pos) (some (.Name y py)) spos.line X.env = pure true) (hi : DI X Wx tg iter mi) (ok : BlkOk X.N X.env.scope scope own)
    (hg : Blk X scope fun Y => DG Y tg is g) (ht : Blk X scope fun Y => DTs Y WF ifs mt) (he : Blk X scope fun Y => DE Y WF elt me) (hv : ∀ j ∈ is, j ∈ own.map (·.2)) (hs : ∀ x, foldedSetIterable iter X.env x = pure x := by intro _; rfl) :
    DS X Wx (.Assign [.Name y py] (.ListComp elt [⟨tg, iter, ifs, 0⟩] scope pos) spos) (sSet i (mLc (own.map (·.2)) mi g mt me)) :=
  PS.wk (ps_setLc (g := rdG X.K is g) (tt := rdT X WF mt) (te := rdE X WF me) hc hN hy hyl hsw hi ok (fun s H C cl fp => hg s H C cl fp) (fun s H C cl fp => ht s H C cl fp) (fun s H C cl fp => he s H C cl fp) hs) fun D σ H h => by
    obtain ⟨fg, la, W, e, rl, z⟩ := rd_set h
    exact rd_lc hv ⟨fg, la, W, e, rl, z⟩
end
end VS

/-! VG0: a def's promise where no reader of a list's or a tuple's repr is at work (the guards are known), its call, its body, a law's end. -/
namespace VS
open PySem PySem.Spec PyProof.Rows L2

/-- FnOk, asked only where the guards are known to be none -/
structure FnG (P : Program) (w : World) (K : PySem.W.Frag) (mg : Str → Option Value) (base : Heap) (k : Nat) (f : Addr) (fd : FuncData) (ps : List Str) (sp : Sp) : Prop where
  len : ∀ vs H Q E, sp vs H Q E → vs.length = ps.length
  go : ∀ (A : Around) (outer : List PySem.Env) (s : Shared) (H : Hp) (args : Args) (us : List Value) (vs : List V) (Q : VK) (E : XK), Room k A → A.guards = some [] → Env0 P w K mg base A outer s H → BindsTo s fd args (ps.zip us) →
    Vals vs us → sp vs H Q E → codeAny (model P w) A (.call (.ref f) args) (CR (L2.CX P w) outer P w H s Q E) s
section
variable {P : Program} {w : World} {K : PySem.W.Frag} {mg : Str → Option Value} {base : Heap} {k : Nat} {f : Addr} {fd : FuncData} {ps : List Str} {sp : Sp}
theorem FnG.up {j : Nat} (F : FnG P w K mg base j f fd ps sp) (h : j ≤ k) : FnG P w K mg base k f fd ps sp :=
  ⟨F.len, fun A outer s H args us vs Q E hr => F.go A outer s H args us vs Q E (hr.mono h)⟩
/-- its body keeps it -/
theorem FunD.good {x qual : Str} {params : Arguments} {body : List Stmt} {scope : Scope} {dvs : List V} {kws : List (Str × V)} {N : List Str} (F : FunD K x qual params body scope dvs kws f fd) (S : FnScope N ps scope) (len : ∀ vs H Q E, sp vs H Q E → vs.length = ps.length)
    (hb : ∀ (cdv : Value) (A : Around) (outer : List PySem.Env) (s : Shared) (H : Hp) (vs : List V) (Q : VK) (E : XK), Room k (A.deeper (envOfC qual scope s.heap.objs.size f cdv)) → A.guards = some [] → sp vs H Q E →
      ∃ t, PSs (cxOf (L2.CX P w) P w K mg base N qual scope f cdv A outer s H E) body t ∧ t { nx := fun _ H' => Q .non H', rt := Q } (L2.start N vs) H) : FnG P w K mg base (k + 1) f fd ps sp := by
  obtain ⟨oc, od, dV, kV, doc, pm, an, cdv, ct, osl, efd, lk, hcd, _, _⟩ := F.ex
  subst efd
  refine ⟨len, fun A outer s H args us vs Q E hr hgd e0 hbind rv hsp => ?_⟩
  have old : ∀ b o, base.get? b = some o → s.heap.get? b = some o := fun b o e => (e0.bs b o e).1
  refine codeAny_call_function hr.depth (e0.mod.kin.keeps old _ _ lk) rfl S.co S.gen rfl (PySem.W.codeRec_of (e0.mod.kin.keeps old) hcd) (hbind _ _ _ _ ?_)
  refine wpAny_newFunctionEnv_cells S.kind (fun y hy => ?_) fun env he s1 ic => ?_
  · rcases S.par y.1 (List.of_mem_zip hy).1 with q | q
    · exact .inl q
    · exact .inr ⟨q, PySem.W.cellsFrom_some _ _ _ (.inl q)⟩
  · subst he
    refine ⟨(e0.mod.nolimit.keeps old).keeps ic.toInCall.keep, codeAny_func ?_⟩
    obtain ⟨t, ht, hq⟩ := hb cdv A outer s H vs Q E (hr.deeper _) hgd hsp
    refine wpAny_mono (ht.run [] s1 (L2.start N vs) H _ (inv_start S hr.hd e0 (len _ _ _ _ hsp) rv ic) hq) (fun fl s' z => ?_) fun _ _ z => z
    cases fl with
    | brk => obtain ⟨_, _, _, q⟩ := z; exact q.elim
    | cont => obtain ⟨_, _, _, q⟩ := z; exact q.elim
    | next => obtain ⟨σ', H', J, q⟩ := z; exact ⟨.non, H', J.os, J.bare, J.base, J.hok, rfl, q⟩
    | ret u => obtain ⟨v, σ', H', J, ru, q⟩ := z; exact ⟨v, H', J.os, J.bare, J.base, J.hok, ru, q⟩
end
section
variable {X : Cx} {k : Nat} {f : Addr} {fd : FuncData} {ps : List Str} {sp : Sp} {E : L2.St → XK} {x : Str} {p pos : Pos} {e : Expr} {es : List Expr} {t : TA}
theorem FnG.ran {pins : List (Addr × Obj)} {σ : L2.St} {H : Hp} {s : Shared} {Q : VK} {us : List Value} {vs : List V} (F : FnG X.prog X.w X.K X.mg X.base k f fd ps sp) (hr : Room k X.A) (hgd : X.A.guards = some []) (hb : Binds X.K fd ps []) (hx : PassesAt (L2.CX X.prog X.w) X σ (E σ))
    (I : Inv X pins σ H s) (r : Vals vs us) (h : sp vs H Q (E σ)) : wpAny (model X.prog X.w) X.A (call (.ref f) us) (EP X pins σ Q) X.xe s := by
  have b := hb s us I.kIn (by rw [List.append_nil, ← r.length]; exact F.len _ _ _ _ h)
  rw [List.append_nil] at b
  refine wpAny_call (codeAny_mono (F.go X.A X.stack s H ⟨us, []⟩ us vs Q (E σ) hr hgd I.env0 b r h) fun rs s' z => ?_)
  match rs, z with
  | .error e, z => exact hx pins H s e s' I z
  | .ok (.ret u), z => exact I.after z
  | .ok .next, z => exact z.elim
  | .ok .brk, z => exact z.elim
  | .ok .cont, z => exact z.elim
/-- f(e, ..) -/
theorem pe_callG' (F : FnG X.prog X.w X.K X.mg X.base k f fd ps sp) (hr : Room k X.A) (hgd : X.A.guards = some []) (hg : Gl X x) (hm : X.mg x = some (.ref f)) (hk : PySem.W.keepIn X.K (.ref f) = true) (hb : Binds X.K fd ps []) (hx : ∀ σ, PassesAt (L2.CX X.prog X.w) X σ (E σ))
    (ha : PA X (e :: es) t) (hdb : (x == ("__debug__" : Str)) = false := by decide) (he : starEach (e :: es) X.env = (false, eval e X.env) :: starEach es X.env := by rfl) (hpl : (backTo pos (starEach es X.env)).any (·.1) = false := by rfl) :
    PE X (.Call (.Name x p) (e :: es) [] pos) (tCallS sp E t) :=
  ⟨fun pins s σ H Q I h => wpAny_Call_Name_kw (ld_glob I hg hm (PySem.W.callWith_K (h₀ := X.base) I.ok.mod.kin hk (thn (ha.run pos pins s σ H _ I h) fun _ _ ⟨_, _, I1, r, q⟩ => ⟨I1.kIn, F.ran hr hgd hb (hx σ) I1 r q⟩) he hpl) hdb)⟩
end
end VS

/-! VG: defs: promises by data (Prom0; Prom1 with the first argument lent), their calls, their bodies; raise; lists and dicts changed by name. -/
namespace VS
open PySem PySem.Spec PyProof.Rows L2

/-- what a def gives: its value, the lent first argument behind it -/
inductive FR where
  | ok (a : Val) (l : D) | ex (x : Exn) (l : D) | no
  deriving Inhabited
abbrev Frn (fg W H : Hp) : Prop := ∀ a o, fg a = some o → H a = some o ∧ (NT o → W a = none)
/-- the value of a def -/
def ResOk (K : PySem.W.Frag) (fg W H : Hp) (no : Addr → Prop) (v : V) : Val → Prop
  | .sh d => Rep K W v d
  | .ow d => ∃ p, v = .ref p ∧ W p = none ∧ fg p = none ∧ ¬ no p ∧ Own K W H p d
  | .bw _ => False
def Prom0 (K : PySem.W.Frag) (mg : Str → Option Value) (n : Nat) (F : List D → FR) : Sp := fun vs H Q E => ∃ fg W ds, Sub W H ∧ Frn fg W H ∧ Reps K W vs ds ∧ vs.length = n ∧ match F ds with
  | .ok a _ => ∀ W' H' v, Sub W W' → Sub W' H' → Frn fg W' H' → ResOk K fg W' H' (fun _ => False) v a → Q v H'
  | .ex x _ => ∀ W' H' cls d, Sub W W' → Sub W' H' → Frn fg W' H' → ExOk mg K W' H' cls d x → E cls d H'
  | .no => False
def Prom1 (K : PySem.W.Frag) (mg : Str → Option Value) (n : Nat) (F : List D → FR) : Sp := fun vs H Q E => ∃ fg W p d vs' ds, vs = .ref p :: vs' ∧ Sub W H ∧ Frn fg W H ∧ W p = none ∧ fg p = none ∧ Own K W H p d ∧ Reps K W vs' ds ∧ vs.length = n ∧ match F (d :: ds) with
  | .ok a l => ∀ W' H' v, Sub W W' → Sub W' H' → Frn fg W' H' → W' p = none → Own K W' H' p l → ResOk K fg W' H' (fun q => q = p) v a → Q v H'
  | .ex x l => ∀ W' H' cls d, Sub W W' → Sub W' H' → Frn fg W' H' → W' p = none → Own K W' H' p l → ExOk mg K W' H' cls d x → E cls d H'
  | .no => False
/-- all that is not shared -/
def restOf (W H : Hp) : Hp := fun a => if (W a).isSome then none else H a
def rest1 (W H : Hp) (p : Addr) : Hp := fun a => if (W a).isSome ∨ a = p then none else H a
theorem rest_frn {W H : Hp} : Frn (restOf W H) W H := fun a o h => by
  unfold restOf at h
  split at h
  · cases h
  · rename_i z
    refine ⟨h, fun _ => ?_⟩
    cases q : W a with
    | none => rfl
    | some u => rw [q] at z; simp at z
theorem rest1_frn {W H : Hp} {p : Addr} : Frn (rest1 W H p) W H := fun a o h => by
  unfold rest1 at h
  split at h
  · cases h
  · rename_i z
    refine ⟨h, fun _ => ?_⟩
    cases q : W a with
    | none => rfl
    | some u => rw [q] at z; simp at z
theorem rest_of {W H : Hp} {a : Addr} (h : W a = none) : restOf W H a = H a := by
  unfold restOf; rw [h]; rfl
theorem rest1_of {W H : Hp} {p a : Addr} (h : W a = none) (n : a ≠ p) : rest1 W H p a = H a := by
  unfold rest1; rw [h, if_neg (by simp [n])]
theorem step_of {W H W' H' : Hp} (s : Sub W H) (sw : Sub W W') (s' : Sub W' H') (f : Frn (restOf W H) W' H') : Step W H W' H' where
  w := sw
  h := fun a o h => by
    cases q : W a with
    | none => exact (f a o (by rw [rest_of q]; exact h)).1
    | some u =>
      have e := s a u q
      rw [h] at e
      cases e
      exact s' a o (sw a o q)
  s := s'
  f := fun a o h1 h2 nt => (f a o (by rw [rest_of h1]; exact h2)).2 nt
section
variable {K : PySem.W.Frag} {fg : Hp} {la : Nat → Addr} {W H W' H' : Hp} {σ : L2.St} {e : Env}
/-- a def has run that was lent what the i-th name owns -/
def relent (e : Env) (i : Nat) (l : D) : Option Env := match e[i]? with
  | some (.ow _) => some (e.set i (.ow l))
  | some (.ln _) => some (e.set i (.ln l))
  | _ => none
theorem Rel.lent {i : Nat} {p : Addr} {c : Cell} {l : D} {e' : Env} (r : Rel K fg la W H σ e) (h : e[i]? = some c) (oc : c.own = true) (hp : σ[i]? = some (some (V.ref p))) (sw : Sub W W') (s' : Sub W' H') (f : Frn (rest1 W H p) W' H') (hw : W' p = none) (ow : Own K W' H' p l) (hl : relent e i l = some e') :
    Rel K fg la W' H' σ e' := by
  have hi : i < e.length := (List.getElem?_eq_some_iff.mp h).1
  have keepH : ∀ a o, a ≠ p → H a = some o → H' a = some o := fun a o ne h => by
    cases q : W a with
    | none => exact (f a o (by rw [rest1_of q ne]; exact h)).1
    | some u =>
      have e := r.sub a u q
      rw [h] at e
      cases e
      exact s' a o (sw a o q)
  have keepW : ∀ a o, a ≠ p → W a = none → H a = some o → NT o → W' a = none := fun a o ne h1 h2 nt => (f a o (by rw [rest1_of h1 ne]; exact h2)).2 nt
  have fgp : fg p = none := by
    obtain ⟨b, d, s1, _, ff, _⟩ := (r.cell i c h).at_ oc
    rw [hp] at s1; cases s1; exact ff
  have others : ∀ (j : Nat) c', j ≠ i → e[j]? = some c' → CellOk K fg la W' H' j σ[j]? c' := fun j c' ne q => by
    have k := r.cell j c' q
    cases c' with
    | un => trivial
    | sh d => obtain ⟨v, h1, h2⟩ := k; exact ⟨v, h1, h2.mono sw⟩
    | ow d =>
      obtain ⟨b, h1, h2, h3, h4⟩ := k
      have nb : b ≠ p := fun z => r.apart j i _ c b ne q h rfl oc h1 (by rw [hp, z])
      obtain ⟨o, ho⟩ := h4.some
      exact ⟨b, h1, keepW b o nb h2 ho (h4.nt ho), h3, h4.mono sw fun u hu => keepH b u nb hu⟩
    | ln d =>
      obtain ⟨h1, h2, h3, h4⟩ := k
      have nb : la j ≠ p := fun z => r.apart j i _ c (la j) ne q h rfl oc h1 (by rw [hp, z])
      obtain ⟨o, ho⟩ := h4.some
      exact ⟨h1, keepW _ o nb h2 ho (h4.nt ho), h3, h4.mono sw fun u hu => keepH _ u nb hu⟩
  have build : ∀ c2, e' = e.set i c2 → c2.own = true → CellOk K fg la W' H' i σ[i]? c2 → Rel K fg la W' H' σ e' := fun c2 ee o2 ck => by
    subst ee
    have get : ∀ (j : Nat) c, (e.set i c2)[j]? = some c → (j = i ∧ c = c2) ∨ (j ≠ i ∧ e[j]? = some c) := fun j c q => by
      by_cases z : i = j
      · subst z; rw [List.getElem?_set_self hi] at q; cases q; exact .inl ⟨rfl, rfl⟩
      · rw [List.getElem?_set_ne z] at q; exact .inr ⟨Ne.symm z, q⟩
    refine ⟨s', fun a u q => ?_, by rw [List.length_set]; exact r.len, fun j c' q => ?_, fun j k c1 c1' b ne q1 q2 o1 o1' s1 s2 => ?_⟩
    · obtain ⟨k1, k2⟩ := r.frn a u q
      have na : a ≠ p := fun z => by rw [z, fgp] at q; cases q
      exact ⟨keepH a u na k1, fun nt => keepW a u na (k2 nt) k1 nt⟩
    · rcases get j c' q with ⟨rfl, rfl⟩ | ⟨ne, q'⟩
      · exact ck
      · exact others j c' ne q'
    · rcases get j c1 q1 with ⟨rfl, rfl⟩ | ⟨n1, q1'⟩
      · rcases get k c1' q2 with ⟨rfl, rfl⟩ | ⟨n2, q2'⟩
        · exact ne rfl
        · exact r.apart j k c c1' b ne h q2' oc o1' s1 s2
      · rcases get k c1' q2 with ⟨rfl, rfl⟩ | ⟨n2, q2'⟩
        · exact r.apart j k c1 c b ne q1' h o1 oc s1 s2
        · exact r.apart j k c1 c1' b ne q1' q2' o1 o1' s1 s2
  have k := r.cell i c h
  unfold relent at hl
  rw [h] at hl
  cases c with
  | un => cases oc
  | sh d => cases oc
  | ow d =>
    cases hl
    exact build _ rfl rfl ⟨p, hp, hw, fgp, ow⟩
  | ln d =>
    cases hl
    obtain ⟨h1, _⟩ := k
    rw [hp] at h1
    cases h1
    exact build _ rfl rfl ⟨hp, hw, fgp, ow⟩
theorem ResOk.val {no : Addr → Prop} {v : V} {a : Val} {fgc : Hp} (r : Rel K fg la W' H' σ e) (h : ResOk K fgc W' H' no v a) (hf : ∀ q, fgc q = none → ¬ no q → (∀ u, fg q = some u → NT u) → fg q = none ∧ ∀ (i : Nat) c, e[i]? = some c → c.own = true → σ[i]? ≠ some (some (V.ref q))) : ValOk K fg W' H' σ e v a := by
  cases a with
  | sh d => exact h
  | bw i => exact h.elim
  | ow d =>
    obtain ⟨p, rfl, h2, h3, h4, h5⟩ := h
    obtain ⟨f1, f2⟩ := hf p h3 h4 fun u z => h5.nt (r.frn p u z).1
    exact ⟨p, rfl, h2, f1, h5, f2⟩
end
section
variable {X : Cx} {Wx : WX}
def mCall0 (F : List D → FR) (n : M (List Val)) : M Val := M.bind n fun as e => match escs e as with
  | some (ds, e1) => match F ds with
    | .ok a _ => .ok a e1
    | .ex x _ => .ex x e1
    | .no => .no
  | none => .no
theorem rd_call0 {F : List D → FR} {n : M (List Val)} {k : Nat} {σ : L2.St} {H : Hp} {Q : VK} (h : rdE X Wx (mCall0 F n) σ H Q) (hlen : ∀ e as e', n e = .ok as e' → as.length = k) :
    rdA X Wx n σ H fun vs H1 => Prom0 X.K X.mg k F vs H1 Q (WE Wx σ) := by
  obtain ⟨fg, la, W, e, rl, h⟩ := h
  refine ⟨fg, la, W, e, rl, ?_⟩
  have hb := Post.bind h
  cases q0 : n e with
  | no => rw [q0] at hb; exact hb
  | ex x e' => rw [q0] at hb; exact hb
  | ok as e1 =>
    rw [q0] at hb
    intro W1 H1 s1 r1 vs hv
    have h1 := hb W1 H1 s1 r1
    dsimp only at h1
    cases q : escs e1 as with
    | none => rw [q] at h1; exact (show False from h1).elim
    | some p =>
      obtain ⟨ds, e2⟩ := p
      rw [q] at h1
      obtain ⟨W2, s2, r2, rp⟩ := escs_ok r1 hv q
      have st : ∀ W' H', Sub W2 W' → Sub W' H' → Frn (restOf W2 H1) W' H' → Step W2 H1 W' H' := fun W' H' a b c => step_of r2.sub a b c
      refine ⟨restOf W2 H1, W2, ds, r2.sub, rest_frn, rp, by rw [hv.length]; exact hlen _ _ _ q0, ?_⟩
      simp only at h1
      cases q2 : F ds with
      | no => rw [q2] at h1; exact h1
      | ok a l =>
        rw [q2] at h1
        intro W' H' v a1 a2 a3 hr
        have t := st W' H' a1 a2 a3
        refine (show ∀ W' H', Sub W1 W' → Rel X.K fg la W' H' σ e2 → ∀ v, ValOk X.K fg W' H' σ e2 v a → Q v H' from h1) W' H' (s2.trans a1) (r2.step t) v (ResOk.val (r2.step t) hr fun q hq _ hnt => ?_)
        refine ⟨?_, fun i c qc o s => ?_⟩
        · cases z : fg q with
          | none => rfl
          | some u =>
            obtain ⟨k1, k2⟩ := r2.frn q u z
            rw [rest_of (k2 (hnt u z)), k1] at hq; cases hq
        · obtain ⟨b, d', s', w, f, ow, _⟩ := (r2.cell i c qc).at_ o
          rw [s] at s'; cases s'
          obtain ⟨u, hu⟩ := ow.some
          rw [rest_of w, hu] at hq; cases hq
      | ex x l =>
        rw [q2] at h1
        intro W' H' cls d a1 a2 a3 hx
        exact (show ∀ W' H' cls d, Sub W1 W' → Rel X.K fg la W' H' σ e2 → ExOk X.mg X.K W' H' cls d x → Wx cls d σ H' from h1) W' H' cls d (s2.trans a1) (r2.step (st W' H' a1 a2 a3)) hx
theorem len_nil : ∀ e as e', mNil e = .ok as e' → as.length = 0 := fun e as e' h => by cases h; rfl
theorem len_cons {m : M Val} {n : M (List Val)} {k : Nat} (h : ∀ e as e', n e = .ok as e' → as.length = k) : ∀ e as e', mCons m n e = .ok as e' → as.length = k + 1 := fun e as e' q => by
  unfold mCons M.bind at q
  cases z : m e with
  | no => rw [z] at q; cases q
  | ex x e1 => rw [z] at q; cases q
  | ok a e1 =>
    rw [z] at q
    simp only at q
    cases z2 : n e1 with
    | no => rw [z2] at q; cases q
    | ex x e2 => rw [z2] at q; cases q
    | ok bs e2 =>
      rw [z2] at q
      simp only [M.ret] at q
      cases q
      rw [List.length_cons, h _ _ _ z2]
theorem de_call0 {F : List D → FR} {kk k : Nat} {f : Addr} {fd : FuncData} {ps : List Str} {x : Str} {p pos : Pos} {e : Expr} {es : List Expr} {n : M (List Val)} (tk : Takes X Wx) (Fn : FnG X.prog X.w X.K X.mg X.base k f fd ps (Prom0 X.K X.mg kk F)) (hr : Room k X.A) (hgd : X.A.guards = some []) (hg : Gl X x)
    (hm : X.mg x = some (.ref f)) (hk : PySem.W.keepIn X.K (.ref f) = true) (hb : Binds X.K fd ps []) (ha : DA X Wx (e :: es) n) (hlen : ∀ e as e', n e = .ok as e' → as.length = kk) (hdb : (x == ("__debug__" : Str)) = false := by decide)
    (he : starEach (e :: es) X.env = (false, eval e X.env) :: starEach es X.env := by rfl) (hpl : (backTo pos (starEach es X.env)).any (·.1) = false := by rfl) : DE X Wx (.Call (.Name x p) (e :: es) [] pos) (mCall0 F n) :=
  PE.wk (pe_callG' (E := WE Wx) Fn hr hgd hg hm hk hb (fun σ => passAt tk σ) ha hdb he hpl) fun _ _ _ h => rd_call0 h hlen
/-- the first argument, a name, is lent -/
def mCall1 (F : List D → FR) (n : M (List Val)) : M Val := M.bind n fun as e => match as with
  | .bw i :: rest => match escs e rest with
    | some (ds, e1) => match e1[i]? with
      | some (.ow d) => (match F (d :: ds) with
        | .ok a l => .ok a (e1.set i (.ow l))
        | .ex x l => .ex x (e1.set i (.ow l))
        | .no => .no)
      | some (.ln d) => (match F (d :: ds) with
        | .ok a l => .ok a (e1.set i (.ln l))
        | .ex x l => .ex x (e1.set i (.ln l))
        | .no => .no)
      | _ => .no
    | none => .no
  | _ => .no
theorem rd_call1 {F : List D → FR} {n : M (List Val)} {k : Nat} {σ : L2.St} {H : Hp} {Q : VK} (h : rdE X Wx (mCall1 F n) σ H Q) (hlen : ∀ e as e', n e = .ok as e' → as.length = k) :
    rdA X Wx n σ H fun vs H1 => Prom1 X.K X.mg k F vs H1 Q (WE Wx σ) := by
  obtain ⟨fg, la, W, e, rl, h⟩ := h
  refine ⟨fg, la, W, e, rl, ?_⟩
  have hb := Post.bind h
  cases q0 : n e with
  | no => rw [q0] at hb; exact hb
  | ex x e' => rw [q0] at hb; exact hb
  | ok as e1 =>
    rw [q0] at hb
    intro W1 H1 s1 r1 vs hv
    have h1 := hb W1 H1 s1 r1
    dsimp only at h1
    have hkl : vs.length = k := by rw [hv.length]; exact hlen _ _ _ q0
    cases as with
    | nil => exact (show False from h1).elim
    | cons a rest =>
      cases a with
      | sh d => exact (show False from h1).elim
      | ow d => exact (show False from h1).elim
      | bw i =>
        cases vs with
        | nil => exact hv.elim
        | cons v0 vs =>
          have hv0 : σ[i]? = some (some v0) := hv.1
          simp only at h1
          cases q : escs e1 rest with
          | none => rw [q] at h1; exact (show False from h1).elim
          | some pr =>
            obtain ⟨ds, e2⟩ := pr
            rw [q] at h1
            simp only at h1
            obtain ⟨W2, s2, r2, rp⟩ := escs_ok r1 hv.2.1 q
            have fin : ∀ c d p, e2[i]? = some c → c.own = true → (∀ l, ∃ e3, relent e2 i l = some e3 ∧ e3 = e2.set i (match c with
                | .ow _ => .ow l
                | _ => .ln l)) → v0 = .ref p → W2 p = none → fg p = none → Own X.K W2 H1 p d →
                (match F (d :: ds) with
                  | .ok a l => Post X Wx fg la W1 σ (fun W' H' e' a => ∀ v, ValOk X.K fg W' H' σ e' v a → Q v H') (.ok a (e2.set i (match c with
                | .ow _ => .ow l
                | _ => .ln l)))
                  | .ex x l => Post X Wx fg la W1 σ (fun W' H' e' a => ∀ v, ValOk X.K fg W' H' σ e' v a → Q v H') (.ex x (e2.set i (match c with
                | .ow _ => .ow l
                | _ => .ln l)))
                  | .no => False) → Prom1 X.K X.mg k F (v0 :: vs) H1 Q (WE Wx σ) := fun c d p hc oc rl2 ev wp fp ow hh => by
              subst ev
              refine ⟨rest1 W2 H1 p, W2, p, d, vs, ds, rfl, r2.sub, rest1_frn, wp, by unfold rest1; rw [if_pos (.inr rfl)], ow, rp, hkl, ?_⟩
              cases q2 : F (d :: ds) with
              | no => rw [q2] at hh; exact hh
              | ok a l =>
                rw [q2] at hh
                intro W' H' v a1 a2 a3 a4 a5 hr
                obtain ⟨e3, he3, ee⟩ := rl2 l
                have r3 := r2.lent hc oc hv0 a1 a2 a3 a4 a5 he3
                rw [ee] at r3
                refine hh W' H' (s2.trans a1) r3 v (ResOk.val r3 hr fun x hx nx hnt => ?_)
                have nx : x ≠ p := nx
                refine ⟨?_, fun j c' qc o s => ?_⟩
                · cases z : fg x with
                  | none => rfl
                  | some u =>
                    obtain ⟨k1, k2⟩ := r2.frn x u z
                    rw [rest1_of (k2 (hnt u z)) nx, k1] at hx; cases hx
                · by_cases z : i = j
                  · subst z
                    rw [hv0] at s
                    cases s
                    exact nx rfl
                  · rw [List.getElem?_set_ne z] at qc
                    obtain ⟨b, d', s', w, f, ow', _⟩ := (r2.cell j c' qc).at_ o
                    rw [s] at s'; cases s'
                    obtain ⟨u, hu⟩ := ow'.some
                    rw [rest1_of w nx, hu] at hx; cases hx
              | ex x l =>
                rw [q2] at hh
                intro W' H' cls dd a1 a2 a3 a4 a5 hx
                obtain ⟨e3, he3, ee⟩ := rl2 l
                have r3 := r2.lent hc oc hv0 a1 a2 a3 a4 a5 he3
                rw [ee] at r3
                exact hh W' H' cls dd (s2.trans a1) r3 hx
            cases q1 : e2[i]? with
            | none => rw [q1] at h1; exact (show False from h1).elim
            | some c =>
              rw [q1] at h1
              have ck := r2.cell i c q1
              cases c with
              | un => exact (show False from h1).elim
              | sh d => exact (show False from h1).elim
              | ow d =>
                obtain ⟨p, k1, k2, k3, k4⟩ := ck
                rw [hv0] at k1
                cases k1
                refine fin (.ow d) d p q1 rfl (fun l => ⟨_, by unfold relent; rw [q1], rfl⟩) rfl k2 k3 k4 ?_
                simp only at h1 ⊢
                cases q2 : F (d :: ds) with
                | no => rw [q2] at h1; exact h1
                | ok a l => rw [q2] at h1; exact h1
                | ex x l => rw [q2] at h1; exact h1
              | ln d =>
                obtain ⟨k1, k2, k3, k4⟩ := ck
                rw [hv0] at k1
                cases k1
                refine fin (.ln d) d (la i) q1 rfl (fun l => ⟨_, by unfold relent; rw [q1], rfl⟩) rfl k2 k3 k4 ?_
                simp only at h1 ⊢
                cases q2 : F (d :: ds) with
                | no => rw [q2] at h1; exact h1
                | ok a l => rw [q2] at h1; exact h1
                | ex x l => rw [q2] at h1; exact h1
theorem de_call1 {F : List D → FR} {kk k : Nat} {f : Addr} {fd : FuncData} {ps : List Str} {x : Str} {p pos : Pos} {e : Expr} {es : List Expr} {n : M (List Val)} (tk : Takes X Wx) (Fn : FnG X.prog X.w X.K X.mg X.base k f fd ps (Prom1 X.K X.mg kk F)) (hr : Room k X.A) (hgd : X.A.guards = some []) (hg : Gl X x)
    (hm : X.mg x = some (.ref f)) (hk : PySem.W.keepIn X.K (.ref f) = true) (hb : Binds X.K fd ps []) (ha : DA X Wx (e :: es) n) (hlen : ∀ e as e', n e = .ok as e' → as.length = kk) (hdb : (x == ("__debug__" : Str)) = false := by decide)
    (he : starEach (e :: es) X.env = (false, eval e X.env) :: starEach es X.env := by rfl) (hpl : (backTo pos (starEach es X.env)).any (·.1) = false := by rfl) : DE X Wx (.Call (.Name x p) (e :: es) [] pos) (mCall1 F n) :=
  PE.wk (pe_callG' (E := WE Wx) Fn hr hgd hg hm hk hb (fun σ => passAt tk σ) ha hdb he hpl) fun _ _ _ h => rd_call1 h hlen
end

/-! ### a def by its body -/
def outV (e : Env) : Val → Option Val
  | .sh d => some (.sh d)
  | .ow d => some (.ow d)
  | .bw i => match e[i]? with
    | some (.sh d) => some (.sh d)
    | some (.ow d) => some (.ow d)
    | _ => none
/-- n parameters, m other names -/
def run0 (n m : Nat) (body : M Flw) : List D → FR := fun ds => if ds.length = n then match body (ds.map .sh ++ List.replicate m .un) with
  | .ok (.rt a) e => (match outV e a with
    | some b => .ok b .non
    | none => .no)
  | .ok .nx _ => .ok (.sh .non) .non
  | .ex x _ => .ex x .non
  | _ => .no
  else .no
def lentD (e : Env) : Option D := match (e[0]? : Option Cell) with
  | some (.ln l) => some l
  | _ => none
def run1 (n m : Nat) (body : M Flw) : List D → FR := fun ds => match ds with
  | [] => .no
  | d :: ds => if ds.length + 1 = n then match body (.ln d :: (ds.map .sh ++ List.replicate m .un)) with
    | .ok (.rt a) e => (match outV e a, lentD e with
      | some b, some l => .ok b l
      | _, _ => .no)
    | .ok .nx e => (match lentD e with
      | some l => .ok (.sh .non) l
      | none => .no)
    | .ex x e => (match lentD e with
      | some l => .ex x l
      | none => .no)
    | _ => .no
    else .no
section
variable {P : Program} {w : World} {K : PySem.W.Frag} {mg : Str → Option Value} {base : Heap} {x qual : Str} {params : Arguments} {body : List Stmt} {scope : Scope} {f : Addr} {fd : FuncData} {N ps : List Str} {k n m : Nat}
theorem sh_cells {K : PySem.W.Frag} {fg : Hp} {la : Nat → Addr} {W H : Hp} : ∀ {vs : List V} {ds : List D} (j : Nat) (c : Cell), Reps K W vs ds → (ds.map Cell.sh)[j]? = some c → CellOk K fg la W H j ((vs.map some)[j]?) c
  | [], [], j, c, _, h => by simp at h
  | v :: vs, d :: ds, 0, c, .cons r _, h => by simp at h; subst h; exact ⟨v, rfl, r⟩
  | v :: vs, d :: ds, j + 1, c, .cons _ t, h => by
    have h' : (ds.map Cell.sh)[j]? = some c := by simpa using h
    have := sh_cells (fg := fg) (la := la) (H := H) j c t h'
    cases c with
    | un => trivial
    | sh d' => rw [List.map_cons, List.getElem?_cons_succ]; exact this
    | ow d' => rw [List.getElem?_map] at h'; cases z : ds[j]? with
      | none => rw [z] at h'; cases h'
      | some u => rw [z] at h'; cases h'
    | ln d' => rw [List.getElem?_map] at h'; cases z : ds[j]? with
      | none => rw [z] at h'; cases h'
      | some u => rw [z] at h'; cases h'
theorem sh_not {ds : List D} {m j : Nat} {c : Cell} (h : (ds.map Cell.sh ++ List.replicate m Cell.un)[j]? = some c) : c.own = false := by
  have hm := List.mem_of_getElem? h
  rcases List.mem_append.mp hm with z | z
  · obtain ⟨d, _, rfl⟩ := List.mem_map.mp z; rfl
  · rw [List.eq_of_mem_replicate z]; rfl
/-- the cells at the entry -/
theorem start_cells {K : PySem.W.Frag} {fg : Hp} {la : Nat → Addr} {W H : Hp} {vs : List V} {ds : List D} {m : Nat} (r : Reps K W vs ds) (j : Nat) (c : Cell) (h : (ds.map Cell.sh ++ List.replicate m Cell.un)[j]? = some c) :
    CellOk K fg la W H j ((vs.map some ++ List.replicate m none)[j]?) c := by
  by_cases hj : j < ds.length
  · rw [List.getElem?_append_left (by simpa using hj)] at h
    rw [List.getElem?_append_left (by rw [List.length_map, r.length]; exact hj)]
    exact sh_cells j c r h
  · rw [List.getElem?_append_right (by simpa using hj)] at h
    have := List.mem_of_getElem? h
    rw [List.eq_of_mem_replicate this]
    trivial
theorem out_ok {fg : Hp} {la : Nat → Addr} {W H : Hp} {σ : L2.St} {e : Env} {v : V} {a b : Val} {no : Addr → Prop} (r : Rel K fg la W H σ e) (h : ValOk K fg W H σ e v a) (q : outV e a = some b) (hn : ∀ p, (∀ (i : Nat) c, e[i]? = some c → c.own = true → σ[i]? ≠ some (some (V.ref p)) ∨ ∃ d, c = .ow d) → ¬ no p) : ResOk K fg W H no v b := by
  cases a with
  | sh d => cases q; exact h
  | ow d =>
    cases q
    obtain ⟨p, h1, h2, h3, h4, h5⟩ := h
    exact ⟨p, h1, h2, h3, hn p fun i c qc o => .inl (h5 i c qc o), h4⟩
  | bw i =>
    have hv : σ[i]? = some (some v) := h
    unfold outV at q
    simp only at q
    split at q
    · rename_i d z
      cases q
      obtain ⟨u, h1, h2⟩ := r.cell i _ z
      rw [hv] at h1; cases h1
      exact h2
    · rename_i d z
      cases q
      obtain ⟨p, h1, h2, h3, h4⟩ := r.cell i _ z
      rw [hv] at h1; cases h1
      refine ⟨p, rfl, h2, h3, hn p fun j c qc o => ?_, h4⟩
      by_cases y : i = j
      · subst y; rw [z] at qc; cases qc; exact .inr ⟨d, rfl⟩
      · exact .inl fun s => r.apart i j _ c p y z qc rfl o hv s
    · cases q
theorem fn0 {mb : M Flw} (F : FunD K x qual params body scope [] [] f fd) (S : FnScope N ps scope) (hl : ps.length = n) (hm : N.length = n + m)
    (hbody : ∀ (cdv : Value) (A : Around) (outer : List PySem.Env) (s : Shared) (H : Hp) (E : XK), Room k (A.deeper (envOfC qual scope s.heap.objs.size f cdv)) → A.guards = some [] →
      DSs (cxOf (L2.CX P w) P w K mg base N qual scope f cdv A outer s H E) (fun cls d _ H => E cls d H) body mb) : FnG P w K mg base (k + 1) f fd ps (Prom0 K mg n (run0 n m mb)) := by
  refine FunD.good F S (fun vs H Q E h => ?_) (fun cdv A outer s H vs Q E hr hgd h => ⟨_, hbody cdv A outer s H E hr hgd, ?_⟩)
  · obtain ⟨fg, W, ds, _, _, _, hv, _⟩ := h
    rw [hv, hl]
  · obtain ⟨fg, W, ds, sW, sF, rp, hv, h⟩ := h
    have hd : ds.length = n := by rw [← rp.length]; exact hv
    unfold run0 at h
    rw [if_pos hd] at h
    refine ⟨fg, fun _ => 0, W, ds.map .sh ++ List.replicate m .un, ⟨sW, sF, ?_, fun j c q => ?_, fun i j c d p ne q1 q2 o1 o2 _ _ => ?_⟩, ?_⟩
    · unfold L2.start
      rw [List.length_append, List.length_append, List.length_map, List.length_map, List.length_replicate, List.length_replicate, rp.length, hm, hd]
      omega
    · unfold L2.start
      rw [hm, hv, Nat.add_sub_cancel_left]
      exact start_cells rp j c q
    · rw [sh_not q1] at o1; cases o1
    · cases q : mb (ds.map .sh ++ List.replicate m .un) with
      | no => rw [q] at h; exact h
      | ex x e => rw [q] at h; exact fun W' H' σ' cls d s1 r1 hx => h W' H' cls d s1 r1.sub r1.frn hx
      | ok fl e =>
        rw [q] at h
        cases fl with
        | nx => exact fun W' H' σ' s1 r1 => h W' H' .non s1 r1.sub r1.frn .non
        | bk => exact h.elim
        | ct => exact h.elim
        | rt a =>
          intro W' H' σ' v s1 r1 hv
          simp only at h
          cases q2 : outV e a with
          | none => rw [q2] at h; exact h.elim
          | some b => rw [q2] at h; exact h W' H' v s1 r1.sub r1.frn (out_ok r1 hv q2 fun _ _ z => z)
theorem lent_at {fg : Hp} {la : Nat → Addr} {W H : Hp} {σ : L2.St} {e : Env} {l : D} (r : Rel K fg la W H σ e) (h : lentD e = some l) : σ[0]? = some (some (V.ref (la 0))) ∧ W (la 0) = none ∧ Own K W H (la 0) l ∧ e[0]? = some (.ln l) := by
  unfold lentD at h
  split at h
  · rename_i l' q
    cases h
    obtain ⟨h1, h2, h3, h4⟩ := r.cell 0 _ q
    exact ⟨h1, h2, h4, q⟩
  · cases h
theorem fn1 {mb : M Flw} (F : FunD K x qual params body scope [] [] f fd) (S : FnScope N ps scope) (hl : ps.length = n) (hm : N.length = n + m)
    (hbody : ∀ (cdv : Value) (A : Around) (outer : List PySem.Env) (s : Shared) (H : Hp) (E : XK), Room k (A.deeper (envOfC qual scope s.heap.objs.size f cdv)) → A.guards = some [] →
      DSs (cxOf (L2.CX P w) P w K mg base N qual scope f cdv A outer s H E) (fun cls d _ H => E cls d H) body mb) : FnG P w K mg base (k + 1) f fd ps (Prom1 K mg n (run1 n m mb)) := by
  refine FunD.good F S (fun vs H Q E h => ?_) (fun cdv A outer s H vs Q E hr hgd h => ⟨_, hbody cdv A outer s H E hr hgd, ?_⟩)
  · obtain ⟨fg, W, p, d, vs', ds, _, _, _, _, _, _, _, hv, _⟩ := h
    rw [hv, hl]
  · obtain ⟨fg, W, p, d, vs', ds, rfl, sW, sF, wp, fp, ow, rp, hv, h⟩ := h
    have hd : ds.length + 1 = n := by rw [← rp.length]; simpa using hv
    unfold run1 at h
    simp only at h
    rw [if_pos hd] at h
    have cell0 : ∀ (j : Nat) c, (Cell.ln d :: (ds.map .sh ++ List.replicate m .un))[j]? = some c → c.own = true → j = 0 := fun j c q o => by
      cases j with
      | zero => rfl
      | succ j => rw [List.getElem?_cons_succ] at q; rw [sh_not q] at o; cases o
    refine ⟨fg, fun _ => p, W, .ln d :: (ds.map .sh ++ List.replicate m .un), ⟨sW, sF, ?_, fun j c q => ?_, fun i j c c' b ne q1 q2 o1 o2 _ _ => ?_⟩, ?_⟩
    · unfold L2.start
      rw [List.length_cons, List.length_append, List.length_append, List.length_map, List.length_map, List.length_replicate, List.length_replicate, List.length_cons, rp.length, hm]
      omega
    · unfold L2.start
      have em : N.length - (V.ref p :: vs').length = m := by rw [hv, hm]; omega
      rw [em, List.map_cons, List.cons_append]
      cases j with
      | zero => simp at q; subst q; exact ⟨rfl, wp, fp, ow⟩
      | succ j =>
        rw [List.getElem?_cons_succ] at q ⊢
        have := start_cells (fg := fg) (la := fun _ => p) (H := H) rp j c q
        cases c with
        | ln d' => have := sh_not q; cases this
        | un => trivial
        | sh d' => exact this
        | ow d' => have := sh_not q; cases this
    · have e1 := cell0 i c q1 o1
      have e2 := cell0 j c' q2 o2
      exact ne (e1.trans e2.symm)
    · have noP : ∀ {W' H' : Hp} {σ' : L2.St} {e : Env} {l : D}, Rel K fg (fun _ => p) W' H' σ' e → lentD e = some l → ∀ q, (∀ (i : Nat) c, e[i]? = some c → c.own = true → σ'[i]? ≠ some (some (V.ref q)) ∨ ∃ d, c = .ow d) → ¬ q = p := fun {W' H' σ' e l} r1 hl q hq z => by
        obtain ⟨l1, l2, l3, l4⟩ := lent_at r1 hl
        rcases hq 0 _ l4 rfl with z' | ⟨_, z'⟩
        · exact z' (by rw [z]; exact l1)
        · cases z'
      cases q : mb (.ln d :: (ds.map .sh ++ List.replicate m .un)) with
      | no => rw [q] at h; exact h
      | ex x e =>
        rw [q] at h
        simp only at h
        cases q2 : lentD e with
        | none => rw [q2] at h; exact h.elim
        | some l =>
          rw [q2] at h
          intro W' H' σ' cls dd s1 r1 hx
          obtain ⟨l1, l2, l3, l4⟩ := lent_at r1 q2
          exact h W' H' cls dd s1 r1.sub r1.frn l2 l3 hx
      | ok fl e =>
        rw [q] at h
        cases fl with
        | nx =>
          simp only at h
          cases q2 : lentD e with
          | none => rw [q2] at h; exact h.elim
          | some l =>
            rw [q2] at h
            intro W' H' σ' s1 r1
            obtain ⟨l1, l2, l3, l4⟩ := lent_at r1 q2
            exact h W' H' .non s1 r1.sub r1.frn l2 l3 .non
        | bk => exact h.elim
        | ct => exact h.elim
        | rt a =>
          intro W' H' σ' v s1 r1 hv
          simp only at h
          cases q3 : outV e a with
          | none => rw [q3] at h; exact h.elim
          | some b =>
            cases q2 : lentD e with
            | none => rw [q3, q2] at h; exact h.elim
            | some l =>
              rw [q3, q2] at h
              obtain ⟨l1, l2, l3, l4⟩ := lent_at r1 q2
              exact h W' H' v s1 r1.sub r1.frn l2 l3 (out_ok r1 hv q3 (noP r1 q2))
end
end VS

/-! VH: exceptions raised; lists and dicts that a name owns changed by methods and stores. -/
namespace VS
open PySem PySem.Spec PyProof.Rows L2

/-! ### raise -/
def sRaise (x : Exn) : M Flw := fun e => .ex x e
section
variable {X : Cx} {Wx : WX}
/-- X(), X an own exception class without own __init__ -/
theorem pmk_own0 {C : Addr} {bmB : List Value} {B newId initId : String} {x : Str} {p pos : Pos} (F : ExcBaseFacts B newId initId bmB) (q : PySem.W.excIn X.K C bmB newId = true) (gC : X.mg x = some (.ref C))
    (kC : PySem.W.keepIn X.K (.ref C) = true) (r : Raises X (.ref C)) (hg : Gl X x) (hdb : (x == ("__debug__" : Str)) = false := by decide) : PMk X (.Call (.Name x p) [] [] pos) (fun _ H Q => Q (.ref C) none H) := by
  intro pins s σ H Q I h
  refine wpAny_Call_Name_kw (ld_glob I hg gC ?_ hdb)
  refine PySem.W.callWith_K0 I.kIn kC ?_
  obtain ⟨bm, N, nm, qn, bs, hdct, sn, sub, ab, col, dd, k0, k1, k2, k3, k5, mN, hC, hN, hni, T⟩ := exc_obj I.kIn q
  exact wpAny_call_exc_subT F T hC hN hni (fun h' e hm => mk_of I hm r h (I.hok.gone hm.new)) (Nat.zero_le _)
theorem ds_raise0 {C : Addr} {x : Str} {p pos pos' : Pos} (hc : X.calm = true) (tk : Takes X Wx) (q : PySem.W.excIn X.K C He.veBase "ValueError.__new__" = true) (gC : X.mg x = some (.ref C))
    (kC : PySem.W.keepIn X.K (.ref C) = true) (sC : PySem.W.subIn X.K (.ref C) (.type "BaseException") = some true) (tC : PySem.W.typeIn X.K (.ref C) = some (.type "type")) (hg : Gl X x) (hdb : (x == ("__debug__" : Str)) = false := by decide) :
    DS X Wx (.Raise (some (.Call (.Name x p) [] [] pos)) none pos') (sRaise ⟨x, []⟩) :=
  PS.wk (ps_raise hc tk (pmk_own0 PySem.F.excBase_ValueError q gC kC (raises_own sC tC) hg hdb)) (by
    rintro D σ H ⟨fg, la, W, e, rl, h⟩
    exact (show ∀ W' H' σ' cls d, Sub W W' → Rel X.K fg la W' H' σ' e → ExOk X.mg X.K W' H' cls d ⟨x, []⟩ → Wx cls d σ' H' from h) W H σ _ _ (.refl _) rl ⟨gC, trivial⟩)

/-! ### what a name owns is changed -/
theorem Rel.change {K : PySem.W.Frag} {fg : Hp} {la : Nat → Addr} {W H : Hp} {σ : L2.St} {e e' : Env} {i : Nat} {p : Addr} {c : Cell} {l : D} {o : HO} (r : Rel K fg la W H σ e) (h : e[i]? = some c) (oc : c.own = true) (hp : σ[i]? = some (some (V.ref p)))
    (ow : Own K W (upd H p o) p l) (hl : relent e i l = some e') : Rel K fg la W (upd H p o) σ e' := by
  obtain ⟨b, d, s1, w, _, _, _⟩ := (r.cell i c h).at_ oc
  rw [hp] at s1; cases s1
  refine r.lent h oc hp (.refl _) (fun a u q => ?_) (fun a u q => ?_) w ow hl
  · rw [upd_ne (fun z => by rw [z, w] at q; cases q)]; exact r.sub a u q
  · obtain ⟨k1, k2⟩ := rest1_frn a u q
    have : a ≠ p := fun z => by unfold rest1 at q; rw [if_pos (.inr z)] at q; cases q
    exact ⟨by rw [upd_ne this]; exact k1, k2⟩
def ownD : Option Cell → Option D
  | some (.ow d) => some d
  | some (.ln d) => some d
  | _ => none
theorem ownD_ok {K : PySem.W.Frag} {fg : Hp} {la : Nat → Addr} {W H : Hp} {σ : L2.St} {e : Env} {i : Nat} {d : D} (r : Rel K fg la W H σ e) (h : ownD e[i]? = some d) : ∃ c p, e[i]? = some c ∧ c.own = true ∧ σ[i]? = some (some (V.ref p)) ∧ W p = none ∧ Own K W H p d := by
  cases q : e[i]? with
  | none => rw [q] at h; cases h
  | some c =>
    rw [q] at h
    have k := r.cell i c q
    cases c with
    | un => cases h
    | sh d => cases h
    | ow d' => cases h; obtain ⟨p, h1, h2, h3, h4⟩ := k; exact ⟨_, p, rfl, rfl, h1, h2, h4⟩
    | ln d' => cases h; obtain ⟨h1, h2, h3, h4⟩ := k; exact ⟨_, _, rfl, rfl, h1, h2, h4⟩
/-- a method that changes its list: by its contents and the arguments the result and the new contents -/
def MutD (K : PySem.W.Frag) (r : V → List V → Hp → VK → Prop) (f : List D → List D → Option (D × List D)) : Prop := ∀ W H p xs vs ds a ds' (Q : VK), Sub W H → Own K W H p (.lst xs) → Reps K W vs ds → f xs ds = some (a, ds') →
  (∀ o v, Own K W (upd H p o) p (.lst ds') → Rep K W v a → Q v (upd H p o)) → r (.ref p) vs H Q
def isLst : Option D → Bool
  | some (.lst _) => true
  | _ => false
def mMut (i : Nat) (f : List D → List D → Option (D × List D)) (n : M (List Val)) : M Val := fun e => if isLst (ownD e[i]?) then M.bind n (fun as e1 => match escs e1 as with
  | some (ds, e2) => match ownD e2[i]? with
    | some (.lst xs) => match f xs ds with
      | some (a, ys) => match relent e2 i (.lst ys) with
        | some e3 => .ok (.sh a) e3
        | none => .no
      | none => .no
    | _ => .no
  | none => .no) e else .no
theorem de_mut {i : Nat} {x name : Str} {id : String} {r : V → List V → Hp → VK → Prop} {f : List D → List D → Option (D × List D)} {e : Expr} {es : List Expr} {n : M (List Val)} {px apos cpos : Pos} (slot : Slot "list" name id) (hty : typeOf (.builtin id) = pure (.type "method_descriptor"))
    (hm : MtR X id r) (hd : MutD X.K r f) (ho : PE X (.Name x px) (tVar i)) (ha : DA X Wx (e :: es) n)
    (hbase : attributeBase (.Name x px) name X.env (eval (.Name x px) X.env) = eval (.Name x px) X.env := by rfl)
    (hfew : ((backTo cpos (starEach (e :: es) X.env)).all (fun x => !x.1) && (backToKw cpos (keywordEach [] X.env)).all (fun x => x.1.isSome)
      && decide ((e :: es).length + ([] : List Keyword).length + (if ([] : List Keyword).isEmpty then 0 else 1) < 30)) = true := by rfl)
    (hline : (apos.endLine == cpos.line) = true := by rfl) (hs : starEach (e :: es) X.env = (false, eval e X.env) :: starEach es X.env := by rfl) (hplain : (backTo cpos (starEach es X.env)).any (·.1) = false := by rfl) :
    DE X Wx (.Call (.Attribute (.Name x px) name apos) (e :: es) [] cpos) (mMut i f n) :=
  PE.wk (pe_bm PySem.F.plainAttrs_list slot hty hm ho ha hbase hfew hline hs hplain) (by
    rintro σ H Q ⟨fg, la, W, e, rl, h⟩
    unfold mMut at h
    by_cases c : isLst (ownD e[i]?) = true
    · rw [if_pos c] at h
      cases q : ownD e[i]? with
      | none => rw [q] at c; cases c
      | some d =>
        rw [q] at c
        cases d with
        | lst xs0 =>
          obtain ⟨c0, p, h1, h2, h3, h4, h5⟩ := ownD_ok rl q
          obtain ⟨vs0, hp0, _⟩ := h5
          refine ⟨_, h3, .inl ⟨rfl, vs0, SqL.of hp0⟩, fg, la, W, e, rl, (Post.bind h).mono fun W1 H1 e1 as s1 r1 h1' vs hv => ?_⟩
          cases q1 : escs e1 as with
          | none => rw [q1] at h1'; exact (show False from h1').elim
          | some pr =>
            obtain ⟨ds, e2⟩ := pr
            rw [q1] at h1'
            simp only at h1'
            obtain ⟨W2, s2, r2, rp⟩ := escs_ok r1 hv q1
            cases q2 : ownD e2[i]? with
            | none => rw [q2] at h1'; exact (show False from h1').elim
            | some d2 =>
              rw [q2] at h1'
              cases d2 with
              | lst xs =>
                simp only at h1'
                obtain ⟨c2, p2, k1, k2, k3, k4, k5⟩ := ownD_ok r2 q2
                rw [h3] at k3
                cases k3
                cases q3 : f xs ds with
                | none => rw [q3] at h1'; exact (show False from h1').elim
                | some pr2 =>
                  obtain ⟨a, ys⟩ := pr2
                  rw [q3] at h1'
                  simp only at h1'
                  cases q4 : relent e2 i (.lst ys) with
                  | none => rw [q4] at h1'; exact (show False from h1').elim
                  | some e3 =>
                    rw [q4] at h1'
                    exact hd W2 H1 p xs vs ds a ys Q r2.sub k5 rp q3 fun o v ow rv =>
                      (show ∀ W' H', Sub W1 W' → Rel X.K fg la W' H' σ e3 → ∀ v, ValOk X.K fg W' H' σ e3 v (.sh a) → Q v H' from h1') W2 _ s2 (r2.change k1 k2 h3 ow q4) v rv
              | _ => exact (show False from h1').elim
        | _ => cases c
    · rw [if_neg c] at h; exact h.elim)
def mMut0 (i : Nat) (f : List D → List D → Option (D × List D)) : M Val := fun e => match ownD e[i]? with
  | some (.lst xs) => match f xs [] with
    | some (a, ys) => match relent e i (.lst ys) with
      | some e3 => .ok (.sh a) e3
      | none => .no
    | none => .no
  | _ => .no
theorem de_mut0 {i : Nat} {x name : Str} {id : String} {r : V → List V → Hp → VK → Prop} {f : List D → List D → Option (D × List D)} {px apos cpos : Pos} (slot : Slot "list" name id) (hty : typeOf (.builtin id) = pure (.type "method_descriptor"))
    (hm : MtR X id r) (hd : MutD X.K r f) (ho : PE X (.Name x px) (tVar i))
    (hbase : attributeBase (.Name x px) name X.env (eval (.Name x px) X.env) = eval (.Name x px) X.env := by rfl) (hline : (apos.endLine == cpos.line) = true := by rfl) :
    DE X Wx (.Call (.Attribute (.Name x px) name apos) [] [] cpos) (mMut0 i f) :=
  PE.wk (pe_bm0 PySem.F.plainAttrs_list slot hty hm ho hbase hline) (by
    rintro σ H Q ⟨fg, la, W, e, rl, h⟩
    unfold mMut0 at h
    cases q : ownD e[i]? with
    | none => rw [q] at h; exact h.elim
    | some d =>
      rw [q] at h
      cases d with
      | lst xs =>
        simp only at h
        obtain ⟨c0, p, h1, h2, h3, h4, h5⟩ := ownD_ok rl q
        have h5c := h5
        obtain ⟨vs0, hp0, _⟩ := h5c
        refine ⟨_, h3, .inl ⟨rfl, vs0, SqL.of hp0⟩, ?_⟩
        cases q3 : f xs [] with
        | none => rw [q3] at h; exact h.elim
        | some pr2 =>
          obtain ⟨a, ys⟩ := pr2
          rw [q3] at h
          simp only at h
          cases q4 : relent e i (.lst ys) with
          | none => rw [q4] at h; exact h.elim
          | some e3 =>
            rw [q4] at h
            exact hd W H p xs [] [] a ys Q rl.sub h5 .nil q3 fun o v ow rv =>
              (show ∀ W' H', Sub W W' → Rel X.K fg la W' H' σ e3 → ∀ v, ValOk X.K fg W' H' σ e3 v (.sh a) → Q v H' from h) W _ (.refl _) (rl.change h1 h2 h3 ow q4) v rv
      | _ => exact h.elim)
end
section
variable {K : PySem.W.Frag}
def fAppend (xs ds : List D) : Option (D × List D) := match ds with
  | [d] => if xs.length < 1000000 then some (.non, xs ++ [d]) else none
  | _ => none
theorem mut_append : MutD K rAppend fAppend := by
  intro W H p xs vs ds a ds' Q sw ow rp hf k
  obtain ⟨us, hp, ru⟩ := ow
  match vs, ds, rp with
  | [v], [d], .cons rv .nil =>
    unfold fAppend at hf
    simp only at hf
    split at hf
    · rename_i c
      cases hf
      exact ⟨p, us, v, rfl, rfl, hp, ltBig (by rw [ru.length]; exact c), k _ _ ⟨_, upd_same, ru.append (.one rv)⟩ .non⟩
    · cases hf
  | [], [], _ => cases hf
  | _ :: _ :: _, _ :: _ :: _, _ => cases hf
def fExtend (xs ds : List D) : Option (D × List D) := match ds with
  | [d] => (match d with
    | .lst ys => if xs.length + ys.length ≤ 1000000 then some (.non, xs ++ ys) else none
    | _ => none)
  | _ => none
theorem leBig {n : Nat} (h : n ≤ 1000000) : n ≤ sizeLine := Nat.le_trans h (by rw [sizeLine_eq]; decide)
theorem mut_extend : MutD K rExtend fExtend := by
  intro W H p xs vs ds a ds' Q sw ow rp hf k
  obtain ⟨us, hp, ru⟩ := ow
  match vs, ds, rp with
  | [v], [d], .cons rv .nil =>
    cases d with
    | lst ys =>
      unfold fExtend at hf
      simp only at hf
      split at hf
      · rename_i c
        cases hf
        cases rv with
        | lst hb rb => exact ⟨p, _, us, _, rfl, rfl, hp, sw _ _ hb, leBig (by rw [ru.length, rb.length]; exact c), k _ _ ⟨_, upd_same, ru.append rb⟩ .non⟩
      · cases hf
    | _ => cases hf
  | [], [], _ => cases hf
  | _ :: _ :: _, _ :: _ :: _, _ => cases hf
def fPop (xs ds : List D) : Option (D × List D) := match ds with
  | [] => (xs[xs.length - 1]?).map fun d => (d, xs.dropLast)
  | _ => none
theorem Reps.dropLast {H : Hp} : ∀ {vs : List V} {ds : List D}, Reps K H vs ds → Reps K H vs.dropLast ds.dropLast := fun {vs ds} h => by
  rw [List.dropLast_eq_take, List.dropLast_eq_take, h.length]
  exact h.take _
theorem mut_pop : MutD K rPop fPop := by
  intro W H p xs vs ds a ds' Q sw ow rp hf k
  obtain ⟨us, hp, ru⟩ := ow
  cases rp with
  | nil =>
    unfold fPop at hf
    simp only at hf
    cases q : xs[xs.length - 1]? with
    | none => rw [q] at hf; cases hf
    | some d =>
      rw [q] at hf
      cases hf
      obtain ⟨v, hv, rv⟩ := ru.get q
      exact ⟨p, us, v, rfl, rfl, hp, by rw [ru.length]; exact hv, k _ _ ⟨_, upd_same, ru.dropLast⟩ rv⟩
  | cons _ _ => cases hf
noncomputable def fPopAt (xs ds : List D) : Option (D × List D) := match ds with
  | [d] => (match d with
    | .int i => if dec (-(2 ^ 63) ≤ i ∧ i < 2 ^ 63) = true then (match seqIndex? i xs.length with
      | some k => (xs[k]?).map fun d => (d, xs.eraseIdx k)
      | none => none) else none
    | _ => none)
  | _ => none
theorem mut_popAt : MutD K rPopAt fPopAt := by
  intro W H p xs vs ds a ds' Q sw ow rp hf k
  obtain ⟨us, hp, ru⟩ := ow
  match vs, ds, rp with
  | [v], [d], .cons rv .nil =>
    cases d with
    | int i =>
      cases rv
      unfold fPopAt at hf
      simp only at hf
      split at hf
      · rename_i c
        have c := of_dec c
        cases q : seqIndex? i xs.length with
        | none => rw [q] at hf; cases hf
        | some j =>
          rw [q] at hf
          simp only at hf
          cases q2 : xs[j]? with
          | none => rw [q2] at hf; cases hf
          | some d =>
            rw [q2] at hf
            cases hf
            obtain ⟨v, hv, rv⟩ := ru.get q2
            exact ⟨p, us, i, j, v, rfl, rfl, hp, c.1, c.2, by rw [ru.length]; exact q, hv, k _ _ ⟨_, upd_same, ru.eraseIdx j⟩ rv⟩
      · cases hf
    | _ => cases hf
  | [], [], _ => cases hf
  | _ :: _ :: _, _ :: _ :: _, _ => cases hf
end

/-! ### keys of dicts -/
def keyK : D → Option Key
  | .int i => some (.inl i)
  | .str x => some (.inr x)
  | _ => none
def keysK : List D → Option (List Key)
  | [] => some []
  | d :: ds => match keyK d, keysK ds with
    | some k, some ks => some (k :: ks)
    | _, _ => none
def keyT : D → Option (List Key)
  | .tup ds => keysK ds
  | _ => none
theorem keyK_kD (k : Key) : keyK (kD k) = some k := by cases k <;> rfl
theorem keyK_some {d : D} {k : Key} (h : keyK d = some k) : d = kD k := by
  cases d with
  | int i => cases h; rfl
  | str x => cases h; rfl
  | _ => cases h
theorem keysK_kD : ∀ ks : List Key, keysK (ks.map kD) = some ks
  | [] => rfl
  | k :: ks => by simp only [List.map_cons, keysK, keyK_kD, keysK_kD ks]
theorem keysK_some : ∀ {ds : List D} {ks : List Key}, keysK ds = some ks → ds = ks.map kD
  | [], ks, h => by cases h; rfl
  | d :: ds, ks, h => by
    unfold keysK at h
    cases q : keyK d with
    | none => rw [q] at h; cases h
    | some k =>
      cases q2 : keysK ds with
      | none => rw [q, q2] at h; cases h
      | some ks2 =>
        rw [q, q2] at h
        cases h
        rw [List.map_cons, ← keyK_some q, ← keysK_some q2]
theorem keyT_tD (k : List Key) : keyT (tD k) = some k := keysK_kD k
theorem keyT_some {d : D} {k : List Key} (h : keyT d = some k) : d = tD k := by
  cases d with
  | tup ds => rw [tD, ← keysK_some h]
  | _ => cases h
theorem keys_vals {K : PySem.W.Frag} {H : Hp} : ∀ {kk : List Key} {vs : List V}, Reps K H vs (kk.map kD) → vs = kk.map kV
  | [], vs, h => by cases h; rfl
  | k :: kk, vs, h => by
    cases h with
    | cons r t =>
      rw [List.map_cons, keys_vals t]
      cases k with
      | inl z => cases (show Rep K H _ (.int z) from r); rfl
      | inr z => cases (show Rep K H _ (.str z) from r); rfl
/-- a dict's pairs by keys that are read by kf -/
def lookD {κ : Type} [DecidableEq κ] (kf : D → Option κ) (l : List (D × D)) (k : κ) : Option D := (l.find? fun p => decide (kf p.1 = some k)).map (·.2)
def putL {κ : Type} [DecidableEq κ] (kf : D → Option κ) (l : List (D × D)) (k : κ) (q v : D) : List (D × D) :=
  if (l.any fun p => decide (kf p.1 = some k)) = true then l.map (fun p => if kf p.1 = some k then (p.1, v) else p) else l ++ [(q, v)]
section
variable {K : PySem.W.Frag} {H : Hp}
theorem lookK_ok {kvs : List (Key × V)} {l : List (D × D)} (h : RepsK K H kvs l) (k : Key) : (valV kvs k = none ∧ lookD keyK l k = none) ∨ ∃ v d, valV kvs k = some v ∧ lookD keyK l k = some d ∧ Rep K H v d := by
  induction kvs generalizing l with
  | nil => cases h; exact .inl ⟨rfl, rfl⟩
  | cons p kvs ih =>
    cases h with
    | @cons k' v _ d l' r t =>
      by_cases e : k' = k
      · subst e
        refine .inr ⟨v, d, valV_pos rfl, ?_, r⟩
        unfold lookD
        rw [List.find?_cons, show decide (keyK (kD k', d).1 = some k') = true from decide_eq_true (keyK_kD k')]
        rfl
      · have e1 : valV ((k', v) :: kvs) k = valV kvs k := valV_neg e
        have e2 : lookD keyK ((kD k', d) :: l') k = lookD keyK l' k := by
          unfold lookD
          rw [List.find?_cons, show decide (keyK (kD k', d).1 = some k) = false from decide_eq_false (by rw [keyK_kD]; exact fun z => e (Option.some.inj z))]
        rw [e1, e2]
        exact ih t
theorem lookT_ok {kvs : List (List Key × V)} {l : List (D × D)} (h : RepsT K H kvs l) (k : List Key) : (valV kvs k = none ∧ lookD keyT l k = none) ∨ ∃ v d, valV kvs k = some v ∧ lookD keyT l k = some d ∧ Rep K H v d := by
  induction kvs generalizing l with
  | nil => cases h; exact .inl ⟨rfl, rfl⟩
  | cons p kvs ih =>
    cases h with
    | @cons k' v _ d l' r t =>
      by_cases e : k' = k
      · subst e
        refine .inr ⟨v, d, valV_pos rfl, ?_, r⟩
        unfold lookD
        rw [List.find?_cons, show decide (keyT (tD k', d).1 = some k') = true from decide_eq_true (keyT_tD k')]
        rfl
      · have e1 : valV ((k', v) :: kvs) k = valV kvs k := valV_neg e
        have e2 : lookD keyT ((tD k', d) :: l') k = lookD keyT l' k := by
          unfold lookD
          rw [List.find?_cons, show decide (keyT (tD k', d).1 = some k) = false from decide_eq_false (by rw [keyT_tD]; exact fun z => e (Option.some.inj z))]
        rw [e1, e2]
        exact ih t
theorem anyK {kvs : List (Key × V)} {l : List (D × D)} (h : RepsK K H kvs l) (k : Key) : (l.any fun p => decide (keyK p.1 = some k)) = (kvs.any fun kv => decide (kv.1 = k)) := by
  induction kvs generalizing l with
  | nil => cases h; rfl
  | cons p kvs ih =>
    cases h with
    | @cons k' v _ d l' r t =>
      rw [List.any_cons, List.any_cons, ih t]
      congr 1
      simp only [keyK_kD]
      exact decide_eq_decide.mpr ⟨Option.some.inj, fun z => by rw [z]⟩
theorem anyT {kvs : List (List Key × V)} {l : List (D × D)} (h : RepsT K H kvs l) (k : List Key) : (l.any fun p => decide (keyT p.1 = some k)) = (kvs.any fun kv => decide (kv.1 = k)) := by
  induction kvs generalizing l with
  | nil => cases h; rfl
  | cons p kvs ih =>
    cases h with
    | @cons k' v _ d l' r t =>
      rw [List.any_cons, List.any_cons, ih t]
      congr 1
      simp only [keyT_tD]
      exact decide_eq_decide.mpr ⟨Option.some.inj, fun z => by rw [z]⟩
theorem mapK {kvs : List (Key × V)} {l : List (D × D)} (h : RepsK K H kvs l) {k : Key} {v : V} {d : D} (rv : Rep K H v d) : RepsK K H (kvs.map fun kv => if kv.1 = k then (kv.1, v) else kv) (l.map fun p => if keyK p.1 = some k then (p.1, d) else p) := by
  induction kvs generalizing l with
  | nil => cases h; exact .nil
  | cons p kvs ih =>
    cases h with
    | @cons k' v' _ d' l' r t =>
      rw [List.map_cons, List.map_cons]
      by_cases e : k' = k
      · subst e
        rw [if_pos rfl, if_pos (keyK_kD k')]
        exact .cons rv (ih t)
      · rw [if_neg e, if_neg (by show ¬ keyK (kD k') = some k; rw [keyK_kD]; exact fun z => e (Option.some.inj z))]
        exact .cons r (ih t)
theorem mapT {kvs : List (List Key × V)} {l : List (D × D)} (h : RepsT K H kvs l) {k : List Key} {v : V} {d : D} (rv : Rep K H v d) : RepsT K H (kvs.map fun kv => if kv.1 = k then (kv.1, v) else kv) (l.map fun p => if keyT p.1 = some k then (p.1, d) else p) := by
  induction kvs generalizing l with
  | nil => cases h; exact .nil
  | cons p kvs ih =>
    cases h with
    | @cons k' v' _ d' l' r t =>
      rw [List.map_cons, List.map_cons]
      by_cases e : k' = k
      · subst e
        rw [if_pos rfl, if_pos (keyT_tD k')]
        exact .cons rv (ih t)
      · rw [if_neg e, if_neg (by show ¬ keyT (tD k') = some k; rw [keyT_tD]; exact fun z => e (Option.some.inj z))]
        exact .cons r (ih t)
theorem appK {kvs : List (Key × V)} {l : List (D × D)} (h : RepsK K H kvs l) {k : Key} {v : V} {d : D} (rv : Rep K H v d) : RepsK K H (kvs ++ [(k, v)]) (l ++ [(kD k, d)]) := by
  induction kvs generalizing l with
  | nil => cases h; exact .cons rv .nil
  | cons p kvs ih => cases h with
    | cons r t => exact .cons r (ih t)
theorem appT {kvs : List (List Key × V)} {l : List (D × D)} (h : RepsT K H kvs l) {k : List Key} {v : V} {d : D} (rv : Rep K H v d) : RepsT K H (kvs ++ [(k, v)]) (l ++ [(tD k, d)]) := by
  induction kvs generalizing l with
  | nil => cases h; exact .cons rv .nil
  | cons p kvs ih => cases h with
    | cons r t => exact .cons r (ih t)
theorem putK_ok {kvs : List (Key × V)} {l : List (D × D)} (h : RepsK K H kvs l) {k : Key} {v : V} {d : D} (rv : Rep K H v d) : RepsK K H (putK kvs k v) (putL keyK l k (kD k) d) := by
  unfold putK putL
  rw [anyK h]
  split
  · exact mapK h rv
  · exact appK h rv
theorem putT_ok {kvs : List (List Key × V)} {l : List (D × D)} (h : RepsT K H kvs l) {k : List Key} {v : V} {d : D} (rv : Rep K H v d) : RepsT K H (putK kvs k v) (putL keyT l k (tD k) d) := by
  unfold putK putL
  rw [anyT h]
  split
  · exact mapT h rv
  · exact appT h rv
end
/-! ### stores o[i] = v, o a name -/
def stD : D → D → D → Option D
  | .lst xs, .int i, v => (ixN xs.length i).map fun j => .lst (xs.set j v)
  | .dct false l, q, v => if l.length < 1000000 then (keyK q).map fun k => .dct false (putL keyK l k q v) else none
  | .dct true l, q, v => if l.length < 1000000 then (keyT q).map fun k => .dct true (putL keyT l k q v) else none
  | _, _, _ => none
def stTo (i : Nat) (v : D) : Val → M Flw := fun b e2 => match esc e2 b with
  | some (k, e3) => match ownD e3[i]? with
    | some c => match stD c k v with
      | some c' => match relent e3 i c' with
        | some e4 => .ok .nx e4
        | none => .no
      | none => .no
    | none => .no
  | none => .no
def sStore (i : Nat) (mk mv : M Val) : M Flw := M.bind mv fun a e => match esc e a with
  | some (v, e1) => if (ownD e1[i]?).isSome then M.bind mk (stTo i v) e1 else .no
  | none => .no
section
variable {X : Cx} {Wx : WX}
theorem PSet.or {r r' : TSet} (h : PSet X r) (h' : PSet X r') : PSet X (fun o i v H Q => r o i v H Q ∨ r' o i v H Q) := by
  intro pins s σ H o i v ov iv u Q I ro ri rv q
  rcases q with q | q
  · exact h pins s σ H o i v ov iv u Q I ro ri rv q
  · exact h' pins s σ H o i v ov iv u Q I ro ri rv q
theorem ds_store {i : Nat} {x : Str} {k v : Expr} {mk mv : M Val} {px p1 pos : Pos} (hu : X.A.units + 1 < cLine) (ho : PE X (.Name x px) (tVar i)) (hk : DE X Wx k mk) (hv : DE X Wx v mv)
    (ha : ∀ v, assign (.Subscript (.Name x px) k p1) X.env v = (do
      let ov ← holding [v] (eval (.Name x px) X.env)
      let iv ← holding [v, ov] (eval k X.env)
      standAt p1
      holding [v, ov, iv] (setItem ov iv v)
      release [v, ov, iv] []) := by intro _; rfl)
    (hs : swapsWithSole [.Subscript (.Name x px) k p1] v pos.line X.env = pure false := by rfl) (hw : swappedStores [.Subscript (.Name x px) k p1] v X.env = pure none := by rfl)
    (h1 : (assignEach [.Subscript (.Name x px) k p1] X.env).map (·.2) = [assign (.Subscript (.Name x px) k p1) X.env] := by rfl) : DS X Wx (.Assign [.Subscript (.Name x px) k p1] v pos) (sStore i mk mv) :=
  PS.wk (ps_asg hv (pg_sub ho hk (PSet.or set_list (set_dict hu)) ha) hs hw h1) (by
    rintro Dn σ H ⟨fg, la, W, e, rl, h⟩
    refine ⟨fg, la, W, e, rl, (PostS.bind h).mono fun W1 H1 e1 a s1 r1 h1 u hu => ?_⟩
    cases q : esc e1 a with
    | none => rw [q] at h1; exact (show False from h1).elim
    | some pr =>
      obtain ⟨d, e2⟩ := pr
      rw [q] at h1
      simp only at h1
      obtain ⟨W2, s2, r2, rv⟩ := esc_ok r1 hu q
      by_cases c : (ownD e2[i]?).isSome = true
      · rw [if_pos c] at h1
        obtain ⟨d0, q0⟩ := Option.isSome_iff_exists.mp c
        obtain ⟨c0, p, k1, k2, k3, k4, k5⟩ := ownD_ok r2 q0
        refine ⟨_, k3, fg, la, W2, e2, r2, (PostS.bind (PostS.wider h1 s2)).mono fun W3 H3 e3 b s3 r3 h3 y hy => ?_⟩
        unfold stTo at h3
        cases q1 : esc e3 b with
        | none => rw [q1] at h3; exact (show False from h3).elim
        | some pr2 =>
          obtain ⟨kd, e4⟩ := pr2
          rw [q1] at h3
          simp only at h3
          obtain ⟨W4, s4, r4, rk⟩ := esc_ok r3 hy q1
          have rv4 := rv.mono (s3.trans s4)
          cases q2 : ownD e4[i]? with
          | none => rw [q2] at h3; exact (show False from h3).elim
          | some cc =>
            rw [q2] at h3
            simp only at h3
            cases q3 : stD cc kd d with
            | none => rw [q3] at h3; exact (show False from h3).elim
            | some c' =>
              rw [q3] at h3
              simp only at h3
              cases q4 : relent e4 i c' with
              | none => rw [q4] at h3; exact (show False from h3).elim
              | some e5 =>
                rw [q4] at h3
                obtain ⟨c1, p1, j1, j2, j3, j4, j5⟩ := ownD_ok r4 q2
                rw [k3] at j3
                cases j3
                have fin : ∀ o, Own X.K W4 (upd H3 p o) p c' → Dn.nx σ (upd H3 p o) := fun o ow => (show ∀ W' H' σ', Sub W3 W' → Rel X.K fg la W' H' σ' e5 → Dn.nx σ' H' from h3) W4 _ σ s4 (r4.change j1 j2 k3 ow q4)
                cases cc with
                | lst xs =>
                  obtain ⟨us, hp, ru⟩ := j5
                  cases kd with
                  | int z =>
                    cases rk
                    unfold stD at q3
                    simp only at q3
                    cases q5 : ixN xs.length z with
                    | none => rw [q5] at q3; cases q3
                    | some j =>
                      rw [q5] at q3
                      cases q3
                      exact .inl ⟨p, us, z, j, rfl, rfl, hp, by rw [ru.length]; exact q5, fin _ ⟨_, upd_same, Reps.set rv4 j ru⟩⟩
                  | _ => cases q3
                | dct t l =>
                  cases t with
                  | false =>
                    obtain ⟨kvs, hp, rk2⟩ := j5
                    unfold stD at q3
                    simp only at q3
                    split at q3
                    · rename_i hl
                      cases q5 : keyK kd with
                      | none => rw [q5] at q3; cases q3
                      | some kk =>
                        rw [q5] at q3
                        cases q3
                        have ek := keyK_some q5
                        subst ek
                        have ey : y = kV kk := by
                          cases kk with
                          | inl z => cases (show Rep X.K W4 y (.int z) from rk); rfl
                          | inr z => cases (show Rep X.K W4 y (.str z) from rk); rfl
                        subst ey
                        exact .inr ⟨p, _, rfl, DPut.k hp (ltBig (by rw [rk2.length]; exact hl)), fin _ ⟨_, upd_same, putK_ok rk2 rv4⟩⟩
                    · cases q3
                  | true =>
                    obtain ⟨kvs, hp, rk2⟩ := j5
                    unfold stD at q3
                    simp only at q3
                    split at q3
                    · rename_i hl
                      cases q5 : keyT kd with
                      | none => rw [q5] at q3; cases q3
                      | some kk =>
                        rw [q5] at q3
                        cases q3
                        have ek := keyT_some q5
                        subst ek
                        cases (show Rep X.K W4 y (.tup (kk.map kD)) from rk) with
                        | tup ha rs =>
                          rename_i ad vs
                          have ev : vs = kk.map kV := keys_vals rs
                          subst ev
                          exact .inr ⟨p, _, rfl, DPut.t hp (r4.sub _ _ ha) (ltBig (by rw [rk2.length]; exact hl)), fin _ ⟨_, upd_same, putT_ok rk2 rv4⟩⟩
                    · cases q3
                | _ => cases q3
      · rw [if_neg c] at h1; exact (show False from h1).elim)
end
end VS

/-! VZ: a law's end: the law's def is called with the script, where nothing else is tracked. -/
namespace VS
open PySem PySem.Spec PyProof.Rows L2

section
variable {P : Program} {w : World} {K : PySem.W.Frag} {mg mb : Str → Option Value} {k : Nat} {fa a : Addr} {fd : FuncData} {x : Str} {F : List D → FR} {s : Shared} {vs : List Value} {ns : List Int}
theorem reps_ints {W : Hp} : ∀ ns : List Int, Reps K W (ns.map V.int) (ns.map D.int)
  | [] => .nil
  | n :: ns => .cons (.int n) (reps_ints ns)
/-- from a heap in which nothing but the script may be tracked -/
theorem ended {H : Hp} (KX : K.In s.heap) (hns : s.heap.Ns mainGlobals mg) (hb : s.heap.Ns builtinsNs mb) (hbb : ∀ x : Str, x ≠ "__name__" → mb x = bootBuiltins x) (hlim : s.heap.NoLimit) (hg : s.gens = #[]) (hr : Room k callerA)
    (Fn : ∀ base : Heap, K.In base → base.Ns mainGlobals mg → FnG P w K mg base k fa fd [x] (Prom0 K mg 1 F)) (hbind : ∀ (s : Shared) (u : Value), BindsTo s fd ⟨[u], []⟩ [(x, u)]) (hF : F [.fl (ns.map .int)] = .ok (.sh (.bl true)) .non)
    (hS : SqL K H a (ns.map V.int)) (ok : HOk P w H s.heap) (hd : ∀ b ob es ep, s.heap.get? b = some ob → ob.data = .dict es ep → H b = none) (hK : ∀ b o, K.lookup b = some o → H b = none) (hz : ∀ b o, H b = some o → ∃ ob u, o = .frz ob u) :
    codeAny (model P w) callerA (.call (.ref fa) ⟨[.ref a], []⟩) (fun r s' => r = .ok (.ret (.bool true)) ∧ OldK s.heap s'.heap ∧ s'.os = s.os ∧ AllBare s'.gens) s := by
  have under : ∀ {b : Addr} {o : Obj}, s.heap.get? b = some o → H b = none → (hidT s.heap H).get? b = some o := fun e n => hidT_get e n
  have ns' : ∀ {b : Addr} {m : Str → Option Value}, s.heap.Ns b m → (hidT s.heap H).Ns b m := fun {b m} h => by
    obtain ⟨o, es, ep, e, d, r⟩ := h
    exact ⟨o, es, ep, under e (hd b o es ep e d), d, r⟩
  have hKb : K.In (hidT s.heap H) := fun b o e => under (KX b o e) (hK b o e)
  have md : Mod K mg (hidT s.heap H) := by
    obtain ⟨mc, l1, l2⟩ := hlim
    exact ⟨hKb, ns' hns, ⟨mb, ns' hb, hbb⟩, ⟨mc, ns' l1, l2⟩⟩
  have e0 : Env0 P w K mg (hidT s.heap H) callerA [] s H := ⟨rfl, md, fun b o e => of_hidT e, Nat.le_of_eq (hidT_size _ _), trivial, (fun b hb => nomatch hb), ok, .of_eq hg⟩
  have pr : Prom0 K mg 1 F [V.ref a] H (fun v _ => v = .bl true) (fun _ _ _ => False) := by
    refine ⟨fun _ => none, H, [.fl (ns.map .int)], .refl _, (fun b o z => by cases z), .cons (.fl hS (reps_ints ns)) .nil, rfl, ?_⟩
    rw [hF]
    intro W' H' v _ _ _ hv
    cases (show Rep K W' v (.bl true) from hv)
    rfl
  refine codeAny_mono ((Fn _ hKb (ns' hns)).go callerA [] s H ⟨[.ref a], []⟩ [.ref a] [.ref a] _ _ hr rfl e0 (hbind s (.ref a)) (.cons rfl .nil) pr) fun r s' h => ?_
  match r, h with
  | .error e, h => obtain ⟨_, _, _, _, _, _, _, _, _, _, _, _, z⟩ := h; exact z.elim
  | .ok .next, h => exact False.elim h
  | .ok .brk, h => exact False.elim h
  | .ok .cont, h => exact False.elim h
  | .ok (.ret u), h =>
    obtain ⟨v, H', os, bare, un, hok', r', q⟩ := h
    subst q
    cases r'
    refine ⟨rfl, OldK.of_keep fun b o e => ?_, os, bare⟩
    cases q : H b with
    | none => exact un.keep b o e q (fun z => (nomatch z)) (fun z => (nomatch z))
    | some u =>
      obtain ⟨ob, y, rfl⟩ := hz b u q
      have z1 := (ok b _ q).1
      rw [e] at z1
      cases z1
      exact (hok' b _ (un.frzs b _ _ q)).1
end
/-- the script's own object, or one of the module's -/
theorem law_end {l : PySem.W.OpenLaw} {n k : Nat} {q : Program} {loose : List Str} {XP : (Str → Option Value) → Heap → Prop} {YP : World → Heap → Prop} {d : DefRec} {x : Str} {F : List D → FR}
    (hn : l.most = some n) (hn2 : n ≤ sizeLine) (hdf : d.params.defaults = []) (hr : Room k callerA) (hF : ∀ ns : List Int, ns.length ≤ n → F [.fl (ns.map .int)] = .ok (.sh (.bl true)) .non)
    (Fn : ∀ (w : World) (mg : Str → Option Value) (fa : Addr) (h : Heap), YP w h → h.Ns mainGlobals mg → mg d.name = some (.ref fa) →
      ∃ (K : PySem.W.Frag) (fd : FuncData), K.In h ∧ (∀ (s : Shared) (u : Value), BindsTo s fd ⟨[u], []⟩ [(x, u)]) ∧
        ∀ base : Heap, K.In base → base.Ns mainGlobals mg → FnG l.prog w K mg base k fa fd [x] (Prom0 K mg 1 F)) :
    PySem.W.WalkO q loose XP YP l.row.toRowW d [] (fun f vs => PySem.call f vs) := by
  refine Att.attach_call hn hdf fun w s₀ s mg mb fa o pm cd doc a vs ns G Y ho hd hcd hmg hobj hints hlen hg => ?_
  obtain ⟨K, fd, KX, hb, hfn⟩ := Fn w mg fa _ Y G.T.g hmg
  have rv := vals_ints hints
  have hl : ns.length ≤ sizeLine := Nat.le_trans hlen hn2
  cases hk : K.lookup a with
  | some ob =>
    have e := KX a ob hk
    rw [hobj] at e
    cases e
    exact ended (H := fun _ => none) KX G.T.g G.T.b G.T.builtins G.T.nolimit hg hr hfn hb (hF ns hlen) (.inr ⟨_, vs.toArray, _, hk, rfl, rfl, rfl, by rw [List.size_toArray, hints.length]; exact hl, by simpa using rv⟩) (fun b u z => by cases z)
      (fun _ _ _ _ _ _ => rfl) (fun _ _ _ => rfl) (fun b u z => by cases z)
  | none =>
    have hS : ∀ b o, (fun b : Addr => if b = a then some (HO.frz { cls := .type "list", data := .seq vs.toArray } (.lst (ns.map V.int))) else none) b = some o → b = a ∧ o = HO.frz { cls := .type "list", data := .seq vs.toArray } (.lst (ns.map V.int)) := fun b o z => by
      simp only at z
      split at z
      · rename_i c; cases z; exact ⟨c, rfl⟩
      · cases z
    refine ended (H := fun b => if b = a then some (.frz { cls := .type "list", data := .seq vs.toArray } (.lst (ns.map V.int))) else none) KX G.T.g G.T.b G.T.builtins G.T.nolimit hg hr hfn hb (hF ns hlen) (.inl (.inr ⟨{ cls := .type "list", data := .seq vs.toArray }, if_pos rfl⟩))
      (fun b u z => ?_) (fun b ob es ep e dd => ?_) (fun b u e => ?_) (fun b u z => ⟨_, _, (hS b u z).2⟩)
    · obtain ⟨rfl, rfl⟩ := hS b u z
      exact ⟨hobj, by rw [List.length_map]; exact hl, vs, _, rv, hobj⟩
    · refine if_neg fun z => ?_
      subst z
      rw [hobj] at e; cases e
      cases (show Data.seq vs.toArray _ = Data.dict es ep from dd)
    · exact if_neg fun z => by rw [z, hk] at e; cases e
end VS

/-! VI: operators and built-ins by data. -/
namespace VS
open PySem PySem.Spec PyProof.Rows L2

/-! ### data as the model's plain data -/
mutual
def D.py : D → PyData
  | .non => .none
  | .bl b => .bool b
  | .int i => .int i
  | .str x => .str x
  | .lst xs => .list (pys xs)
  | .tup xs => .tuple (pys xs)
  | .fl xs => .list (pys xs)
  | .dct _ _ => .dict []
  | .op _ => .none
def pys : List D → List PyData
  | [] => []
  | x :: xs => x.py :: pys xs
end
mutual
def D.plain : D → Bool
  | .non => true
  | .bl _ => true
  | .int _ => true
  | .str _ => true
  | .lst xs => plains xs
  | .tup xs => plains xs
  | .fl xs => plains xs
  | .dct _ _ => false
  | .op _ => false
def plains : List D → Bool
  | [] => true
  | x :: xs => x.plain && plains xs
end
section
variable {K : PySem.W.Frag} {H W : Hp}
theorem sqL_of {a : Addr} {vs : List V} (h : H a = some (.lst vs)) : SqL K H a vs := .inl (.inl h)
theorem sqT_of {a : Addr} {vs : List V} (h : H a = some (.tup vs)) : SqT K H a vs := .inl (.inl h)
mutual
theorem dp_of : ∀ {v : V} {d : D}, Rep K H v d → d.plain = true → Dp K H v d.py
  | _, _, .non, _ => .non
  | _, _, .bl b, _ => .bl b
  | _, _, .int i, _ => .int i
  | _, _, .str x, _ => .str x
  | _, _, .lst h r, p => .lst (sqL_of h) (dps_of r p)
  | _, _, .fl h r, p => .lst h (dps_of r p)
  | _, _, .tup h r, p => .tup (sqT_of h) (dps_of r p)
  | _, _, .dK _ _, p => nomatch p
  | _, _, .dT _ _, p => nomatch p
  | _, _, .op _, p => nomatch p
theorem dps_of : ∀ {vs : List V} {ds : List D}, Reps K H vs ds → plains ds = true → DpAll K H vs (pys ds)
  | _, _, .nil, _ => .nil
  | _, _, .cons r t, p => .cons (dp_of r (Bool.and_eq_true_iff.mp p).1) (dps_of t (Bool.and_eq_true_iff.mp p).2)
end

/-! ### numbers -/
def cAll (_ _ : Int) : Bool := true
def fI (c : Int → Int → Bool) (g : Int → Int → Int) : D → D → Option Val
  | .int i, .int j => if c i j = true then some (.sh (.int (g i j))) else none
  | _, _ => none
theorem newV_int {W H : Hp} {i : Int} : NewV K W H H (.int i) (.sh (.int i)) := .int i
theorem newV_bl {W H : Hp} {i : Bool} : NewV K W H H (.bl i) (.sh (.bl i)) := .bl i
theorem repO_int {x : V} {i : Int} (s : Sub W H) (h : RepO K W H x (.int i)) : x = .int i := by cases h.rep s; rfl
theorem repO_str {x : V} {i : Str} (s : Sub W H) (h : RepO K W H x (.str i)) : x = .str i := by cases h.rep s; rfl
theorem repO_bl {x : V} {i : Bool} (s : Sub W H) (h : RepO K W H x (.bl i)) : x = .bl i := by cases h.rep s; rfl
theorem opd_I {C : Int → Int → Prop} {v : Int → Int → V} {c : Int → Int → Bool} {g : Int → Int → Int} (hC : ∀ i j, c i j = true → C i j) (hv : ∀ i j, c i j = true → v i j = .int (g i j)) : OpD K (rI C v) (fI c g) := by
  intro W H x y d1 d2 a Q s h1 h2 h q
  unfold fI at h
  split at h
  · split at h
    · rename_i i j c
      cases h
      cases repO_int s h1
      cases repO_int s h2
      exact ⟨i, j, rfl, rfl, hC i j c, by rw [hv i j c]; exact q W H _ (.refl s) newV_int⟩
    · cases h
  · cases h
theorem opd_I0 {g : Int → Int → Int} : OpD K (rI0 fun i j => V.int (g i j)) (fI cAll g) := by
  intro W H x y d1 d2 a Q s h1 h2 h q
  unfold fI at h
  split at h
  · split at h
    · rename_i i j c
      cases h
      cases repO_int s h1
      cases repO_int s h2
      exact ⟨i, j, rfl, rfl, q W H _ (.refl s) newV_int⟩
    · cases h
  · cases h
end
theorem OpR.or {X : Cx} {f : Value → Value → Sem Value} {r r' : R2} (h : OpR X f r) (h' : OpR X f r') : OpR X f (fun x y H Q => r x y H Q ∨ r' x y H Q) := by
  intro pins s σ H x y v u Q I rx ry q
  rcases q with q | q
  · exact h pins s σ H x y v u Q I rx ry q
  · exact h' pins s σ H x y v u Q I rx ry q
def fSub : D → D → Option Val := fI cAll (· - ·)
noncomputable def cMul (i j : Int) : Bool := dec ((-18446744073709551616 < i ∧ i < 18446744073709551616) ∨ (-18446744073709551616 < j ∧ j < 18446744073709551616) ∨ (i.natAbs.log2 + j.natAbs.log2 < 1000000))
noncomputable def fMulI : D → D → Option Val := fI cMul (· * ·)
noncomputable def cDiv (_ j : Int) : Bool := dec ((0 < j ∧ j < 1073741824) ∨ (0 < j ∧ j.natAbs.log2 < 9000) ∨ (j ≠ 0 ∧ j.natAbs < 1073741824))
noncomputable def fDiv : D → D → Option Val := fI cDiv Int.fdiv
def cMod (_ j : Int) : Bool := decide (j ≠ 0)
def fMod : D → D → Option Val := fI cMod Int.fmod
noncomputable def cPow (i j : Int) : Bool := dec (0 ≤ j ∧ j ≤ 1000000 ∧ i.natAbs < 18446744073709551616)
noncomputable def fPow : D → D → Option Val := fI cPow fun i j => i ^ j.toNat
def fAdd : D → D → Option Val
  | .int i, .int j => some (.sh (.int (i + j)))
  | .str x, .str y => if x.length + y.length ≤ sizeLine then some (.sh (.str (x ++ y))) else none
  | .lst xs, .lst ys => if xs.length + ys.length ≤ 1000000 then some (.ow (.lst (xs ++ ys))) else none
  | .tup xs, .tup ys => if xs.length + ys.length ≤ 1000000 then some (.sh (.tup (xs ++ ys))) else none
  | _, _ => none
theorem repO_lst {K : PySem.W.Frag} {W H : Hp} {x : V} {ds : List D} (h : RepO K W H x (.lst ds)) : ∃ p vs, x = .ref p ∧ (H p = some (.lst vs) ∨ W p = some (.lst vs)) ∧ Reps K W vs ds := by
  rcases h with h | ⟨p, rfl, vs, h1, h2⟩
  · cases h with
    | lst h r => exact ⟨_, _, rfl, .inr h, r⟩
  · exact ⟨p, vs, rfl, .inl h1, h2⟩
theorem repO_lst' {K : PySem.W.Frag} {W H : Hp} {x : V} {ds : List D} (s : Sub W H) (h : RepO K W H x (.lst ds)) : ∃ p vs, x = .ref p ∧ H p = some (.lst vs) ∧ Reps K W vs ds := by
  obtain ⟨p, vs, h1, h2, h3⟩ := repO_lst h
  refine ⟨p, vs, h1, ?_, h3⟩
  rcases h2 with h2 | h2
  · exact h2
  · exact s p _ h2
theorem repO_tup {K : PySem.W.Frag} {W H : Hp} {x : V} {ds : List D} (h : RepO K W H x (.tup ds)) : ∃ p vs, x = .ref p ∧ W p = some (.tup vs) ∧ Reps K W vs ds := by
  rcases h with h | ⟨p, rfl, h1⟩
  · cases h with
    | tup h r => exact ⟨_, _, rfl, h, r⟩
  · exact h1.elim
theorem repO_fl {K : PySem.W.Frag} {W H : Hp} {x : V} {ds : List D} (h : RepO K W H x (.fl ds)) : ∃ p vs, x = .ref p ∧ SqL K W p vs ∧ Reps K W vs ds := by
  rcases h with h | ⟨p, rfl, h1⟩
  · cases h with
    | fl h r => exact ⟨_, _, rfl, h, r⟩
  · exact h1.elim
/-- a new shared object, a new owned one -/
theorem newV_sh {K : PySem.W.Frag} {W H : Hp} {p : Addr} {vs : List V} {ds : List D} (s : Sub W H) (hp : H p = none) (r : Reps K W vs ds) : Step W H (upd W p (.tup vs)) (upd H p (.tup vs)) ∧ NewV K (upd W p (.tup vs)) H (upd H p (.tup vs)) (.ref p) (.sh (.tup ds)) :=
  ⟨.new s hp, .tup upd_same (r.mono (.new (s.none hp)))⟩
theorem newV_ow {K : PySem.W.Frag} {W H : Hp} {p : Addr} {vs : List V} {ds : List D} (s : Sub W H) (hp : H p = none) (r : Reps K W vs ds) : Step W H W (upd H p (.lst vs)) ∧ NewV K W H (upd H p (.lst vs)) (.ref p) (.ow (.lst ds)) :=
  ⟨.newH s hp, p, rfl, hp, s.none hp, vs, upd_same, r⟩
section
variable {X : Cx}
theorem opr_add : OpR X (binaryOp .Add) (fun x y H Q => rI0 (fun i j => V.int (i + j)) x y H Q ∨ (∃ i j, x = V.str i ∧ y = V.str j ∧ i.length + j.length ≤ sizeLine ∧ Q (V.str (i ++ j)) H) ∨ rCat x y H Q ∨ rCatA X.K x y H Q) :=
  OpR.or op_add (OpR.or op_add_str (OpR.or op_cat op_catA))
theorem opd_add {K : PySem.W.Frag} : OpD K (fun x y H Q => rI0 (fun i j => V.int (i + j)) x y H Q ∨ (∃ i j, x = V.str i ∧ y = V.str j ∧ i.length + j.length ≤ sizeLine ∧ Q (V.str (i ++ j)) H) ∨ rCat x y H Q ∨ rCatA K x y H Q) fAdd := by
  intro W H x y d1 d2 a Q s h1 h2 h q
  unfold fAdd at h
  split at h
  · cases h
    cases repO_int s h1
    cases repO_int s h2
    exact .inl ⟨_, _, rfl, rfl, q W H _ (.refl s) newV_int⟩
  · split at h
    · cases h
      cases repO_str s h1
      cases repO_str s h2
      exact .inr (.inl ⟨_, _, rfl, rfl, by assumption, q W H _ (.refl s) (.str _)⟩)
    · cases h
  · split at h
    · rename_i hl
      cases h
      obtain ⟨p, vs, rfl, hp, r1⟩ := repO_lst' s h1
      obtain ⟨p2, vs2, rfl, hp2, r2⟩ := repO_lst' s h2
      refine .inr (.inr (.inl ⟨p, p2, vs, vs2, rfl, rfl, hp, hp2, by rw [r1.length, r2.length]; exact leBig hl, fun n hn => ?_⟩))
      obtain ⟨t, nv⟩ := newV_ow s hn (r1.append r2)
      exact q _ _ _ t nv
    · cases h
  · split at h
    · rename_i xs ys hl
      cases h
      obtain ⟨p, vs, rfl, hp, r1⟩ := repO_tup h1
      obtain ⟨p2, vs2, rfl, hp2, r2⟩ := repO_tup h2
      refine .inr (.inr (.inr ⟨p, p2, vs, vs2, rfl, rfl, sqT_of (s _ _ hp), sqT_of (s _ _ hp2), by rw [r1.length, r2.length]; exact leBig hl, fun e => ?_, fun _ e => ?_, fun _ _ n hn => ?_⟩))
      · subst e
        cases r1
        exact q W H _ (.refl s) (.tup hp2 r2)
      · subst e
        cases r2
        exact q W H _ (.refl s) (by rw [List.append_nil]; exact .tup hp r1)
      · obtain ⟨t, nv⟩ := newV_sh s hn (r1.append r2)
        exact q _ _ _ t nv
    · cases h
  · cases h
theorem opd_sub {K : PySem.W.Frag} : OpD K (rI0 fun i j => V.int (i - j)) fSub := opd_I0
theorem opr_mul : OpR X (binaryOp .Mult) (fun x y H Q => rI CMul (fun i j => V.int (i * j)) x y H Q ∨ rI CMulW (fun i j => V.int (i * j)) x y H Q) := OpR.or op_mul op_mulW
theorem opd_mul {K : PySem.W.Frag} : OpD K (fun x y H Q => rI CMul (fun i j => V.int (i * j)) x y H Q ∨ rI CMulW (fun i j => V.int (i * j)) x y H Q) fMulI := by
  intro W H x y d1 d2 a Q s h1 h2 h q
  unfold fMulI fI at h
  split at h
  · split at h
    · rename_i i j c
      cases h
      cases repO_int s h1
      cases repO_int s h2
      have k := q W H _ (.refl s) newV_int
      rcases of_dec c with c | c | c
      · exact .inl ⟨_, _, rfl, rfl, .inl ⟨c.1, c.2⟩, k⟩
      · exact .inl ⟨_, _, rfl, rfl, .inr ⟨c.1, c.2⟩, k⟩
      · exact .inr ⟨_, _, rfl, rfl, c, k⟩
    · cases h
  · cases h
theorem opr_div : OpR X (binaryOp .FloorDiv) (fun x y H Q => rI CDiv (fun i j => V.int (i / j)) x y H Q ∨ rI CDivN (fun i j => V.int (i.fdiv j)) x y H Q ∨ rI CDivW (fun i j => V.int (i / j)) x y H Q) := OpR.or op_fdiv (OpR.or op_fdivN op_fdivW)
theorem opd_div {K : PySem.W.Frag} : OpD K (fun x y H Q => rI CDiv (fun i j => V.int (i / j)) x y H Q ∨ rI CDivN (fun i j => V.int (i.fdiv j)) x y H Q ∨ rI CDivW (fun i j => V.int (i / j)) x y H Q) fDiv := by
  intro W H x y d1 d2 a Q s h1 h2 h q
  unfold fDiv fI at h
  split at h
  · split at h
    · rename_i i j c
      cases h
      cases repO_int s h1
      cases repO_int s h2
      have k := q W H _ (.refl s) newV_int
      rcases of_dec c with c | c | c
      · exact .inl ⟨_, _, rfl, rfl, c, by rw [Int.fdiv_eq_ediv_of_nonneg _ (by omega)] at k; exact k⟩
      · exact .inr (.inr ⟨_, _, rfl, rfl, c, by rw [Int.fdiv_eq_ediv_of_nonneg _ (by omega)] at k; exact k⟩)
      · exact .inr (.inl ⟨_, _, rfl, rfl, c, k⟩)
    · cases h
  · cases h
theorem opr_mod : OpR X (binaryOp .Mod) (rI (fun _ j => j ≠ 0) fun i j => V.int (i.fmod j)) := op_modN
theorem opd_mod {K : PySem.W.Frag} : OpD K (rI (fun _ j => j ≠ 0) fun i j => V.int (i.fmod j)) fMod := opd_I (fun _ _ c => of_decide_eq_true c) fun _ _ _ => rfl
theorem opd_pow {K : PySem.W.Frag} : OpD K (rI CPow fun i j => V.int (i ^ j.toNat)) fPow := opd_I (fun i j c => by
  unfold cPow at c
  have c := of_dec c
  exact ⟨c.1, c.2.1, c.2.2⟩) fun _ _ _ => rfl
def fNeg : D → Option Val
  | .int i => some (.sh (.int (-i)))
  | _ => none
theorem und_neg {K : PySem.W.Frag} : UnD K (rU fun i => V.int (-i)) fNeg := by
  intro W H x d a Q s h1 h q
  unfold fNeg at h
  split at h
  · cases h
    cases repO_int s h1
    exact ⟨_, rfl, q W H _ (.refl s) newV_int⟩
  · cases h

/-! ### comparisons -/
def fC (g : Int → Int → Bool) : D → D → Option Val
  | .int i, .int j => some (.sh (.bl (g i j)))
  | _, _ => none
theorem opd_C {K : PySem.W.Frag} {g : Int → Int → Bool} : OpD K (rI0 fun i j => V.bl (g i j)) (fC g) := by
  intro W H x y d1 d2 a Q s h1 h2 h q
  unfold fC at h
  split at h
  · cases h
    cases repO_int s h1
    cases repO_int s h2
    exact ⟨_, _, rfl, rfl, q W H _ (.refl s) newV_bl⟩
  · cases h
noncomputable def fLt : D → D → Option Val := fC fun i j => dec (i < j)
noncomputable def fLe : D → D → Option Val := fC fun i j => dec (i ≤ j)
noncomputable def fGt : D → D → Option Val := fC fun i j => dec (j < i)
noncomputable def fGe : D → D → Option Val := fC fun i j => dec (j ≤ i)
theorem opd_Cd {K : PySem.W.Frag} {g : Int → Int → Bool} {g' : Int → Int → Bool} (h : ∀ i j, g i j = g' i j) : OpD K (rI0 fun i j => V.bl (g i j)) (fC g') := by
  have : g = g' := funext fun i => funext fun j => h i j
  subst this
  exact opd_C
theorem opd_lt {K : PySem.W.Frag} : OpD K (rI0 fun i j => V.bl (decide (i < j))) fLt := opd_Cd fun _ _ => (dec_eq _).symm
theorem opd_le {K : PySem.W.Frag} : OpD K (rI0 fun i j => V.bl (decide (i ≤ j))) fLe := opd_Cd fun _ _ => (dec_eq _).symm
theorem opd_gt {K : PySem.W.Frag} : OpD K (rI0 fun i j => V.bl (decide (j < i))) fGt := opd_Cd fun _ _ => (dec_eq _).symm
theorem opd_ge {K : PySem.W.Frag} : OpD K (rI0 fun i j => V.bl (decide (j ≤ i))) fGe := opd_Cd fun _ _ => (dec_eq _).symm
/-- data that can be compared -/
def D.ok (d : D) : Bool := d.plain && SeqAt.shaped d.py
def fEq (d1 d2 : D) : Option Val := if d1.ok = true ∧ d2.ok = true then some (.sh (.bl (d1.py.eqv d2.py))) else none
def fNe (d1 d2 : D) : Option Val := if d1.ok = true ∧ d2.ok = true then some (.sh (.bl !(d1.py.eqv d2.py))) else none
theorem opd_eq {K : PySem.W.Frag} : OpD K (rEqD K) fEq := by
  intro W H x y d1 d2 a Q s h1 h2 h q
  unfold fEq at h
  split at h
  · rename_i c
    cases h
    obtain ⟨c1, c2⟩ := c
    obtain ⟨a1, b1⟩ := Bool.and_eq_true_iff.mp c1
    obtain ⟨a2, b2⟩ := Bool.and_eq_true_iff.mp c2
    exact ⟨_, _, dp_of (h1.rep s) a1, dp_of (h2.rep s) a2, b1, b2, q W H _ (.refl s) newV_bl⟩
  · cases h
theorem opd_ne {K : PySem.W.Frag} : OpD K (rNeD K) fNe := by
  intro W H x y d1 d2 a Q s h1 h2 h q
  unfold fNe at h
  split at h
  · rename_i c
    cases h
    obtain ⟨c1, c2⟩ := c
    obtain ⟨a1, b1⟩ := Bool.and_eq_true_iff.mp c1
    obtain ⟨a2, b2⟩ := Bool.and_eq_true_iff.mp c2
    exact ⟨_, _, dp_of (h1.rep s) a1, dp_of (h2.rep s) a2, b1, b2, q W H _ (.refl s) newV_bl⟩
  · cases h
def D.isNon : D → Bool
  | .non => true
  | _ => false
def D.noOp : D → Bool
  | .op _ => false
  | _ => true
theorem isN_of {K : PySem.W.Frag} {H : Hp} {v : V} {d : D} (h : Rep K H v d) (n : d.noOp = true) : decide (v = .non) = d.isNon := by
  cases h <;> first | rfl | cases n | simp [D.isNon]
def fIsN (d1 d2 : D) : Option Val := if d1.noOp = true ∧ d2.isNon = true then some (.sh (.bl d1.isNon)) else none
def fNotN (d1 d2 : D) : Option Val := if d1.noOp = true ∧ d2.isNon = true then some (.sh (.bl !d1.isNon)) else none
theorem non_of {K : PySem.W.Frag} {H : Hp} {v : V} {d : D} (h : Rep K H v d) (n : d.isNon = true) : v = .non := by
  cases h <;> first | rfl | cases n
theorem opd_isN {K : PySem.W.Frag} : OpD K (fun x y H Q => y = V.non ∧ Q (V.bl (decide (x = V.non))) H) fIsN := by
  intro W H x y d1 d2 a Q s h1 h2 h q
  unfold fIsN at h
  split at h
  · rename_i c
    cases h
    refine ⟨non_of (h2.rep s) c.2, ?_⟩
    rw [isN_of (h1.rep s) c.1]
    exact q W H _ (.refl s) newV_bl
  · cases h
theorem opd_notN {K : PySem.W.Frag} : OpD K (fun x y H Q => y = V.non ∧ Q (V.bl !(decide (x = V.non))) H) fNotN := by
  intro W H x y d1 d2 a Q s h1 h2 h q
  unfold fNotN at h
  split at h
  · rename_i c
    cases h
    refine ⟨non_of (h2.rep s) c.2, ?_⟩
    rw [isN_of (h1.rep s) c.1]
    exact q W H _ (.refl s) newV_bl
  · cases h
end
end VS

/-! VJ: in, not in, subscripts, slices, built-ins by data. -/
namespace VS
open PySem PySem.Spec PyProof.Rows L2

theorem not_in {P : Program} {w : World} {A : Around} {c x : Value} {Q : Value → Shared → Prop} {E : Value → Shared → Prop} {s : Shared} (h : wpAny (model P w) A (compareOp .In x c) (fun v s' => ∃ b, v = .bool b ∧ Q (.bool !b) s') E s) : wpAny (model P w) A (compareOp .NotIn x c) Q E s := by
  intro Γ p hg
  have h2 : Sem.wp (model P w) Γ (Sem.bind (contains c x) fun r => .pure (Value.bool r)) (fun v _ s' => ∃ b, v = Value.bool b ∧ Q (.bool !b) s') (fun e _ s' => E e s') p s := h Γ p hg
  show Sem.wp (model P w) Γ (Sem.bind (contains c x) fun r => .pure (Value.bool !r)) (fun v _ s' => Q v s') (fun e _ s' => E e s') p s
  rw [Sem.wp_bind] at h2 ⊢
  refine Sem.wp_mono _ _ _ ?_ (fun _ _ _ h => h) _ _ h2
  intro a p' s' h3
  have h3 : ∃ b, Value.bool a = Value.bool b ∧ Q (.bool !b) s' := h3
  obtain ⟨b, e, q⟩ := h3
  cases e
  exact q
section
variable {X : Cx}
/-! ### in, not in -/
def rInT (K : PySem.W.Frag) : R2 := fun x y H Q => ∃ d ds, Dp K H x d ∧ Dp K H y (.tuple ds) ∧ SeqAt.shaped d = true ∧ SeqAt.shaped (.tuple ds) = true ∧ Q (.bl (ds.any fun z => z.eqv d)) H
theorem shaped_of {d : PyData} (h : SeqAt.shaped d = true) : d.canLay0 = true ∧ d.depth ≤ 64 := by
  obtain ⟨a, b⟩ := Bool.and_eq_true_iff.mp h
  exact ⟨a, of_decide_eq_true b⟩
theorem op_inT (hu : X.A.units + 65 < cLine) : OpR X (compareOp .In) (rInT X.K) := by
  rintro pins s σ H x y v u Q I rx ry ⟨d, ds, h1, h2, s1, s2, q⟩
  obtain ⟨as, r1⟩ := Dp.reads I d x v h1 rx
  obtain ⟨bs, r2⟩ := Dp.reads I _ y u h2 ry
  refine SeqAt.in_tuple_reads r2 r1 (shaped_of s2).1 (shaped_of s1).1 ?_ ⟨.bl _, H, I, rfl, q⟩
  have := (shaped_of s1).2
  have := Nat.min_le_right (PyData.depthAll ds) d.depth
  omega
def rNotInT (K : PySem.W.Frag) : R2 := fun x y H Q => ∃ d ds, Dp K H x d ∧ Dp K H y (.tuple ds) ∧ SeqAt.shaped d = true ∧ SeqAt.shaped (.tuple ds) = true ∧ Q (.bl !(ds.any fun z => z.eqv d)) H
theorem op_notInT (hu : X.A.units + 65 < cLine) : OpR X (compareOp .NotIn) (rNotInT X.K) := by
  rintro pins s σ H x y v u Q I rx ry ⟨d, ds, h1, h2, s1, s2, q⟩
  refine not_in ?_
  refine wpAny_mono (op_inT hu pins s σ H x y v u (fun v' H' => ∃ b, v' = .bl b ∧ Q (.bl !b) H') I rx ry ⟨d, ds, h1, h2, s1, s2, _, rfl, q⟩) (fun a s' h => ?_) fun _ _ h => h
  obtain ⟨v', H', I', r', b, e, q⟩ := h
  subst e
  exact ⟨b, r', .bl _, H', I', rfl, q⟩
def rInK : R2 := fun x y H Q => ∃ a o, y = .ref a ∧ DGet H a x o ∧ Q (.bl o.isSome) H
def rNotInK : R2 := fun x y H Q => ∃ a o, y = .ref a ∧ DGet H a x o ∧ Q (.bl !o.isSome) H
theorem op_inK (hu : X.A.units + 65 < cLine) : OpR X (compareOp .In) rInK := by
  rintro pins s σ H x y v u Q I rx ry ⟨a, o, rfl, g, q⟩
  cases (show u = .ref a from ry)
  exact d_in (by omega) I g rx fun s' I' => ⟨.bl _, H, I', rfl, q⟩
theorem op_notInK (hu : X.A.units + 65 < cLine) : OpR X (compareOp .NotIn) rNotInK := by
  rintro pins s σ H x y v u Q I rx ry ⟨a, o, rfl, g, q⟩
  cases (show u = .ref a from ry)
  exact d_notIn (by omega) I g rx fun s' I' => ⟨.bl _, H, I', rfl, q⟩
abbrev rInStr (neg : Bool) : R2 := fun x y H Q => ∃ i j, x = V.str i ∧ y = V.str j ∧ Q (V.bl (if neg then !(!(Builtin.Str.occurrences j i 0 j.length 1).isEmpty) else !(Builtin.Str.occurrences j i 0 j.length 1).isEmpty)) H
/-- a key looked up -/
def keyOf (d k : D) : Option (Option D) := match d with
  | .dct false l => (keyK k).map fun q => lookD keyK l q
  | .dct true l => (keyT k).map fun q => lookD keyT l q
  | _ => none
theorem get_ok {K : PySem.W.Frag} {W H : Hp} {x y : V} {d k : D} {o : Option D} (s : Sub W H) (h1 : RepO K W H x d) (h2 : RepO K W H y k) (h : keyOf d k = some o) : ∃ a r, x = .ref a ∧ DGet H a y r ∧ IsD H a ∧
    ((r = none ∧ o = none) ∨ ∃ v q, r = some v ∧ o = some q ∧ Rep K W v q) := by
  have ry := h2.rep s
  have base : ∀ {t l}, d = .dct t l → ∃ a, x = .ref a ∧ ((t = false ∧ ∃ kvs, Rd H a (.dK kvs) ∧ RepsK K W kvs l) ∨ (t = true ∧ ∃ kvs, Rd H a (.dT kvs) ∧ RepsT K W kvs l)) := by
    rintro t l rfl
    rcases h1 with h1 | ⟨p, rfl, h1⟩
    · cases h1 with
      | dK hr r => exact ⟨_, rfl, .inl ⟨rfl, _, s.rd hr, r⟩⟩
      | dT hr r => exact ⟨_, rfl, .inr ⟨rfl, _, s.rd hr, r⟩⟩
    · cases t
      · obtain ⟨kvs, a, b⟩ := h1; exact ⟨_, rfl, .inl ⟨rfl, kvs, .inl a, b⟩⟩
      · obtain ⟨kvs, a, b⟩ := h1; exact ⟨_, rfl, .inr ⟨rfl, kvs, .inl a, b⟩⟩
  unfold keyOf at h
  split at h
  · rename_i l
    obtain ⟨a, rfl, c⟩ := base rfl
    rcases c with ⟨_, kvs, hr, rk⟩ | ⟨z, _⟩
    · cases q : keyK k with
      | none => rw [q] at h; cases h
      | some kk =>
        rw [q] at h
        cases h
        have ek := keyK_some q
        subst ek
        have ey : y = kV kk := by
          cases kk with
          | inl z => cases (show Rep K H y (.int z) from ry); rfl
          | inr z => cases (show Rep K H y (.str z) from ry); rfl
        refine ⟨a, _, rfl, .inl ⟨kvs, kk, hr, ey, rfl⟩, .inl ⟨kvs, hr⟩, ?_⟩
        rcases lookK_ok rk kk with ⟨z1, z2⟩ | ⟨v, dd, z1, z2, z3⟩
        · exact .inl ⟨z1, z2⟩
        · exact .inr ⟨v, dd, z1, z2, z3⟩
    · cases z
  · rename_i l
    obtain ⟨a, rfl, c⟩ := base rfl
    rcases c with ⟨z, _⟩ | ⟨_, kvs, hr, rk⟩
    · cases z
    · cases q : keyT k with
      | none => rw [q] at h; cases h
      | some kk =>
        rw [q] at h
        cases h
        have ek := keyT_some q
        subst ek
        cases (show Rep K H y (.tup (kk.map kD)) from ry) with
        | tup ha rs =>
          rename_i ad vs
          have ev : vs = kk.map kV := keys_vals rs
          subst ev
          refine ⟨a, _, rfl, .inr ⟨kvs, kk, ad, hr, rfl, ha, rfl⟩, .inr ⟨kvs, hr⟩, ?_⟩
          rcases lookT_ok rk kk with ⟨z1, z2⟩ | ⟨v, dd, z1, z2, z3⟩
          · exact .inl ⟨z1, z2⟩
          · exact .inr ⟨v, dd, z1, z2, z3⟩
  · cases h
/-- is it in? -/
def isIn : D → D → Option Bool
  | d, .lst ds => if d.ok = true ∧ (D.lst ds).ok = true then some ((pys ds).any fun z => z.eqv d.py) else none
  | d, .fl ds => if d.ok = true ∧ (D.lst ds).ok = true then some ((pys ds).any fun z => z.eqv d.py) else none
  | d, .tup ds => if d.ok = true ∧ (D.tup ds).ok = true then some ((pys ds).any fun z => z.eqv d.py) else none
  | .str x, .str y => some !(Builtin.Str.occurrences y x 0 y.length 1).isEmpty
  | d, .dct t l => (keyOf (.dct t l) d).map Option.isSome
  | _, _ => none
def fIn (d1 d2 : D) : Option Val := (isIn d1 d2).map fun b => .sh (.bl b)
def fNotIn (d1 d2 : D) : Option Val := (isIn d1 d2).map fun b => .sh (.bl !b)
abbrev rInA (K : PySem.W.Frag) : R2 := fun x y H Q => rInD K x y H Q ∨ rInT K x y H Q ∨ rInK x y H Q ∨ (∃ i j, x = V.str i ∧ y = V.str j ∧ Q (V.bl !(Builtin.Str.occurrences j i 0 j.length 1).isEmpty) H)
abbrev rNotInA (K : PySem.W.Frag) : R2 := fun x y H Q => rNotInD K x y H Q ∨ rNotInT K x y H Q ∨ rNotInK x y H Q ∨ (∃ i j, x = V.str i ∧ y = V.str j ∧ Q (V.bl !!(Builtin.Str.occurrences j i 0 j.length 1).isEmpty) H)
theorem opr_in (hu : X.A.units + 65 < cLine) : OpR X (compareOp .In) (rInA X.K) := OpR.or (op_inD hu) (OpR.or (op_inT hu) (OpR.or (op_inK hu) op_in_str))
theorem opr_notIn (hu : X.A.units + 65 < cLine) : OpR X (compareOp .NotIn) (rNotInA X.K) := OpR.or (op_notInD hu) (OpR.or (op_notInT hu) (OpR.or (op_notInK hu) op_notin_str))
theorem ok_of {d : D} (h : d.ok = true) : d.plain = true ∧ SeqAt.shaped d.py = true := Bool.and_eq_true_iff.mp h
theorem isIn_ok {K : PySem.W.Frag} {W H : Hp} {x y : V} {d1 d2 : D} {b : Bool} {Q : VK} {g : Bool → Bool} (s : Sub W H) (h1 : RepO K W H x d1) (h2 : RepO K W H y d2) (h : isIn d1 d2 = some b) (q : Q (.bl (g b)) H) :
    (∃ d ds, Dp K H x d ∧ Dp K H y (.list ds) ∧ SeqAt.shaped d = true ∧ SeqAt.shaped (.list ds) = true ∧ Q (.bl (g (ds.any fun z => z.eqv d))) H) ∨
    (∃ d ds, Dp K H x d ∧ Dp K H y (.tuple ds) ∧ SeqAt.shaped d = true ∧ SeqAt.shaped (.tuple ds) = true ∧ Q (.bl (g (ds.any fun z => z.eqv d))) H) ∨
    (∃ a o, y = .ref a ∧ DGet H a x o ∧ Q (.bl (g o.isSome)) H) ∨ (∃ i j, x = V.str i ∧ y = V.str j ∧ Q (V.bl (g !(Builtin.Str.occurrences j i 0 j.length 1).isEmpty)) H) := by
  unfold isIn at h
  split at h
  · split at h
    · rename_i c
      cases h
      obtain ⟨c1, c2⟩ := c
      exact .inl ⟨_, _, dp_of (h1.rep s) (ok_of c1).1, dp_of (h2.rep s) (ok_of c2).1, (ok_of c1).2, (ok_of c2).2, q⟩
    · cases h
  · split at h
    · rename_i c
      cases h
      obtain ⟨c1, c2⟩ := c
      exact .inl ⟨_, _, dp_of (h1.rep s) (ok_of c1).1, dp_of (h2.rep s) (ok_of c2).1, (ok_of c1).2, (ok_of c2).2, q⟩
    · cases h
  · split at h
    · rename_i c
      cases h
      obtain ⟨c1, c2⟩ := c
      exact .inr (.inl ⟨_, _, dp_of (h1.rep s) (ok_of c1).1, dp_of (h2.rep s) (ok_of c2).1, (ok_of c1).2, (ok_of c2).2, q⟩)
    · cases h
  · cases h
    exact .inr (.inr (.inr ⟨_, _, repO_str s h1, repO_str s h2, q⟩))
  · cases q0 : keyOf (.dct _ _) d1 with
    | none => rw [q0] at h; cases h
    | some o =>
      rw [q0] at h
      cases h
      obtain ⟨a, r, e, g1, _, c⟩ := get_ok s h2 h1 q0
      refine .inr (.inr (.inl ⟨a, r, e, g1, ?_⟩))
      have : r.isSome = o.isSome := by
        rcases c with ⟨rfl, rfl⟩ | ⟨_, _, rfl, rfl, _⟩ <;> rfl
      rw [this]
      exact q
  · cases h
theorem opd_in {K : PySem.W.Frag} : OpD K (rInA K) fIn := by
  intro W H x y d1 d2 a Q s h1 h2 h q
  unfold fIn at h
  cases q0 : isIn d1 d2 with
  | none => rw [q0] at h; cases h
  | some b =>
    rw [q0] at h
    cases h
    exact isIn_ok (g := fun b => b) s h1 h2 q0 (q W H _ (.refl s) newV_bl)
theorem opd_notIn {K : PySem.W.Frag} : OpD K (rNotInA K) fNotIn := by
  intro W H x y d1 d2 a Q s h1 h2 h q
  unfold fNotIn at h
  cases q0 : isIn d1 d2 with
  | none => rw [q0] at h; cases h
  | some b =>
    rw [q0] at h
    cases h
    exact isIn_ok (g := fun b => !b) s h1 h2 q0 (q W H _ (.refl s) newV_bl)

/-! ### subscripts -/
def fIxS : D → D → Option Val
  | .lst ds, .int i => (atI ds i).map .sh
  | .fl ds, .int i => (atI ds i).map .sh
  | .tup ds, .int i => (atI ds i).map .sh
  | .str z, .int i => if z.length ≤ sizeLine then (atI z.cps.toList i).map fun c => .sh (.str { cps := #[c] }) else none
  | _, _ => none
def fIxD (d k : D) : Option Val := match keyOf d k with
  | some (some q) => some (.sh q)
  | _ => none
def D.isDct : D → Bool
  | .dct _ _ => true
  | _ => false
def fIx (d k : D) : Option Val := if d.isDct then fIxD d k else fIxS d k
theorem atI_reps {K : PySem.W.Frag} {H : Hp} {vs : List V} {ds : List D} {i : Int} {d : D} (r : Reps K H vs ds) (h : atI ds i = some d) : ∃ v, atI vs i = some v ∧ Rep K H v d := by
  unfold atI at h ⊢
  rw [r.length]
  cases q : ixN ds.length i with
  | none => rw [q] at h; cases h
  | some j =>
    rw [q, Option.bind_some] at h
    exact r.get h
theorem opd_ixS {K : PySem.W.Frag} : OpD K (rIx K) fIxS := by
  intro W H x y d1 d2 a Q s h1 h2 h q
  unfold fIxS at h
  split at h
  · rename_i ds i
    cases q0 : atI ds i with
    | none => rw [q0] at h; cases h
    | some d =>
      rw [q0] at h
      cases h
      obtain ⟨p, vs, rfl, hp, r⟩ := repO_lst' s h1
      obtain ⟨v, hv, rv⟩ := atI_reps r q0
      exact .inl ⟨p, vs, i, v, rfl, repO_int s h2, sqL_of hp, hv, q W H v (.refl s) rv⟩
  · rename_i ds i
    cases q0 : atI ds i with
    | none => rw [q0] at h; cases h
    | some d =>
      rw [q0] at h
      cases h
      obtain ⟨p, vs, rfl, hp, r⟩ := repO_fl h1
      obtain ⟨v, hv, rv⟩ := atI_reps r q0
      exact .inl ⟨p, vs, i, v, rfl, repO_int s h2, s.sqL hp, hv, q W H v (.refl s) rv⟩
  · rename_i ds i
    cases q0 : atI ds i with
    | none => rw [q0] at h; cases h
    | some d =>
      rw [q0] at h
      cases h
      obtain ⟨p, vs, rfl, hp, r⟩ := repO_tup h1
      obtain ⟨v, hv, rv⟩ := atI_reps r q0
      exact .inr (.inl ⟨p, vs, i, v, rfl, repO_int s h2, sqT_of (s _ _ hp), hv, q W H v (.refl s) rv⟩)
  · rename_i z i
    split at h
    · rename_i c
      cases q0 : atI z.cps.toList i with
      | none => rw [q0] at h; cases h
      | some d =>
        rw [q0] at h
        cases h
        exact .inr (.inr ⟨z, i, d, repO_str s h1, repO_int s h2, c, q0, q W H _ (.refl s) (.str _)⟩)
    · cases h
  · cases h
def rGet : R2 := fun x y H Q => ∃ a v, x = V.ref a ∧ DGet H a y (some v) ∧ Q v H
theorem opd_ixD {K : PySem.W.Frag} : OpD K rGet fIxD := by
  intro W H x y d1 d2 a Q s h1 h2 h q
  unfold fIxD at h
  split at h
  · rename_i qd q0
    cases h
    obtain ⟨a, r, e, g, _, c⟩ := get_ok s h1 h2 q0
    rcases c with ⟨_, z⟩ | ⟨v, qd', e1, e2, rv⟩
    · cases z
    · cases e2
      subst e1
      exact ⟨a, v, e, g, q W H v (.refl s) rv⟩
  · cases h
theorem m2_split {f f1 f2 : D → D → Option Val} {k : D → D → Bool} (h1 : ∀ a b, k a b = true → f a b = f1 a b) (h2 : ∀ a b, k a b = false → f a b = f2 a b) (ma mb : M Val) (e : Env) : m2 f ma mb e = m2 f1 ma mb e ∨ m2 f ma mb e = m2 f2 ma mb e := by
  unfold m2 M.bind
  cases ma e with
  | no => exact .inl rfl
  | ex x e' => exact .inl rfl
  | ok a e1 =>
    simp only
    cases mb e1 with
    | no => exact .inl rfl
    | ex x e' => exact .inl rfl
    | ok b e2 =>
      simp only
      cases look e2 (hold a) with
      | none => exact .inl rfl
      | some d1 =>
        cases look e2 b with
        | none => exact .inl rfl
        | some d2 =>
          simp only
          cases z : k d1 d2 with
          | true => rw [h1 d1 d2 z]; exact .inl rfl
          | false => rw [h2 d1 d2 z]; exact .inr rfl
theorem rdE_at {m m1 m2 : M Val} {Wx : WX} {σ : L2.St} {H : Hp} {Q : VK} (h : rdE X Wx m σ H Q) (k : ∀ e, m e = m1 e ∨ m e = m2 e) : rdE X Wx m1 σ H Q ∨ rdE X Wx m2 σ H Q := by
  obtain ⟨fg, la, W, e, rl, h⟩ := h
  rcases k e with z | z
  · exact .inl ⟨fg, la, W, e, rl, by rw [← z]; exact h⟩
  · exact .inr ⟨fg, la, W, e, rl, by rw [← z]; exact h⟩
theorem PE.or {e : Expr} {t t' : TE} (h : PE X e t) (h' : PE X e t') : PE X e (fun σ H Q => t σ H Q ∨ t' σ H Q) := ⟨fun pins s σ H Q I q => by
  rcases q with q | q
  · exact h.run pins s σ H Q I q
  · exact h'.run pins s σ H Q I q⟩
theorem de_sub {Wx : WX} {a b : Expr} {ma mb : M Val} {pos : Pos} (hu : X.A.units + 1 < cLine) (ha : DE X Wx a ma) (hb : DE X Wx b mb) (hs : PlainIx b := by intro _ _; rfl) : DE X Wx (.Subscript a b pos) (m2 fIx ma mb) :=
  PE.wk (PE.or (pe_dget hu ha hb hs) (pe_ix ix_seq ha hb hs)) fun σ H Q h => by
    rcases rdE_at h (m2_split (f1 := fIxD) (f2 := fIxS) (k := fun a _ => a.isDct) (fun a b z => by unfold fIx; rw [if_pos z]) (fun a b z => by unfold fIx; rw [if_neg (by rw [z]; exact Bool.false_ne_true)]) ma mb) with h | h
    · exact .inl (rd2 (r := rGet) opd_ixD h)
    · exact .inr (rd2 opd_ixS h)

/-! ### slices -/
def cutD (xs : List D) (lo hi : Option Int) : List D := List.take (HT.sIx xs.length xs.length hi - HT.sIx xs.length 0 lo) (List.drop (HT.sIx xs.length 0 lo) xs)
theorem cut_reps {K : PySem.W.Frag} {H : Hp} {vs : List V} {ds : List D} (r : Reps K H vs ds) (lo hi : Option Int) : Reps K H (cutV vs lo hi) (cutD ds lo hi) := by
  unfold cutV cutD
  rw [r.length]
  exact (r.drop _).take _
def fSl : D → Option Int → Option Int → Option Val
  | .lst ds, lo, hi => some (.ow (.lst (cutD ds lo hi)))
  | .fl ds, lo, hi => some (.ow (.lst (cutD ds lo hi)))
  | .tup ds, lo, hi => some (.sh (.tup (cutD ds lo hi)))
  | .str z, lo, hi => if z.length ≤ sizeLine then some (.sh (.str (cutS z lo hi))) else none
  | _, _, _ => none
theorem SlR.or {r r' : V → Option Int → Option Int → Hp → VK → Prop} (h : SlR X r) (h' : SlR X r') : SlR X (fun x lo hi H Q => r x lo hi H Q ∨ r' x lo hi H Q) := by
  intro pins s σ H x v vl vu lo hi sl Q I rx a b c q
  rcases q with q | q
  · exact h pins s σ H x v vl vu lo hi sl Q I rx a b c q
  · exact h' pins s σ H x v vl vu lo hi sl Q I rx a b c q
abbrev rSl (K : PySem.W.Frag) : V → Option Int → Option Int → Hp → VK → Prop := fun x lo hi H Q => rSlL K x lo hi H Q ∨ rSlA K x lo hi H Q ∨ rSlS x lo hi H Q
theorem slr_all : SlR X (rSl X.K) := SlR.or sl_list (SlR.or sl_tupA sl_str)
theorem cutD_whole {ds : List D} {lo hi : Option Int} (h : HT.sIx ds.length 0 lo = 0 ∧ HT.sIx ds.length ds.length hi = ds.length) : cutD ds lo hi = ds := by
  unfold cutD
  rw [h.1, h.2, List.drop_zero, Nat.sub_zero, List.take_length]
theorem sld_all {K : PySem.W.Frag} : SlD K (rSl K) fSl := by
  intro W H x d lo hi a Q s h1 h q
  unfold fSl at h
  split at h
  · cases h
    obtain ⟨p, vs, rfl, hp, r⟩ := repO_lst' s h1
    refine .inl ⟨p, vs, rfl, sqL_of hp, fun n hn => ?_⟩
    obtain ⟨t, nv⟩ := newV_ow s hn (cut_reps r _ _)
    exact q _ _ _ t nv
  · cases h
    obtain ⟨p, vs, rfl, hp, r⟩ := repO_fl h1
    refine .inl ⟨p, vs, rfl, s.sqL hp, fun n hn => ?_⟩
    obtain ⟨t, nv⟩ := newV_ow s hn (cut_reps r _ _)
    exact q _ _ _ t nv
  · cases h
    obtain ⟨p, vs, rfl, hp, r⟩ := repO_tup h1
    refine .inr (.inl ⟨p, vs, rfl, sqT_of (s _ _ hp), fun e => ?_, fun _ n hn => ?_⟩)
    · rw [r.length] at e
      exact q W H _ (.refl s) (by rw [cutD_whole e]; exact .tup hp r)
    · obtain ⟨t, nv⟩ := newV_sh s hn (cut_reps r _ _)
      exact q _ _ _ t nv
  · split at h
    · rename_i c
      cases h
      exact .inr (.inr ⟨_, repO_str s h1, c, q W H _ (.refl s) (.str _)⟩)
    · cases h
  · cases h
theorem de_sl {Wx : WX} {e : Expr} {lo hi : Option Expr} {m : M Val} {ml mh : Option (M Val)} {p2 pos : Pos} (he : DE X Wx e m) (hl : DO X Wx lo ml) (hh : DO X Wx hi mh) : DE X Wx (.Subscript e (.Slice lo hi none p2) pos) (mSl fSl m ml mh) := de_slice slr_all sld_all he hl hh
end
end VS

/-! VK: built-ins by data. -/
namespace VS
open PySem PySem.Spec PyProof.Rows L2

section
variable {K : PySem.W.Frag} {W H : Hp}
/-! ### len -/
def seqD : D → Option (List D)
  | .lst ds => some ds
  | .fl ds => some ds
  | .tup ds => some ds
  | _ => none
theorem seq_ok {x : V} {d : D} {ds : List D} (s : Sub W H) (h : RepO K W H x d) (e : seqD d = some ds) : ∃ p vs, x = .ref p ∧ (SqL K H p vs ∨ SqT K H p vs) ∧ Reps K W vs ds := by
  cases d with
  | lst _ => cases e; obtain ⟨p, vs, h1, h2, h3⟩ := repO_lst' s h; exact ⟨p, vs, h1, .inl (sqL_of h2), h3⟩
  | fl _ => cases e; obtain ⟨p, vs, h1, h2, h3⟩ := repO_fl h; exact ⟨p, vs, h1, .inl (s.sqL h2), h3⟩
  | tup _ => cases e; obtain ⟨p, vs, h1, h2, h3⟩ := repO_tup h; exact ⟨p, vs, h1, .inr (sqT_of (s _ _ h2)), h3⟩
  | _ => cases e
def lstD : D → Option (List D)
  | .lst ds => some ds
  | .fl ds => some ds
  | _ => none
theorem lst_ok {x : V} {d : D} {ds : List D} (s : Sub W H) (h : RepO K W H x d) (e : lstD d = some ds) : ∃ p vs, x = .ref p ∧ SqL K H p vs ∧ Reps K W vs ds := by
  cases d with
  | lst _ => cases e; obtain ⟨p, vs, h1, h2, h3⟩ := repO_lst' s h; exact ⟨p, vs, h1, sqL_of h2, h3⟩
  | fl _ => cases e; obtain ⟨p, vs, h1, h2, h3⟩ := repO_fl h; exact ⟨p, vs, h1, s.sqL h2, h3⟩
  | _ => cases e
theorem repO_dct {x : V} {t : Bool} {l : List (D × D)} (s : Sub W H) (h : RepO K W H x (.dct t l)) : ∃ p, x = .ref p ∧ ((t = false ∧ ∃ kvs, Rd H p (.dK kvs) ∧ RepsK K W kvs l) ∨ (t = true ∧ ∃ kvs, Rd H p (.dT kvs) ∧ RepsT K W kvs l)) := by
  rcases h with h1 | ⟨p, rfl, h1⟩
  · cases h1 with
    | dK hr r => exact ⟨_, rfl, .inl ⟨rfl, _, s.rd hr, r⟩⟩
    | dT hr r => exact ⟨_, rfl, .inr ⟨rfl, _, s.rd hr, r⟩⟩
  · cases t
    · obtain ⟨kvs, a, b⟩ := h1; exact ⟨_, rfl, .inl ⟨rfl, kvs, .inl a, b⟩⟩
    · obtain ⟨kvs, a, b⟩ := h1; exact ⟨_, rfl, .inr ⟨rfl, kvs, .inl a, b⟩⟩
def lenD : D → Option Nat
  | .lst ds => some ds.length
  | .fl ds => some ds.length
  | .tup ds => some ds.length
  | .str z => if z.length ≤ sizeLine then some z.length else none
  | .dct _ l => some l.length
  | _ => none
def fLen (ds : List D) : Option Val := match ds with
  | [d] => (lenD d).map fun n => .sh (.int n)
  | _ => none
abbrev rLenA (K : PySem.W.Frag) : List V → Hp → VK → Prop := fun xs H Q => (∃ p ys, xs = [V.ref p] ∧ (SqL K H p ys ∨ SqT K H p ys) ∧ Q (V.int ys.length) H) ∨ (∃ z : Str, xs = [V.str z] ∧ z.length ≤ sizeLine ∧ Q (V.int z.length) H) ∨
  (∃ a kvs, xs = [V.ref a] ∧ Rd H a (.dK kvs) ∧ Q (V.int kvs.length) H) ∨ (∃ a kvs, xs = [V.ref a] ∧ Rd H a (.dT kvs) ∧ Q (V.int kvs.length) H)
end
section
variable {X : Cx}
theorem rd_lenK : CallR X (.builtin "len") fun xs H Q => ∃ a kvs, xs = [V.ref a] ∧ Rd H a (.dK kvs) ∧ Q (V.int kvs.length) H := by
  rintro pins s σ H xs us Q I r ⟨a, kvs, rfl, h, q⟩
  obtain ⟨u, rfl, ru⟩ := L2.vals1 r
  cases (show u = .ref a from ru)
  exact d_len I h fun t s' I' => ⟨.int _, H, I', ⟨t, rfl⟩, q⟩
theorem KT.len {H : Hp} : ∀ {kvs : List (List Key × V)} {xs : List (List Key × Addr × Value)}, KT H kvs xs → kvs.length = xs.length := by
  intro kvs xs h
  induction h with
  | nil => rfl
  | cons _ _ ih => rw [List.length_cons, List.length_cons, ih]
/-- a dict's length, whatever its keys are -/
theorem len_raw {P : Program} {w : World} {A : Around} {E : Value → Shared → Prop} {s : Shared} {d : Addr} {o : Obj} {es : Array DictEntry} {ep : Nat} {Q : Value → Shared → Prop} (hd : (d == sysModules) = false) (ho : s.heap.get? d = some o) (hc : o.ExactDict) (hdat : o.data = .dict es ep)
    (hf : (es.size : Int) < 2 ^ 63) (h : Q (.int es.size (s.toks + 1)) { s with toks := s.toks + 1 + 1 }) : wpAny (model P w) A (call (.builtin "len") [.ref d]) Q E s := by
  have ty : s.TypeIs (.ref d) "dict" := ⟨o, ho, hc.1⟩
  have meets : MeetsIn P w (Builtin.«dict.__len__» { pos := [Value.ref d] }) fun _ R s1 => s1.heap.get? d = some o ∧ R (.ok (.ret (.int es.size s1.toks))) { s1 with toks := s1.toks + 1 } :=
    MeetsIn.of_wp fun A' R s1 z => by
      obtain ⟨ho1, z⟩ := z
      show wpAny (model P w) A'.in1 (dictSize d >>= fun n => Builtin.Dict.pendingCount d >>= fun p => retInt ((n : Int) + (p : Int))) _ _ s1
      refine wpAny_bind (wpAny_bind (wpAny_dictEntries ho1 hdat (wpAny_pure (wpAny_bind (wpAny_pendingCount_other hd (wpAny_ret_mkInt ?_))))))
      rw [show ((es.size : Int) + ((0 : Nat) : Int)) = es.size by omega]
      exact z
  refine Calls.call_function_entry kind_len plain_len entry_len (args_len1 (.ref d)) ?_
  refine wpAny_bind (wpAny_pure (wpAny_bind ?_))
  refine wpAny_callSpecial?_slot ty F.slot_dict_len (call_meetsIn F.slot_dict_len ty F.entry_dict_len (F.args_dict_len_1 (.ref d)) meets ⟨ho, ?_⟩)
  refine wpAny_bind (wpAny_holding (wpAny_pure (wpAny_bind (wpAny_letGo ?_))))
  show wpAny _ _ (if _ then _ else _) _ _ _
  rw [if_neg (by omega), if_neg (by omega)]
  exact wpAny_bind (wpAny_mkInt (wpAny_pure ⟨_, rfl, h⟩))
theorem rd_lenT : CallR X (.builtin "len") fun xs H Q => ∃ a kvs, xs = [V.ref a] ∧ Rd H a (.dT kvs) ∧ Q (V.int kvs.length) H := by
  rintro pins s σ H xs us Q I r ⟨a, kvs, rfl, h, q⟩
  obtain ⟨u, rfl, ru⟩ := L2.vals1 r
  cases (show u = .ref a from ru)
  obtain ⟨hl, hm, ys, kt, o, es, ep, ho, hc, hdat, hes, _, _⟩ := dt_rd I.hok h
  have hz : es.size = kvs.length := by
    rw [KT.len kt, ← Array.length_toList, hes, List.length_map]
  rw [sizeLine_eq] at hl
  refine len_raw hm ho hc hdat (by omega) ⟨.int _, H, I.tok _, ⟨_, rfl⟩, ?_⟩
  rw [hz]; exact q
theorem cr_lenA : CallR X (.builtin "len") (rLenA X.K) := CallR.or call_len_seq (CallR.or call_len_str (CallR.or rd_lenK rd_lenT))
theorem RepOs.one {K : PySem.W.Frag} {W H : Hp} {vs : List V} {d : D} (h : RepOs K W H vs [d]) : ∃ v, vs = [v] ∧ RepO K W H v d := by
  cases h with
  | cons r t => cases t; exact ⟨_, rfl, r⟩
theorem RepOs.two {K : PySem.W.Frag} {W H : Hp} {vs : List V} {d d2 : D} (h : RepOs K W H vs [d, d2]) : ∃ v v2, vs = [v, v2] ∧ RepO K W H v d ∧ RepO K W H v2 d2 := by
  cases h with
  | cons r t => cases t with
    | cons r2 t => cases t; exact ⟨_, _, rfl, r, r2⟩
theorem cd_len {K : PySem.W.Frag} : CallD K (rLenA K) fLen := by
  intro W H vs ds a Q s h e q
  unfold fLen at e
  split at e
  · rename_i d
    obtain ⟨v, rfl, r⟩ := h.one
    have fin : ∀ {n : Nat}, lenD d = some n → Q (V.int n) H := fun z => by
      rw [z] at e; cases e; exact q W H _ (.refl s) newV_int
    cases d with
    | lst ds => obtain ⟨p, vs, rfl, h2, h3⟩ := seq_ok (ds := ds) s r rfl; exact .inl ⟨p, vs, rfl, h2, by rw [h3.length]; exact fin rfl⟩
    | fl ds => obtain ⟨p, vs, rfl, h2, h3⟩ := seq_ok (ds := ds) s r rfl; exact .inl ⟨p, vs, rfl, h2, by rw [h3.length]; exact fin rfl⟩
    | tup ds => obtain ⟨p, vs, rfl, h2, h3⟩ := seq_ok (ds := ds) s r rfl; exact .inl ⟨p, vs, rfl, h2, by rw [h3.length]; exact fin rfl⟩
    | str z =>
      cases repO_str s r
      by_cases c : z.length ≤ sizeLine
      · exact .inr (.inl ⟨z, rfl, c, fin (show (if z.length ≤ sizeLine then some z.length else none) = _ from if_pos c)⟩)
      · rw [show lenD (.str z) = none from if_neg c] at e; cases e
    | dct t l =>
      obtain ⟨p, rfl, c⟩ := repO_dct s r
      rcases c with ⟨rfl, kvs, h1, h2⟩ | ⟨rfl, kvs, h1, h2⟩
      · exact .inr (.inr (.inl ⟨p, kvs, rfl, h1, by rw [h2.length]; exact fin rfl⟩))
      · exact .inr (.inr (.inr ⟨p, kvs, rfl, h1, by rw [h2.length]; exact fin rfl⟩))
    | _ => cases e
  · cases e
/-! ### list, tuple, int, abs, str -/
def fList (ds : List D) : Option Val := match ds with
  | [d] => (seqD d).map fun xs => .ow (.lst xs)
  | _ => none
theorem cd_list {K : PySem.W.Frag} : CallD K (fun xs H Q => ∃ p ys, xs = [V.ref p] ∧ (SqL K H p ys ∨ SqT K H p ys) ∧ ∀ (l : Addr), H l = none → Q (V.ref l) (upd H l (HO.lst ys))) fList := by
  intro W H vs ds a Q s h e q
  unfold fList at e
  split at e
  · rename_i d
    obtain ⟨v, rfl, r⟩ := h.one
    cases z : seqD d with
    | none => rw [z] at e; cases e
    | some xs =>
      rw [z] at e; cases e
      obtain ⟨p, vs, rfl, h2, h3⟩ := seq_ok s r z
      refine ⟨p, vs, rfl, h2, fun n hn => ?_⟩
      obtain ⟨t, nv⟩ := newV_ow s hn h3
      exact q _ _ _ t nv
  · cases e
def fTuple (ds : List D) : Option Val := match ds with
  | [d] => (seqD d).map fun xs => .sh (.tup xs)
  | _ => none
theorem cd_tuple {K : PySem.W.Frag} : CallD K (fun xs H Q => ∃ p ys, xs = [V.ref p] ∧ ((SqL K H p ys ∧ ∀ (l : Addr), H l = none → Q (V.ref l) (upd H l (HO.tup ys))) ∨ SqT K H p ys ∧ Q (V.ref p) H)) fTuple := by
  intro W H vs ds a Q s h e q
  unfold fTuple at e
  split at e
  · rename_i d
    obtain ⟨v, rfl, r⟩ := h.one
    cases d with
    | tup xs =>
      cases e
      obtain ⟨p, vs, rfl, hp, r⟩ := repO_tup r
      exact ⟨p, vs, rfl, .inr ⟨sqT_of (s _ _ hp), q W H _ (.refl s) (.tup hp r)⟩⟩
    | lst xs =>
      cases e
      obtain ⟨p, vs, rfl, h2, h3⟩ := lst_ok s r rfl
      refine ⟨p, vs, rfl, .inl ⟨h2, fun n hn => ?_⟩⟩
      obtain ⟨t, nv⟩ := newV_sh s hn h3
      exact q _ _ _ t nv
    | fl xs =>
      cases e
      obtain ⟨p, vs, rfl, h2, h3⟩ := lst_ok s r rfl
      refine ⟨p, vs, rfl, .inl ⟨h2, fun n hn => ?_⟩⟩
      obtain ⟨t, nv⟩ := newV_sh s hn h3
      exact q _ _ _ t nv
    | _ => cases e
  · cases e
def fInt (ds : List D) : Option Val := match ds with
  | [.int i] => some (.sh (.int i))
  | [.bl b] => some (.sh (.int (if b = true then 1 else 0)))
  | _ => none
theorem cd_int {K : PySem.W.Frag} : CallD K (fun xs H Q => (∃ i, xs = [V.int i] ∧ Q (V.int i) H) ∨ ∃ k, xs = [V.bl k] ∧ Q (V.int (if k = true then 1 else 0)) H) fInt := by
  intro W H vs ds a Q s h e q
  unfold fInt at e
  split at e
  · obtain ⟨v, rfl, r⟩ := h.one
    cases e
    exact .inl ⟨_, by rw [repO_int s r], q W H _ (.refl s) newV_int⟩
  · obtain ⟨v, rfl, r⟩ := h.one
    cases e
    exact .inr ⟨_, by rw [repO_bl s r], q W H _ (.refl s) newV_int⟩
  · cases e
def fAbs (ds : List D) : Option Val := match ds with
  | [.int i] => some (.sh (.int (if i < 0 then -i else i)))
  | _ => none
theorem cd_abs {K : PySem.W.Frag} : CallD K (fun xs H Q => ∃ i, xs = [V.int i] ∧ Q (V.int (if i < 0 then -i else i)) H) fAbs := by
  intro W H vs ds a Q s h e q
  unfold fAbs at e
  split at e
  · obtain ⟨v, rfl, r⟩ := h.one
    cases e
    exact ⟨_, by rw [repO_int s r], q W H _ (.refl s) newV_int⟩
  · cases e
def fStr (ds : List D) : Option Val := match ds with
  | [.int i] => if i.natAbs.log2 < 1920 then some (.sh (.str (Str.ofString (toString i)))) else none
  | _ => none
theorem cd_str {K : PySem.W.Frag} : CallD K (fun xs H Q => ∃ i : Int, xs = [V.int i] ∧ i.natAbs.log2 < 1920 ∧ Q (V.str (Str.ofString (toString i))) H) fStr := by
  intro W H vs ds a Q s h e q
  unfold fStr at e
  split at e
  · obtain ⟨v, rfl, r⟩ := h.one
    split at e
    · rename_i c
      cases e
      exact ⟨_, by rw [repO_int s r], c, q W H _ (.refl s) (.str _)⟩
    · cases e
  · cases e
/-! ### max, min, sum, any, all -/
def intsOf : List D → Option (List Int)
  | [] => some []
  | .int i :: ds => (intsOf ds).map (i :: ·)
  | _ => none
theorem intsOf_ok : ∀ {ds : List D} {ns : List Int}, intsOf ds = some ns → ds = ns.map .int
  | [], ns, h => by cases h; rfl
  | d :: ds, ns, h => by
    cases d with
    | int i =>
      unfold intsOf at h
      cases q : intsOf ds with
      | none => rw [q] at h; cases h
      | some ms => rw [q] at h; cases h; rw [List.map_cons, ← intsOf_ok q]
    | _ => cases h
theorem intsOf_map : ∀ ns : List Int, intsOf (ns.map .int) = some ns
  | [] => rfl
  | n :: ns => by rw [List.map_cons, intsOf, intsOf_map ns]; rfl
def blsOf : List D → Option (List Bool)
  | [] => some []
  | .bl i :: ds => (blsOf ds).map (i :: ·)
  | _ => none
theorem blsOf_ok : ∀ {ds : List D} {ns : List Bool}, blsOf ds = some ns → ds = ns.map .bl
  | [], ns, h => by cases h; rfl
  | d :: ds, ns, h => by
    cases d with
    | bl i =>
      unfold blsOf at h
      cases q : blsOf ds with
      | none => rw [q] at h; cases h
      | some ms => rw [q] at h; cases h; rw [List.map_cons, ← blsOf_ok q]
    | _ => cases h
theorem blsOf_map : ∀ ns : List Bool, blsOf (ns.map .bl) = some ns
  | [] => rfl
  | n :: ns => by rw [List.map_cons, blsOf, blsOf_map ns]; rfl
theorem reps_int {K : PySem.W.Frag} {W : Hp} : ∀ {ns : List Int} {vs : List V}, Reps K W vs (ns.map .int) → vs = ns.map .int
  | [], _, h => by cases h; rfl
  | n :: ns, _, h => by
    cases h with
    | cons r t => cases r; rw [List.map_cons, reps_int t]
theorem reps_bl {K : PySem.W.Frag} {W : Hp} : ∀ {ns : List Bool} {vs : List V}, Reps K W vs (ns.map .bl) → vs = ns.map .bl
  | [], _, h => by cases h; rfl
  | n :: ns, _, h => by
    cases h with
    | cons r t => cases r; rw [List.map_cons, reps_bl t]
/-- one list of whole numbers -/
def oneInts (ds : List D) : Option (List Int) := match ds with
  | [d] => (lstD d).bind intsOf
  | _ => none
def oneBls (ds : List D) : Option (List Bool) := match ds with
  | [d] => (lstD d).bind blsOf
  | _ => none
theorem oneInts_ok {K : PySem.W.Frag} {W H : Hp} {vs : List V} {ds : List D} {ns : List Int} (s : Sub W H) (h : RepOs K W H vs ds) (e : oneInts ds = some ns) : ∃ a, vs = [V.ref a] ∧ SqL K H a (ns.map .int) := by
  unfold oneInts at e
  split at e
  · rename_i d
    obtain ⟨v, rfl, r⟩ := h.one
    cases z : lstD d with
    | none => rw [z] at e; cases e
    | some xs =>
      rw [z, Option.bind_some] at e
      obtain ⟨p, vs, rfl, h2, h3⟩ := lst_ok s r z
      rw [intsOf_ok e] at h3
      rw [reps_int h3] at h2
      exact ⟨p, rfl, h2⟩
  · cases e
theorem oneBls_ok {K : PySem.W.Frag} {W H : Hp} {vs : List V} {ds : List D} {ns : List Bool} (s : Sub W H) (h : RepOs K W H vs ds) (e : oneBls ds = some ns) : ∃ a, vs = [V.ref a] ∧ SqL K H a (ns.map .bl) := by
  unfold oneBls at e
  split at e
  · rename_i d
    obtain ⟨v, rfl, r⟩ := h.one
    cases z : lstD d with
    | none => rw [z] at e; cases e
    | some xs =>
      rw [z, Option.bind_some] at e
      obtain ⟨p, vs, rfl, h2, h3⟩ := lst_ok s r z
      rw [blsOf_ok e] at h3
      rw [reps_bl h3] at h2
      exact ⟨p, rfl, h2⟩
  · cases e
def maxI : List Int → Option Int
  | [] => none
  | n :: ns => some (ns.foldl max n)
def minI : List Int → Option Int
  | [] => none
  | n :: ns => some (ns.foldl min n)
theorem foldmax_ge : ∀ (ns : List Int) (n : Int), n ≤ ns.foldl max n ∧ (∀ y ∈ ns, y ≤ ns.foldl max n) ∧ (ns.foldl max n = n ∨ ns.foldl max n ∈ ns)
  | [], n => ⟨Int.le_refl _, (fun y h => nomatch h), .inl rfl⟩
  | m :: ns, n => by
    obtain ⟨a, b, c⟩ := foldmax_ge ns (max n m)
    rw [List.foldl_cons]
    refine ⟨by omega, fun y h => ?_, ?_⟩
    · rcases List.mem_cons.mp h with rfl | h
      · omega
      · exact b y h
    · rcases c with c | c
      · by_cases z : n ≤ m
        · right; rw [c, show max n m = m by omega]; exact List.mem_cons_self
        · left; rw [c]; omega
      · exact .inr (List.mem_cons_of_mem _ c)
theorem foldmin_le : ∀ (ns : List Int) (n : Int), ns.foldl min n ≤ n ∧ (∀ y ∈ ns, ns.foldl min n ≤ y) ∧ (ns.foldl min n = n ∨ ns.foldl min n ∈ ns)
  | [], n => ⟨Int.le_refl _, (fun y h => nomatch h), .inl rfl⟩
  | m :: ns, n => by
    obtain ⟨a, b, c⟩ := foldmin_le ns (min n m)
    rw [List.foldl_cons]
    refine ⟨by omega, fun y h => ?_, ?_⟩
    · rcases List.mem_cons.mp h with rfl | h
      · omega
      · exact b y h
    · rcases c with c | c
      · by_cases z : m ≤ n
        · right; rw [c, show min n m = m by omega]; exact List.mem_cons_self
        · left; rw [c]; omega
      · exact .inr (List.mem_cons_of_mem _ c)
theorem maxI_ok {ns : List Int} {m : Int} (h : maxI ns = some m) : 0 < ns.length ∧ m ∈ ns ∧ ∀ y ∈ ns, y ≤ m := by
  cases ns with
  | nil => cases h
  | cons n ns =>
    cases h
    obtain ⟨a, b, c⟩ := foldmax_ge ns n
    refine ⟨Nat.succ_pos _, ?_, fun y h => ?_⟩
    · rcases c with c | c
      · rw [c]; exact List.mem_cons_self
      · exact List.mem_cons_of_mem _ c
    · rcases List.mem_cons.mp h with rfl | h
      · exact a
      · exact b y h
theorem minI_ok {ns : List Int} {m : Int} (h : minI ns = some m) : 0 < ns.length ∧ m ∈ ns ∧ ∀ y ∈ ns, m ≤ y := by
  cases ns with
  | nil => cases h
  | cons n ns =>
    cases h
    obtain ⟨a, b, c⟩ := foldmin_le ns n
    refine ⟨Nat.succ_pos _, ?_, fun y h => ?_⟩
    · rcases c with c | c
      · rw [c]; exact List.mem_cons_self
      · exact List.mem_cons_of_mem _ c
    · rcases List.mem_cons.mp h with rfl | h
      · exact a
      · exact b y h
def fMax1 (ds : List D) : Option Val := ((oneInts ds).bind maxI).map fun i => .sh (.int i)
def fMin1 (ds : List D) : Option Val := ((oneInts ds).bind minI).map fun i => .sh (.int i)
theorem cd_max1 {K : PySem.W.Frag} : CallD K (rMax K) fMax1 := by
  intro W H vs ds a Q s h e q
  unfold fMax1 at e
  cases z : oneInts ds with
  | none => rw [z] at e; cases e
  | some ns =>
    rw [z, Option.bind_some] at e
    cases z2 : maxI ns with
    | none => rw [z2] at e; cases e
    | some m =>
      rw [z2] at e; cases e
      obtain ⟨p, rfl, hs⟩ := oneInts_ok s h z
      obtain ⟨h1, h2, h3⟩ := maxI_ok z2
      refine ⟨p, ns, rfl, hs, h1, fun m' hm hy => ?_⟩
      rw [Int.le_antisymm (h3 m' hm) (hy m h2)]
      exact q W H _ (.refl s) newV_int
theorem cd_min1 {K : PySem.W.Frag} : CallD K (rMin K) fMin1 := by
  intro W H vs ds a Q s h e q
  unfold fMin1 at e
  cases z : oneInts ds with
  | none => rw [z] at e; cases e
  | some ns =>
    rw [z, Option.bind_some] at e
    cases z2 : minI ns with
    | none => rw [z2] at e; cases e
    | some m =>
      rw [z2] at e; cases e
      obtain ⟨p, rfl, hs⟩ := oneInts_ok s h z
      obtain ⟨h1, h2, h3⟩ := minI_ok z2
      refine ⟨p, ns, rfl, hs, h1, fun m' hm hy => ?_⟩
      rw [Int.le_antisymm (hy m h2) (h3 m' hm)]
      exact q W H _ (.refl s) newV_int
def fMax2 (ds : List D) : Option Val := match ds with
  | [.int i, .int j] => some (.sh (.int (if j > i then j else i)))
  | _ => none
def fMin2 (ds : List D) : Option Val := match ds with
  | [.int i, .int j] => some (.sh (.int (if j < i then j else i)))
  | _ => none
theorem cd_max2 {K : PySem.W.Frag} : CallD K (fun xs H Q => ∃ i j, xs = [V.int i, V.int j] ∧ Q (V.int (if j > i then j else i)) H) fMax2 := by
  intro W H vs ds a Q s h e q
  unfold fMax2 at e
  split at e
  · obtain ⟨v, v2, rfl, r, r2⟩ := h.two
    cases e
    exact ⟨_, _, by rw [repO_int s r, repO_int s r2], q W H _ (.refl s) newV_int⟩
  · cases e
theorem cd_min2 {K : PySem.W.Frag} : CallD K (fun xs H Q => ∃ i j, xs = [V.int i, V.int j] ∧ Q (V.int (if j < i then j else i)) H) fMin2 := by
  intro W H vs ds a Q s h e q
  unfold fMin2 at e
  split at e
  · obtain ⟨v, v2, rfl, r, r2⟩ := h.two
    cases e
    exact ⟨_, _, by rw [repO_int s r, repO_int s r2], q W H _ (.refl s) newV_int⟩
  · cases e
def fSum (ds : List D) : Option Val := (oneInts ds).map fun ns => .sh (.int ns.sum)
theorem cd_sum {K : PySem.W.Frag} : CallD K (rSum K) fSum := by
  intro W H vs ds a Q s h e q
  unfold fSum at e
  cases z : oneInts ds with
  | none => rw [z] at e; cases e
  | some ns =>
    rw [z] at e; cases e
    obtain ⟨p, rfl, hs⟩ := oneInts_ok s h z
    exact ⟨p, ns, rfl, hs, q W H _ (.refl s) newV_int⟩
def fAny (ds : List D) : Option Val := (oneBls ds).map fun ns => .sh (.bl (ns.any id))
def fAll (ds : List D) : Option Val := (oneBls ds).map fun ns => .sh (.bl (ns.all id))
theorem cd_any {K : PySem.W.Frag} : CallD K (rAny K) fAny := by
  intro W H vs ds a Q s h e q
  unfold fAny at e
  cases z : oneBls ds with
  | none => rw [z] at e; cases e
  | some ns =>
    rw [z] at e; cases e
    obtain ⟨p, rfl, hs⟩ := oneBls_ok s h z
    exact ⟨p, ns, rfl, hs, q W H _ (.refl s) newV_bl⟩
theorem cd_all {K : PySem.W.Frag} : CallD K (rAll K) fAll := by
  intro W H vs ds a Q s h e q
  unfold fAll at e
  cases z : oneBls ds with
  | none => rw [z] at e; cases e
  | some ns =>
    rw [z] at e; cases e
    obtain ⟨p, rfl, hs⟩ := oneBls_ok s h z
    exact ⟨p, ns, rfl, hs, q W H _ (.refl s) newV_bl⟩
end
end VS

/-! VK1: repr of data of any depth; an empty dict may lie in it. -/
namespace VS
open PySem PySem.Spec PyProof.Rows L2
mutual
inductive RN (h : Heap) : Value → PyData → Prop
  | none : RN h .none .none
  | bool (b : Bool) : RN h (.bool b) (.bool b)
  | int (i : Int) (t : Tok) : RN h (.int i t) (.int i)
  | str (x : Str) (t : Tok) : RN h (.str x t) (.str x)
  | list {a : Addr} {o : Obj} {vs : Array Value} {n : Nat} {xs : List PyData} : h.get? a = some o → o.cls = .type "list" → o.data = .seq vs n → RNs h vs.toList xs → RN h (.ref a) (.list xs)
  | tuple {a : Addr} {o : Obj} {vs : Array Value} {n : Nat} {xs : List PyData} : h.get? a = some o → o.cls = .type "tuple" → o.data = .seq vs n → RNs h vs.toList xs → RN h (.ref a) (.tuple xs)
  | dict {a : Addr} {o : Obj} {es : Array DictEntry} {n : Nat} : h.get? a = some o → o.cls = .type "dict" → o.data = .dict es n → es.toList = [] → (a == sysModules) = false → RN h (.ref a) (.dict [])
inductive RNs (h : Heap) : List Value → List PyData → Prop
  | nil : RNs h [] []
  | cons {v : Value} {vs : List Value} {d : PyData} {ds : List PyData} : RN h v d → RNs h vs ds → RNs h (v :: vs) (d :: ds)
end
section
variable {prog : Program} {w : World} {h : Heap}
mutual
theorem RN.reads : ∀ {v : Value} {d : PyData}, RN h v d → ∃ as, Reads h v d as
  | _, _, .none => ⟨_, .none⟩
  | _, _, .bool b => ⟨_, .bool b⟩
  | _, _, .int i t => ⟨_, .int i t⟩
  | _, _, .str x t => ⟨_, .str x t⟩
  | _, _, .list h1 h2 h3 r => by
    obtain ⟨as, q⟩ := RNs.reads r
    exact ⟨_, .list h1 h2 h3 q⟩
  | _, _, .tuple h1 h2 h3 r => by
    obtain ⟨as, q⟩ := RNs.reads r
    exact ⟨_, .tuple h1 h2 h3 q⟩
  | _, _, .dict h1 h2 h3 h4 _ => ⟨_, .dict (kvs := []) (as := []) (bs := []) h1 h2 h3 (by rw [h4]; exact .nil) (by rw [h4]; exact .nil)⟩
theorem RNs.reads : ∀ {vs : List Value} {ds : List PyData}, RNs h vs ds → ∃ as, ReadsAll h vs ds as
  | _, _, .nil => ⟨_, .nil⟩
  | _, _, .cons r t => by
    obtain ⟨as, q⟩ := RN.reads r
    obtain ⟨bs, q'⟩ := RNs.reads t
    exact ⟨_, .cons q q'⟩
end
/-- the addresses met are shallower -/
theorem apart {a : Addr} {d : PyData} {n : Nat} {bs : List Addr} (r : RN h (.ref a) d) (hd : n < d.depth) (hb : ReadAtMost h n bs) : a ∉ bs := by
  obtain ⟨as, q⟩ := r.reads
  exact not_mem_of_deeper q hd hb
theorem atMost_cons {a : Addr} {d : PyData} {n : Nat} {bs : List Addr} (r : RN h (.ref a) d) (hn : n ≤ d.depth) (hb : ReadAtMost h n bs) : ReadAtMost h d.depth (a :: bs) := by
  obtain ⟨as, q⟩ := r.reads
  exact ReadAtMost.cons q hn hb
mutual
theorem RN.shows : ∀ {v : Value} {d : PyData}, RN h v d → d.showable = true → d.shown.length ≤ sizeLine → ∃ bs, ReadAtMost h d.depth bs ∧ ReprK prog w bs h d.depth v d.shown
  | _, _, .none, _, _ => ⟨[], (fun _ z => nomatch z), by rw [PyData.shown]; exact .of_is ReprIs.none _ _ _⟩
  | _, _, .bool b, _, _ => ⟨[], (fun _ z => nomatch z), by rw [PyData.shown]; exact .of_is (ReprIs.bool b) _ _ _⟩
  | _, _, .int i t, hs, _ => ⟨[], (fun _ z => nomatch z), by rw [PyData.shown]; exact .of_is (ReprIs.int t (of_decide_eq_true (by rw [PyData.showable] at hs; exact hs))) _ _ _⟩
  | _, _, .str x t, _, hz => ⟨[], (fun _ z => nomatch z), by rw [PyData.shown]; exact .of_is (ReprIs.str x t (by rw [PyData.shown] at hz; exact hz)) _ _ _⟩
  | _, _, .list (a := a) (vs := vs) (xs := xs) h1 h2 h3 r, hs, hz => by
    rw [PyData.showable] at hs
    rw [PyData.shown] at hz
    obtain ⟨bs, hb, k⟩ := RNs.shows r hs fun t m => Nat.le_trans (listText_mem_le m) hz
    have rr : RN h (.ref a) (.list xs) := .list h1 h2 h3 r
    have ha : a ∉ bs := apart rr (by rw [PyData.depth]; omega) hb
    refine ⟨a :: bs, atMost_cons rr (by rw [PyData.depth]; omega) hb, ?_⟩
    rw [PyData.depth, PyData.shown]
    obtain ⟨l⟩ := vs
    cases l with
    | nil =>
      cases (show RNs h [] xs from r)
      rw [PyData.shownAll, listText_nil]
      exact ReprK.listEmpty h1 h2 h3
    | cons x l => exact ReprK.list h1 h2 h3 ha (by simpa using k.length_eq) fun i y e => k.item i y (by simpa using e)
  | _, _, .tuple (a := a) (xs := xs) h1 h2 h3 r, hs, hz => by
    rw [PyData.showable] at hs
    rw [PyData.shown] at hz
    obtain ⟨bs, hb, k⟩ := RNs.shows r hs fun t m => Nat.le_trans (tupleText_mem_le m) hz
    have rr : RN h (.ref a) (.tuple xs) := .tuple h1 h2 h3 r
    have ha : a ∉ bs := apart rr (by rw [PyData.depth]; omega) hb
    refine ⟨a :: bs, atMost_cons rr (by rw [PyData.depth]; omega) hb, ?_⟩
    rw [PyData.depth, PyData.shown]
    exact ReprK.tuple h1 h2 h3 ha k
  | _, _, .dict (a := a) h1 h2 h3 h4 h5, hs, hz => by
    have rr : RN h (.ref a) (.dict []) := .dict h1 h2 h3 h4 h5
    have hb : ReadAtMost h 0 [] := fun _ z => nomatch z
    refine ⟨[a], atMost_cons rr (Nat.zero_le _) hb, ?_⟩
    have := ReprK.dict (prog := prog) (w := w) (as := []) (d := 0) (ps := []) h1 h2 h3 h5 (by simp) (by rw [h4]; exact .nil)
    rw [PyData.shown, PyData.shownKv, PyData.depth]
    exact this.level_le (by omega)
theorem RNs.shows : ∀ {vs : List Value} {ds : List PyData}, RNs h vs ds → PyData.showableAll ds = true → (∀ t ∈ PyData.shownAll ds, t.length ≤ sizeLine) → ∃ bs, ReadAtMost h (PyData.depthAll ds) bs ∧ ReprAllK prog w bs h (PyData.depthAll ds) vs (PyData.shownAll ds)
  | _, _, .nil, _, _ => ⟨[], (fun _ z => nomatch z), by rw [PyData.shownAll]; exact .nil⟩
  | _, _, .cons (d := d) (ds := ds) r t, hs, hz => by
    rw [PyData.showableAll] at hs
    obtain ⟨s1, s2⟩ := Bool.and_eq_true_iff.mp hs
    rw [PyData.shownAll] at hz
    obtain ⟨b1, m1, k1⟩ := RN.shows r s1 (hz _ List.mem_cons_self)
    obtain ⟨b2, m2, k2⟩ := RNs.shows t s2 fun x m => hz x (List.mem_cons_of_mem _ m)
    refine ⟨b1 ++ b2, ?_, ?_⟩
    · rw [PyData.depthAll]
      exact (m1.mono (Nat.le_max_left _ _)).append (m2.mono (Nat.le_max_right _ _))
    · rw [PyData.depthAll, PyData.shownAll]
      exact .cons ((k1.more fun b m => List.mem_append_left _ m).level_le (Nat.le_max_left _ _)) (k2.more_le (fun b m => List.mem_append_right _ m) (Nat.le_max_right _ _))
end
/-- the built-in repr of what is read -/
theorem repr_read {A : Around} {E : Value → Shared → Prop} {s : Shared} {v : Value} {d : PyData} {Q : Value → Shared → Prop} (r : RN s.heap v d) (hs : d.showable = true) (hz : d.shown.length ≤ sizeLine) (hg : A.guards = some []) (hu : A.units + (d.depth + 1) < cLine)
    (hQ : ∀ h' u tk, (∀ b o, s.heap.get? b = some o → h'.get? b = some o) → Q (.str d.shown u) { s with heap := h', toks := tk }) : wpAny (model prog w) A (call (.builtin "repr") [v]) Q E s := by
  cases r with
  | none => rw [PyData.shown] at hQ; exact PySem.P.repr_of_none (hQ s.heap _ _ fun _ _ e => e)
  | bool b => rw [PyData.shown] at hQ; exact PySem.P.repr_of_bool (hQ s.heap _ _ fun _ _ e => e)
  | int i t => rw [PyData.shown] at hQ; exact PySem.P.repr_of_int (of_decide_eq_true (by rw [PyData.showable] at hs; exact hs)) (hQ s.heap _ _ fun _ _ e => e)
  | str x t => rw [PyData.shown] at hQ hz; exact PySem.P.repr_of_str (hQ s.heap _ _ fun _ _ e => e) hz
  | @list a o vs n xs h1 h2 h3 r =>
    have rr : RN s.heap (.ref a) (.list xs) := .list h1 h2 h3 r
    rw [PyData.showable] at hs
    rw [PyData.shown] at hz hQ
    rw [PyData.depth] at hu
    obtain ⟨bs, hb, k⟩ := RNs.shows (prog := prog) (w := w) r hs fun t m => Nat.le_trans (listText_mem_le m) hz
    have ha : a ∉ bs := apart rr (by rw [PyData.depth]; omega) hb
    refine call_repr_slot (by omega) ⟨o, h1, h2⟩ F.slot_list_repr.toG ?_
    obtain ⟨l⟩ := vs
    cases l with
    | nil =>
      cases (show RNs s.heap [] xs from r)
      rw [PyData.shownAll, listText_nil] at hQ
      exact call_list_repr_empty ⟨o, h1, h2⟩ h1 h3 ⟨_, _, rfl, hQ s.heap _ _ fun _ _ e => e⟩
    | cons x l => exact call_list_reprK h1 h2 h3 ha (by simpa using k.length_eq) (fun i y e => k.item i y (by simpa using e)) hg (fun b _ => Clear.nil b) (by show A.units + 1 + _ < cLine; omega) (fun _ _ e => e) (fun h' u tk hk => ⟨_, _, rfl, hQ h' u tk hk⟩) hz
  | @tuple a o vs n xs h1 h2 h3 r =>
    have rr : RN s.heap (.ref a) (.tuple xs) := .tuple h1 h2 h3 r
    rw [PyData.showable] at hs
    rw [PyData.shown] at hz hQ
    rw [PyData.depth] at hu
    obtain ⟨bs, hb, k⟩ := RNs.shows (prog := prog) (w := w) r hs fun t m => Nat.le_trans (tupleText_mem_le m) hz
    have ha : a ∉ bs := apart rr (by rw [PyData.depth]; omega) hb
    exact call_repr_slot (by omega) ⟨o, h1, h2⟩ F.slot_tuple_repr (call_tuple_reprK h1 h2 h3 ha k hg (fun b _ => Clear.nil b) (by show A.units + 1 + _ < cLine; omega) (fun _ _ e => e) (fun h' u tk hk => ⟨_, _, rfl, hQ h' u tk hk⟩) hz)
  | @dict a o es n h1 h2 h3 h4 h5 =>
    rw [PyData.shown, PyData.shownKv] at hz hQ
    rw [PyData.depth] at hu
    exact call_repr_slot (by omega) ⟨o, h1, h2⟩ F.slot_dict_repr (call_dict_reprK (as := []) (d := 0) (ps := []) h1 h2 h3 h5 (by simp) (by rw [h4]; exact .nil) hg (fun b _ => Clear.nil b) (by show A.units + 1 + _ < cLine; omega) (fun _ _ e => e) (fun h' u tk hk => ⟨_, _, rfl, hQ h' u tk hk⟩) hz)
end
/-! ### data that can be shown -/
mutual
def D.seen : D → Bool
  | .non => true
  | .bl _ => true
  | .int _ => true
  | .str _ => true
  | .lst xs => seens xs
  | .tup xs => seens xs
  | .fl xs => seens xs
  | .dct _ kvs => kvs.isEmpty
  | .op _ => false
def seens : List D → Bool
  | [] => true
  | x :: xs => x.seen && seens xs
end
section
variable {X : Cx} {pins : List (Addr × Obj)} {σ : L2.St} {H : Hp} {s : Shared}
mutual
theorem rn_of (I : Inv X pins σ H s) : ∀ {v : V} {d : D} (u : Value), Rep X.K H v d → d.seen = true → RelV v u → RN s.heap u d.py
  | _, _, u, .non, _, r => by cases r; exact .none
  | _, _, u, .bl b, _, r => by cases r; exact .bool b
  | _, _, u, .int i, _, r => by obtain ⟨t, rfl⟩ := r; exact .int i t
  | _, _, u, .str x, _, r => by obtain ⟨t, rfl⟩ := r; exact .str x t
  | _, _, u, .lst h q, p, r => by
    cases r
    obtain ⟨its, rv, ⟨o, n, ho, hc, _, hd⟩, _⟩ := I.list (sqL_of h)
    exact .list ho hc hd (rns_of I _ q p rv)
  | _, _, u, .fl h q, p, r => by
    cases r
    obtain ⟨its, rv, ⟨o, n, ho, hc, _, hd⟩, _⟩ := I.list h
    exact .list ho hc hd (rns_of I _ q p rv)
  | _, _, u, .tup h q, p, r => by
    cases r
    obtain ⟨its, rv, ⟨o, ho, hc, n, hd⟩, _⟩ := I.tuple (sqT_of h)
    exact .tuple ho hc hd (rns_of I _ q p rv)
  | _, _, u, .dK (l := l) h q, p, r => by
    cases r
    cases l with
    | cons _ _ => cases p
    | nil =>
      cases q
      obtain ⟨_, hs, vs, rel, o, es, ep, h1, h2, h3, h4, h5⟩ := dk_rd I.hok h
      cases rel
      exact .dict h1 h2.1 h3 (by
        have z := h5.1
        cases e : es.toList with
        | nil => rfl
        | cons _ _ => rw [e] at z; cases z) hs
  | _, _, u, .dT (l := l) h q, p, r => by
    cases r
    cases l with
    | cons _ _ => cases p
    | nil =>
      cases q
      obtain ⟨_, hs, xs, rel, o, es, ep, h1, h2, h3, h4, h5⟩ := dt_rd I.hok h
      cases rel
      exact .dict h1 h2.1 h3 h4 hs
  | _, _, u, .op _, p, _ => nomatch p
theorem rns_of (I : Inv X pins σ H s) : ∀ {vs : List V} {ds : List D} (us : List Value), Reps X.K H vs ds → seens ds = true → Vals vs us → RNs s.heap us (pys ds)
  | _, _, us, .nil, _, r => by cases r; exact .nil
  | _, _, us, .cons q t, p, r => by
    cases r with
    | cons r1 r2 => exact .cons (rn_of I _ q (Bool.and_eq_true_iff.mp p).1 r1) (rns_of I _ t (Bool.and_eq_true_iff.mp p).2 r2)
end
end
end VS

/-! VL: isinstance, repr, sorted, get of dicts. -/
namespace VS
open PySem PySem.Spec PyProof.Rows L2
/-! ### isinstance -/
def tys : List String := ["NoneType", "bool", "int", "str", "list", "tuple", "dict"]
def isTab (t T : String) : Bool := t == T || (t == "bool" && T == "int")
theorem kit_tab {K : PySem.W.Frag} : ∀ t ∈ tys, ∀ T ∈ tys, PySem.W.kitOne K (.type t) (.type T) = some (isTab t T) := by
  intro t ht T hT
  simp only [tys, List.mem_cons, List.not_mem_nil, or_false] at ht hT
  rcases ht with rfl | rfl | rfl | rfl | rfl | rfl | rfl <;> rcases hT with rfl | rfl | rfl | rfl | rfl | rfl | rfl <;> (with_unfolding_all rfl)
def D.ty : D → Option String
  | .non => some "NoneType"
  | .bl _ => some "bool"
  | .int _ => some "int"
  | .str _ => some "str"
  | .lst _ => some "list"
  | .fl _ => some "list"
  | .tup _ => some "tuple"
  | .dct false _ => some "dict"
  | _ => none
theorem ty_ok {K : PySem.W.Frag} {H : Hp} {v : V} {d : D} {t : String} (h : Rep K H v d) (e : d.ty = some t) : TyX K H v (.type t) ∧ t ∈ tys := by
  cases h with
  | non => cases e; exact ⟨.base .non, by decide⟩
  | bl b => cases e; exact ⟨.base (.bl b), by decide⟩
  | int i => cases e; exact ⟨.base (.int i), by decide⟩
  | str i => cases e; exact ⟨.base (.str i), by decide⟩
  | lst h _ => cases e; exact ⟨.base (.lst h), by decide⟩
  | tup h _ => cases e; exact ⟨.base (.tup h), by decide⟩
  | dK h _ =>
    cases e
    rcases h with h | ⟨o, h⟩
    · exact ⟨.base (.dK h), by decide⟩
    · exact ⟨.fDict h, by decide⟩
  | dT h _ => cases e
  | op v => cases e
  | fl h _ =>
    cases e
    rcases h with (h | ⟨o, h⟩) | ⟨o, its, n, h, c, _⟩
    · exact ⟨.base (.lst h), by decide⟩
    · exact ⟨.base (.frz h), by decide⟩
    · exact ⟨.kList h c, by decide⟩
def fIsi (ds : List D) : Option Val := match ds with
  | [d, .op (.ty T)] => if T ∈ tys then d.ty.map fun t => .sh (.bl (isTab t T)) else none
  | _ => none
/-- a closed value, as it is -/
theorem repO_op {K : PySem.W.Frag} {W H : Hp} {x v : V} (h : RepO K W H x (.op v)) : x = v := by
  rcases h with h | ⟨p, rfl, h1⟩
  · cases h; rfl
  · exact h1.elim
theorem cd_isi {K : PySem.W.Frag} : CallD K (rIsi K) fIsi := by
  intro W H vs ds a Q s h e q
  unfold fIsi at e
  split at e
  · rename_i d T
    split at e
    · rename_i hT
      cases z : d.ty with
      | none => rw [z] at e; cases e
      | some t =>
        rw [z] at e; cases e
        obtain ⟨v, v2, rfl, r, r2⟩ := h.two
        obtain ⟨k1, k2⟩ := ty_ok (r.rep s) z
        exact ⟨v, .ty T, .type t, .type T, _, by rw [repO_op r2], .ty T, k1, kit_tab t k2 T hT, q W H _ (.refl s) newV_bl⟩
    · cases e
  · cases e
section
variable {X : Cx}
/-! ### repr -/
def rRepr (K : PySem.W.Frag) : List V → Hp → VK → Prop := fun xs H Q => ∃ v d, xs = [v] ∧ Rep K H v d ∧ d.seen = true ∧ d.py.showable = true ∧ d.py.depth ≤ 100 ∧ d.py.shown.length ≤ sizeLine ∧ Q (.str d.py.shown) H
theorem cr_repr (hg : X.A.guards = some []) (hu : X.A.units + 101 < cLine) : CallR X (.builtin "repr") (rRepr X.K) := by
  rintro pins s σ H xs us Q I r ⟨v, d, rfl, hd, h1, h2, h3, h4, q⟩
  obtain ⟨u, rfl, ru⟩ := L2.vals1 r
  exact repr_read (rn_of I u hd h1 ru) h2 h4 hg (by omega) fun h' u tk k => ⟨.str _, H, I.kept k, ⟨u, rfl⟩, q⟩
def fRepr (ds : List D) : Option Val := match ds with
  | [d] => if d.seen = true ∧ d.py.showable = true ∧ d.py.depth ≤ 100 ∧ d.py.shown.length ≤ sizeLine then some (.sh (.str d.py.shown)) else none
  | _ => none
theorem cd_repr {K : PySem.W.Frag} : CallD K (rRepr K) fRepr := by
  intro W H vs ds a Q s h e q
  unfold fRepr at e
  split at e
  · rename_i d
    split at e
    · rename_i c
      cases e
      obtain ⟨c1, c2, c4, c5⟩ := c
      obtain ⟨v, rfl, r⟩ := h.one
      exact ⟨v, d, rfl, r.rep s, c1, c2, c4, c5, q W H _ (.refl s) (.str _)⟩
    · cases e
  · cases e
/-! ### sorted -/
theorem vals_map {vs : List V} {us : List Value} (h : Vals vs us) : ∀ (bs : List (V × D)), bs.map (·.1) = vs → PySem.W.EachIs (fun u (b : V × D) => RelV b.1 u) us bs := by
  induction h with
  | nil => intro bs e; cases bs with
    | nil => exact .nil
    | cons _ _ => cases e
  | cons r t ih =>
    intro bs e
    cases bs with
    | nil => cases e
    | cons b bs =>
      rw [List.map_cons] at e
      injection e with e1 e2
      exact .cons (by rw [e1]; exact r) (ih bs e2)
theorem vals_back {us : List Value} {bs : List (V × D)} (h : PySem.W.EachIs (fun u (b : V × D) => RelV b.1 u) us bs) : Vals (bs.map (·.1)) us := by
  induction h with
  | nil => exact .nil
  | cons r t ih => exact .cons r ih
def rSortD (K : PySem.W.Frag) : List V → Hp → VK → Prop := fun xs H Q => ∃ a vs, ∃ bs : List (V × D), xs = [V.ref a] ∧ SqL K H a vs ∧ bs.map (·.1) = vs ∧ (∀ b ∈ bs, Dp K H b.1 b.2.py) ∧ PySem.W.AllAlike (bs.map fun b => b.2.py) ∧ PySem.W.Sortable (bs.map fun b => b.2.py) ∧
  (∀ b ∈ bs, b.2.py.depth ≤ 64) ∧ bs.length ≤ sizeLine ∧ ∀ p : Addr, H p = none → Q (.ref p) (upd H p (.lst ((bs.mergeSort (PySem.W.dataLe false fun b : V × D => b.2.py)).map (·.1))))
theorem eachIs_of {α β : Type} {R : α → β → Prop} : ∀ {as : List α} {bs : List β}, as.length = bs.length → (∀ (i : Nat) (a : α) (b : β), as[i]? = some a → bs[i]? = some b → R a b) → PySem.W.EachIs R as bs
  | [], [], _, _ => .nil
  | [], _ :: _, h, _ => by cases h
  | _ :: _, [], h, _ => by cases h
  | a :: as, b :: bs, h, k => .cons (k 0 a b rfl rfl) (eachIs_of (by simpa using h) fun i x y h1 h2 => k (i + 1) x y (by simpa using h1) (by simpa using h2))
theorem eachIs_imp {α β : Type} {R S : α → β → Prop} {as : List α} {bs : List β} (h : PySem.W.EachIs R as bs) (k : ∀ a b, b ∈ bs → R a b → S a b) : PySem.W.EachIs S as bs := by
  induction h with
  | nil => exact .nil
  | cons r t ih => exact .cons (k _ _ List.mem_cons_self r) (ih fun a b m => k a b (List.mem_cons_of_mem _ m))
theorem cr_sortD (hu : X.A.units + 70 < cLine) : CallR X (.builtin "sorted") (rSortD X.K) := by
  rintro pins s σ H xs us Q I r ⟨a, vs, bs, rfl, hx, hb, hd, al, so, dp, hl, q⟩
  obtain ⟨u, rfl, ru⟩ := L2.vals1 r
  cases (show u = .ref a from ru)
  obtain ⟨its, rv, ht, hz⟩ := Inv.list I hx
  have e1 := vals_map rv bs hb
  obtain ⟨ob, n, ho, hcl, _, hda⟩ := ht
  refine PySem.W.sorted_data (bs := bs) (enc := fun b => b.2.py) (R := fun u b => RelV b.1 u) ⟨ob, ho, hcl, n, hda⟩ e1 (eachIs_imp e1 fun u b m rb => Dp.reads I _ _ _ (hd b m) rb) al so hl (fun b m => ?_) fun out ol he => ?_
  · have := dp b m; omega
  · obtain ⟨ep, hat⟩ := sortedAll_at s.heap its out.toArray
    refine ⟨.ref (s.heap.objs.size + 1), _, Inv.laid I (fun b o e => sortedAll_old e) (Nat.le_succ _) ?_, rfl, q _ (I.hok.fresh (Nat.le_succ _))⟩
    have len : ((bs.mergeSort (PySem.W.dataLe false fun b : V × D => b.2.py)).map (·.1)).length = bs.length := by rw [List.length_map, List.length_mergeSort]
    exact ⟨by rw [len]; exact hl, out, ep, vals_back he, hat⟩
/-- the data of a list, sorted; a class's sorts are alike -/
def sortable (ds : List D) : Prop := (∀ d ∈ ds, d.plain = true ∧ d.py.depth ≤ 64) ∧ PySem.W.AllAlike (ds.map D.py) ∧ PySem.W.Sortable (ds.map D.py) ∧ ds.length ≤ 1000000
def dLe (a b : D) : Bool := PySem.W.dataLe false D.py a b
open Classical in
noncomputable def fSort (ds : List D) : Option Val := match ds with
  | [d] => (lstD d).bind fun xs => if sortable xs then some (.ow (.lst (xs.mergeSort dLe))) else none
  | _ => none
theorem zip_fst {K : PySem.W.Frag} {H : Hp} {vs : List V} {ds : List D} (r : Reps K H vs ds) : (vs.zip ds).map (·.1) = vs ∧ (vs.zip ds).map (·.2) = ds := by
  have h1 : ∀ {vs : List V} {ds : List D}, Reps K H vs ds → (vs.zip ds).map (·.1) = vs ∧ (vs.zip ds).map (·.2) = ds := by
    intro vs
    induction vs with
    | nil => intro ds h; cases h; exact ⟨rfl, rfl⟩
    | cons v vs ih =>
      intro ds h
      cases h with
      | cons r t =>
        obtain ⟨a, b⟩ := ih t
        exact ⟨by rw [List.zip_cons_cons, List.map_cons, a], by rw [List.zip_cons_cons, List.map_cons, b]⟩
  exact h1 r
theorem zip_rep {K : PySem.W.Frag} {H : Hp} : ∀ {vs : List V} {ds : List D}, Reps K H vs ds → ∀ b ∈ vs.zip ds, Rep K H b.1 b.2 ∧ b.2 ∈ ds
  | _, _, .nil, b, h => by cases h
  | v :: vs, d :: ds, .cons r t, b, h => by
    rw [List.zip_cons_cons] at h
    rcases List.mem_cons.mp h with rfl | h
    · exact ⟨r, List.mem_cons_self⟩
    · obtain ⟨h1, h2⟩ := zip_rep t b h
      exact ⟨h1, List.mem_cons_of_mem _ h2⟩
theorem reps_zip {K : PySem.W.Frag} {H : Hp} : ∀ {bs : List (V × D)}, (∀ b ∈ bs, Rep K H b.1 b.2) → Reps K H (bs.map (·.1)) (bs.map (·.2))
  | [], _ => .nil
  | b :: bs, h => .cons (h b List.mem_cons_self) (reps_zip fun c m => h c (List.mem_cons_of_mem _ m))
theorem cd_sort {K : PySem.W.Frag} : CallD K (rSortD K) fSort := by
  intro W H vs ds a Q s h e q
  unfold fSort at e
  split at e
  · rename_i d
    cases z : lstD d with
    | none => rw [z] at e; cases e
    | some xs =>
      rw [z, Option.bind_some] at e
      split at e
      · rename_i c
        cases e
        obtain ⟨c1, c2, c3, c4⟩ := c
        obtain ⟨v, rfl, r⟩ := h.one
        obtain ⟨p, us, rfl, h2, h3⟩ := lst_ok s r z
        obtain ⟨z1, z2⟩ := zip_fst h3
        have zr := zip_rep h3
        have e1 : (us.zip xs).map (fun b => b.2.py) = xs.map D.py := by rw [← z2, List.map_map]; rw [z2]; rfl
        have hl : (us.zip xs).length = xs.length := by rw [← List.length_map (f := (·.2)), z2]
        refine ⟨p, us, us.zip xs, rfl, h2, z1, fun b m => dp_of ((zr b m).1.mono s) (c1 _ (zr b m).2).1, by rw [e1]; exact c2, by rw [e1]; exact c3, fun b m => (c1 _ (zr b m).2).2, by rw [hl]; exact leBig c4, fun n hn => ?_⟩
        have rp : Reps K W (((us.zip xs).mergeSort (PySem.W.dataLe false fun b : V × D => b.2.py)).map (·.1)) (((us.zip xs).mergeSort (PySem.W.dataLe false fun b : V × D => b.2.py)).map (·.2)) :=
          reps_zip fun b m => (zr b (List.mem_mergeSort.mp m)).1
        have e2 : ((us.zip xs).mergeSort (PySem.W.dataLe false fun b : V × D => b.2.py)).map (·.2) = xs.mergeSort dLe := by
          exact (List.map_mergeSort (r := PySem.W.dataLe false fun b : V × D => b.2.py) (s := dLe) (f := (·.2)) fun a _ b _ => rfl).trans (by rw [z2])
        rw [e2] at rp
        obtain ⟨t, nv⟩ := newV_ow s hn rp
        exact q _ _ _ t nv
      · cases e
  · cases e
/-! ### d.get(k, v) -/
def fGet2 : D → D → D → Option D := fun d k v => (keyOf d k).map fun o => o.getD v
def mGet2 (ma mb mc : M Val) : M Val := M.bind ma fun a e => if ((look e (hold a)).map D.isDct).getD false = true then M.bind mb (fun b => M.bind mc fun c e3 => match look e3 (hold a), look e3 (hold b), esc e3 c with
  | some d, some k, some (v, e4) => (match fGet2 d k v with
    | some o => .ok (.sh o) e4
    | none => .no)
  | _, _, _ => .no) e else .no
theorem isD_of {K : PySem.W.Frag} {W H : Hp} {x : V} {d : D} (s : Sub W H) (h : RepO K W H x d) (e : d.isDct = true) : ∃ a, x = .ref a ∧ IsD H a := by
  cases d with
  | dct t l =>
    obtain ⟨p, h1, c⟩ := repO_dct s h
    rcases c with ⟨_, kvs, h2, _⟩ | ⟨_, kvs, h2, _⟩
    · exact ⟨p, h1, .inl ⟨kvs, h2⟩⟩
    · exact ⟨p, h1, .inr ⟨kvs, h2⟩⟩
  | _ => cases e
theorem rd_get2 {Wx : WX} {ma mb mc : M Val} {σ : L2.St} {H : Hp} {Q : VK} (h : rdE X Wx (mGet2 ma mb mc) σ H Q) : tDGet2 (rdE X Wx ma) (rdE X Wx mb) (rdE X Wx mc) σ H Q := by
  obtain ⟨fg, la, W, e, rl, h⟩ := h
  refine ⟨fg, la, W, e, rl, (Post.bind h).mono fun W1 H1 e1 a s1 r1 h1 x hx => ?_⟩
  obtain ⟨W2, s2, r2, hx2⟩ := hold_ok r1 hx
  split at h1
  · rename_i c
    cases q : look e1 (hold a) with
    | none => rw [q] at c; cases c
    | some d =>
      rw [q] at c
      have c : d.isDct = true := c
      obtain ⟨ad, rfl, hd⟩ := isD_of r2.sub (look_ok r2 hx2 q) c
      refine ⟨ad, rfl, hd, fg, la, W2, e1, r2, ((Post.bind h1).wider s2).mono fun W3 H3 e3 b s3 r3 h3 y hy => ?_⟩
      obtain ⟨W4, s4, r4, hy4⟩ := hold_ok r3 hy
      refine ⟨fg, la, W4, e3, r4, ((Post.bind h3).wider s4).mono fun W5 H5 e5 c s5 r5 h5 z hz => ?_⟩
      have hx5 := held_mono (H' := H5) (e' := e5) hx2 ((s3.trans s4).trans s5)
      have hy5 := held_mono (H' := H5) (e' := e5) hy4 s5
      cases q1 : look e5 (hold a) with
      | none => rw [q1] at h5; exact (show False from h5).elim
      | some d1 =>
        cases q2 : look e5 (hold b) with
        | none => rw [q1, q2] at h5; exact (show False from h5).elim
        | some d2 =>
          cases q3 : esc e5 c with
          | none => rw [q1, q2, q3] at h5; exact (show False from h5).elim
          | some pr =>
            obtain ⟨dv, e6⟩ := pr
            rw [q1, q2, q3] at h5
            simp only at h5
            cases q4 : fGet2 d1 d2 dv with
            | none => rw [q4] at h5; exact (show False from h5).elim
            | some o =>
              rw [q4] at h5
              have L1 := look_ok r5 hx5 q1
              have L2' := look_ok r5 hy5 q2
              unfold fGet2 at q4
              cases q5 : keyOf d1 d2 with
              | none => rw [q5] at q4; cases q4
              | some oo =>
                rw [q5] at q4
                cases q4
                obtain ⟨a', r', ea, g, _, cc⟩ := get_ok r5.sub L1 L2' q5
                cases ea
                obtain ⟨W6, s6, r6, rv⟩ := esc_ok r5 hz q3
                refine ⟨r', g, (show ∀ W' H', Sub W5 W' → Rel X.K fg la W' H' σ e6 → ∀ v, ValOk X.K fg W' H' σ e6 v (.sh (oo.getD dv)) → Q v H' from h5) W6 H5 s6 r6 _ ?_⟩
                rcases cc with ⟨rfl, rfl⟩ | ⟨v, qd, rfl, rfl, rr⟩
                · exact rv
                · exact rr.mono s6
  · exact (show False from h1).elim
theorem de_get2 {Wx : WX} {o e f : Expr} {ma mb mc : M Val} {apos cpos : Pos} (hu : X.A.units + 1 < cLine) (ho : DE X Wx o ma) (he : DE X Wx e mb) (hf : DE X Wx f mc) (hm : M2 X o "get" apos e f cpos) : DE X Wx (.Call (.Attribute o "get" apos) [e, f] [] cpos) (mGet2 ma mb mc) :=
  PE.wk (pe_dget2 hu ho he hf hm) fun _ _ _ h => rd_get2 h
end
end VS

/-! VM: dict comprehensions, keys ints and texts or tuples of these. -/
namespace VS
open PySem PySem.Spec PyProof.Rows L2

/-- D[y] = z within a comprehension -/
def DSet (t : Bool) (H : Hp) (p : Addr) (y z : V) (H' : Hp) : Prop := match t with
  | false => ∃ kvs k, y = kV k ∧ H p = some (.dK kvs) ∧ kvs.length < sizeLine ∧ H' = upd H p (.dK (putK kvs k z))
  | true => ∃ kvs k b, y = .ref b ∧ H b = some (.tup (k.map kV)) ∧ H p = some (.dT kvs) ∧ kvs.length < sizeLine ∧ H' = upd H p (.dT (putK kvs k z))
def nwD : Bool → HO
  | false => .dK []
  | true => .dT []
section
variable {X : Cx}
theorem dset_ok {t : Bool} {pins : List (Addr × Obj)} {σ : L2.St} {H H' : Hp} {s : Shared} {E : Value → Shared → Prop} {p : Addr} {y z : V} {u r : Value} {Q : Unit → Shared → Prop} (hu : X.A.units < cLine) (I : L2.Inv X pins σ H s) (hd : DSet t H p y z H') (ry : RelV y u) (rz : RelV z r)
    (q : ∀ s', L2.Inv X pins σ H' s' → Q () s') : wpAny (model X.prog X.w) X.A (dictSet p u r) Q E s := by
  cases t with
  | false =>
    obtain ⟨kvs, k, rfl, hp, hl, rfl⟩ := hd
    exact d_dictSet I hp hl ry rz q
  | true =>
    obtain ⟨kvs, k, b, rfl, hb, hp, hl, rfl⟩ := hd
    cases (show u = .ref b from ry)
    obtain ⟨_, hm, xs, kt, hx⟩ := dt_of I.hok hp
    have hlx : xs.length ≤ sizeLine := by rw [← KT.len kt]; omega
    refine wpAny_dictSet_heap (knd := tupleKind (mixKind X.prog X.w)) hu (key_of I.hok hb) hx (fun h' hx' sb => q _ ?_) hlx
    have hne : ∀ (c : Addr) (ys : List V), H c = some (.tup ys) → (upd H p (.dT (putK kvs k z))) c = some (.tup ys) := fun c ys hc => by
      rw [upd_ne (ne_of hc hp (by intro w; cases w))]
      exact hc
    obtain ⟨o, es, ep, ho, j1, j2, j3, _, j5⟩ := hx'
    refine d_write I (by rw [hp]; exact trivial) sb ⟨o, ho⟩ ⟨?_, hm, storedH xs k b r, ?_, o, es, ep, ho, j1, j2, j3, j5⟩
    · have := length_putK kvs k z
      omega
    · exact (KT.put kt k hb rz).keeps hne
def tDcG (t : Bool) (wi : TI) (g : TG) (tt : TT) (tk tv : TE) (vs : List Nat) : TE := fun σ H Q => wi σ H fun J H1 => ∀ p : Addr, H1 p = none → ∃ W : Nat → Nat → Hp → Prop, (∃ m, W 0 m (upd H1 p (nwD t))) ∧ ∀ (i m : Nat) (H : Hp), W i m H →
  (J.stop i H ∧ Q (.ref p) H) ∨ (J.go i H ∧ ∃ Nx : Hp → Prop, (∀ H', Nx H' → ∃ m', m' < m ∧ W (i + 1) m' H') ∧ ∀ (x : V) (H' : Hp), J.yld i H x H' →
    g x (wipe σ vs) H' fun σ2 H2 => wipe σ2 vs = wipe σ vs ∧ tt σ2 H2 fun b H3 => if b = true then tk σ2 H3 (fun y H4 => tv σ2 H4 fun z H5 => ∃ H6, DSet t H5 p y z H6 ∧ Nx H6) else Nx H3)
theorem nw_ok {t : Bool} {P : Program} {w : World} {H : Hp} (h : Heap) (hb : sysModules < h.objs.size) : ObjOk P w H (h.push { cls := .type "dict", data := .dict #[] }) h.objs.size (nwD t) := by
  cases t with
  | false => exact dk_empty h hb
  | true => exact dt_empty h hb
abbrev BY (X : Cx) (s3 : Shared) (H3 : Hp) (scope : Scope) (cl : List (Str × Addr)) (fp : List Addr) : Cx := X.blk s3 H3 scope (compEnvC scope cl s3.heap.objs.size X.env) fp
theorem dc_loop {t : Bool} {kx vx tg iter : Expr} {ifs : List Expr} {scope : Scope} {pos : Pos} {g : TG} {tt : TT} {tk tv : TE} {vs : List Nat} {s3 s5 : Shared} {H3 : Hp} {cl : List (Str × Addr)} {fp : List Addr} {J : It} {it p : Addr} {tn : Nat → Heap → Prop} {σ : L2.St} {W : Nat → Nat → Hp → Prop} {Q : VK}
    {R : Result → Shared → Prop} (hu : X.A.units < cLine) (hc : X.calm = true) (T : Turn X.prog X.w X.K tg J fp it tn)
    (pg : PG (BY X s3 H3 scope cl fp) tg g) (pt : PTs (BY X s3 H3 scope cl fp) ifs tt) (pk : PE (BY X s3 H3 scope cl fp) kx tk) (pe : PE (BY X s3 H3 scope cl fp) vx tv)
    (turn : ∀ (i m : Nat) (H : Hp), W i m H → (J.stop i H ∧ Q (.ref p) H) ∨ (J.go i H ∧ ∃ Nx : Hp → Prop, (∀ H', Nx H' → ∃ m', m' < m ∧ W (i + 1) m' H') ∧ ∀ (x : V) (H' : Hp), J.yld i H x H' →
      g x (wipe σ vs) H' fun σ2 H2 => wipe σ2 vs = wipe σ vs ∧ tt σ2 H2 fun b H3 => if b = true then tk σ2 H3 (fun y H4 => tv σ2 H4 fun z H5 => ∃ H6, DSet t H5 p y z H6 ∧ Nx H6) else Nx H3))
    (done : ∀ s6 H6, L2.Inv (BY X s3 H3 scope cl fp) [] (wipe σ vs) H6 s6 → Q (.ref p) H6 → R (.ok .next) s6)
    {i n : Nat} {H5 : Hp} (I5 : L2.Inv (BY X s3 H3 scope cl fp) [] (wipe σ vs) H5 s5) (st5 : tn i s5.heap) (n5 : ∀ b ∈ fp, H5 b = none) (w5 : W i n H5) :
    codeAny (model X.prog X.w) X.A (.compLoop (.DictComp kx vx [⟨tg, iter, ifs, 0⟩] scope pos) 0 (.ref it) (.ref p) (compEnvC scope cl s3.heap.objs.size X.env)) R s5 := by
  have stat : ∀ {H' : Hp} {s' : Shared}, L2.Inv (BY X s3 H3 scope cl fp) [] (wipe σ vs) H' s' → (∀ b ∈ fp, H' b = none) → ∀ b ∈ fp, FpOk (BY X s3 H3 scope cl fp) [] H' b := fun I' hn b hb =>
    ⟨hn b hb, (I'.ok.exf b hb).1, I'.ok.exfs b hb, .inl hb, fun x c e => (I'.ok.exf b hb).2 x c e, fun q hq => nomatch hq⟩
  refine compLoop_anyD (fun n s' => ∃ i H', L2.Inv (BY X s3 H3 scope cl fp) [] (wipe σ vs) H' s' ∧ tn i s'.heap ∧ (∀ b ∈ fp, H' b = none) ∧ W i n H') ?_ n ⟨i, H5, I5, st5, n5, w5⟩
  clear I5 st5 n5 w5
  rintro n s5 ⟨i, H5, I5, st5, n5, w5⟩
  rcases turn i n H5 w5 with ⟨stop, qq⟩ | ⟨go, Nx, hNx, step⟩
  · refine thnF (T.done (BY X s3 H3 scope cl fp) rfl rfl rfl hc i [] s5 (wipe σ vs) H5 (fun _ _ => False) I5 (stat I5 n5) st5 stop) fun r s6 h => ?_
    obtain ⟨rfl, I6⟩ := h
    exact done s6 H5 I6 qq
  · refine thnF (T.item (BY X s3 H3 scope cl fp) rfl rfl rfl hc i [] s5 (wipe σ vs) H5 (fun _ _ => False) I5 (stat I5 n5) st5 go) fun r s6 h => ?_
    obtain ⟨u, rfl, h6⟩ := h
    refine thnF h6 fun _ s7 h7 => ?_
    obtain ⟨x, H7, I7, r7, y7, st7, n7⟩ := h7
    have I7p := Inv.pinned I7 (stat I7 n7) (T.obj (i + 1) s7.heap st7)
    refine thnF (pg.run _ s7 (wipe σ vs) H7 x u _ I7p r7 (step x H7 y7)) fun _ s8 h8 => ?_
    obtain ⟨σ8, H8, I8, hw8, q8⟩ := h8
    refine thnF (pt.run _ s8 σ8 H8 _ I8 q8) fun b s9 h9 => ?_
    obtain ⟨H9, I9, q9⟩ := h9
    have fin : ∀ {s' : Shared} {H' : Hp}, L2.Inv (BY X s3 H3 scope cl fp) ([] ++ pinsAt fp s7.heap) σ8 H' s' → Nx H' → ∃ m, m < n ∧ ∃ i H', L2.Inv (BY X s3 H3 scope cl fp) [] (wipe σ vs) H' s' ∧ tn i s'.heap ∧ (∀ b ∈ fp, H' b = none) ∧ W i m H' := fun {s' H'} I' nx => by
      obtain ⟨m', hm, w'⟩ := hNx H' nx
      have pin' : ∀ b ∈ fp, ∀ o, s7.heap.get? b = some o → s'.heap.get? b = some o ∧ H' b = none := fun b hb o e => by
        have z := I'.pin (b, o) (List.mem_append_right _ (List.mem_append_right _ (mem_pinsAt hb e)))
        exact ⟨z.1, z.2.1⟩
      refine ⟨m', hm, i + 1, H', (I'.unpinned).weak (by rw [← hw8, wipe_length]) (fun j v e => ?_), T.keep (i + 1) _ _ st7 fun b hb o e => (pin' b hb o e).1, fun b hb => ?_, w'⟩
      · rw [← hw8] at e
        exact (wipe_some e).1
      · obtain ⟨o, e, _⟩ := T.obj (i + 1) s7.heap st7 b hb
        exact (pin' b hb o e).2
    cases b with
    | false => exact fin I9 q9
    | true =>
      refine thnF (pk.run _ s9 σ8 H9 _ I9 q9) fun kv s10 h10 => ?_
      obtain ⟨y, H10, I10, r10, q10⟩ := h10
      refine thnF (pe.run _ s10 σ8 H10 _ I10 q10) fun vv s11 h11 => ?_
      obtain ⟨z, H11, I11, r11, H12, ds, nx⟩ := h11
      exact dset_ok (X := BY X s3 H3 scope cl fp) hu I11 ds r10 r11 fun s' I' => fin I' nx
theorem pe_dcG {t : Bool} {kx vx tg iter : Expr} {ifs : List Expr} {scope : Scope} {own : List (Str × Nat)} {pos : Pos} {wi : TI} {g : TG} {tt : TT} {tk tv : TE} (hu : X.A.units < cLine) (hc : X.calm = true) (hN : X.N.Nodup) (hi : PI X tg iter wi) (ok : BlkOk X.N X.env.scope scope own)
    (hg : ∀ (s : Shared) (H : Hp) (C : Addr) (cl : List (Str × Addr)) (fp : List Addr), PG (X.blk s H scope (compEnvC scope cl C X.env) fp) tg g)
    (ht : ∀ (s : Shared) (H : Hp) (C : Addr) (cl : List (Str × Addr)) (fp : List Addr), PTs (X.blk s H scope (compEnvC scope cl C X.env) fp) ifs tt)
    (hk : ∀ (s : Shared) (H : Hp) (C : Addr) (cl : List (Str × Addr)) (fp : List Addr), PE (X.blk s H scope (compEnvC scope cl C X.env) fp) kx tk)
    (he : ∀ (s : Shared) (H : Hp) (C : Addr) (cl : List (Str × Addr)) (fp : List Addr), PE (X.blk s H scope (compEnvC scope cl C X.env) fp) vx tv)
    (hs : ∀ x, foldedSetIterable iter X.env x = pure x) : PE X (.DictComp kx vx [⟨tg, iter, ifs, 0⟩] scope pos) (tDcG t wi g tt tk tv (own.map (·.2))) := by
  refine ⟨fun pins s σ H Q I h => ?_⟩
  rw [arm_eval_DictComp]
  refine wpAny_comprehension_free (cl := cloFrom X.env.cells scope.names []) rfl hs (closure_ok fun y hy hf => ?_) ok.kind (fun y hy hl => by rw [ok.uniq y hy, hl]) ?_
  · rcases ok.free y hy hf with z | z
    · exact I.ok.has _ (.inl z)
    · exact I.ok.has _ (.inr z)
  refine thn (hi.run pins s σ H _ I h) fun xv s1 hx => thn hx fun itv s2 h2 => ?_
  obtain ⟨it, fp, tn, J, H2, rfl, I2, T, st2, f2, q⟩ := h2
  refine wpAny_newObj_type ?_ (by rw [sizeOk]; exact Nat.zero_le _)
  refine newEnv_comp ?_
  have hDn : H2 s2.heap.objs.size = none := I2.hok.fresh (Nat.le_refl _)
  obtain ⟨W, ⟨m0, w0⟩, turn⟩ := q s2.heap.objs.size hDn
  generalize hs3 : ({ heap := s2.heap.push { cls := .type "dict", data := .dict #[] }, gens := s2.gens, drawn := s2.drawn, toks := s2.toks, os := s2.os } : Shared) = s3
  have h3 : s3.heap = s2.heap.push { cls := .type "dict", data := .dict #[] } := by subst hs3; rfl
  have old3 : ∀ b o, s2.heap.get? b = some o → s3.heap.get? b = some o := fun b o e => by rw [h3]; exact Heap.get?_push_of_some _ e
  have I3 : L2.Inv X pins σ (upd H2 s2.heap.objs.size (nwD t)) s3 := by
    subst hs3
    exact Inv.laid I2 (fun b o e => Heap.get?_push_of_some _ e) (Nat.le_refl _) (nw_ok s2.heap I2.big)
  have sz : ∀ b ∈ fp, b < s2.heap.objs.size := fun b hb => by
    obtain ⟨o, e, _⟩ := T.obj 0 _ st2 b hb
    exact Heap.lt_size e
  have f3 : ∀ b ∈ fp, FpOk X pins (upd H2 s2.heap.objs.size (nwD t)) b ∧ b < s3.heap.objs.size := fun b hb => by
    have hlt := sz b hb
    refine ⟨⟨by rw [upd_ne (Nat.ne_of_lt hlt)]; exact (f2 b hb).1, (f2 b hb).2⟩, ?_⟩
    rw [h3, Heap.size_push]
    exact Nat.lt_succ_of_lt hlt
  have st3 : tn 0 s3.heap := T.keep 0 _ _ st2 fun b _ o e => old3 b o e
  have I4 := block_start I3 ok hN f3
  generalize hcl : cellsFrom (s3.heap.objs.size + 1) scope.names (cloFrom X.env.cells scope.names []) = cl at I4 ⊢
  have pg := hg s3 (upd H2 s2.heap.objs.size (nwD t)) s3.heap.objs.size cl fp
  have pt := ht s3 (upd H2 s2.heap.objs.size (nwD t)) s3.heap.objs.size cl fp
  have pk := hk s3 (upd H2 s2.heap.objs.size (nwD t)) s3.heap.objs.size cl fp
  have pe := he s3 (upd H2 s2.heap.objs.size (nwD t)) s3.heap.objs.size cl fp
  have I4' : L2.Inv (BY X s3 (upd H2 s2.heap.objs.size (nwD t)) scope cl fp) [] (wipe σ (own.map (·.2))) (upd H2 s2.heap.objs.size (nwD t)) { heap := pushCells (s3.heap.push { cls := .type "dict", data := .dict #[] }) scope.names, gens := s3.gens, drawn := s3.drawn, toks := s3.toks, os := s3.os } := I4
  have st4 : tn 0 (pushCells (s3.heap.push { cls := .type "dict", data := .dict #[] }) scope.names) := T.keep 0 _ _ st3 fun b _ o e => pushCells_keeps _ _ b o (Heap.get?_push_of_some _ e)
  have fn4 : ∀ b ∈ fp, (upd H2 s2.heap.objs.size (nwD t)) b = none := fun b hb => (f3 b hb).1.1
  have loop := dc_loop (pos := pos) (iter := iter) (p := s2.heap.objs.size) (R := compPost (model X.prog X.w) X.A X.xe none (EP X pins σ Q) (.ref s2.heap.objs.size) s3.heap.objs.size) hu hc T pg pt pk pe turn (fun s6 H6 I6 qq => by
    have I7 : L2.Inv X pins σ H6 s6 := Inv.call' I3 I6.os I6.base I6.hok I6.bare fun b hb =>
      ⟨(f3 b hb).1.2.2.2.1, (f3 b hb).1.2.1, (f3 b hb).1.2.2.2.2.1, (f3 b hb).1.2.2.2.2.2⟩
    have nC : H6 s3.heap.objs.size = none := I6.free
    obtain ⟨mm, hn, _⟩ := I6.loc
    have fo : FpOk X pins H6 s3.heap.objs.size := Inv.fpOk I3 (Nat.le_refl _) nC
    exact ⟨mm, hn, fun h' sb => ⟨.ref s2.heap.objs.size, H6, Inv.turned I7 (fun b o nb e => (sb.2 b nb).trans e) nC fo.2.1 fo.2.2.2.1 fo.2.2.2.2.1 fo.2.2.2.2.2, rfl, qq⟩⟩) I4' st4 fn4 w0
  exact codeAny_compStart_dict loop (T.self _ 0 _ _ _ st4 loop)

/-! ### by data -/
def keyD (t : Bool) (k : D) : Bool := match t with
  | false => (keyK k).isSome
  | true => (keyT k).isSome
def putD2 (t : Bool) (l : List (D × D)) (k v : D) : Option (List (D × D)) := match t with
  | false => (keyK k).map fun q => putL keyK l q k v
  | true => (keyT k).map fun q => putL keyT l q k v
def dcL (t : Bool) (vs : List Nat) (g : D → Env → Option Env) (mt : M Bool) (mk me : M Val) : List D → List (D × D) → Env → Option (List (D × D) × Env)
  | [], acc, e => some (acc, e)
  | d :: ds, acc, e => match g d e with
    | none => none
    | some e1 => match mt e1 with
      | .ok true e2 => match mk e2 with
        | .ok a e3 => match esc e3 a with
          | some (k, e4) => match me e4 with
            | .ok b e5 => match esc e5 b with
              | some (x, e6) => if acc.length < 1000000 then (match putD2 t acc k x with
                | some acc' => dcL t vs g mt mk me ds acc' (wipeE e6 vs)
                | none => none) else none
              | none => none
            | _ => none
          | none => none
        | _ => none
      | .ok false e2 => dcL t vs g mt mk me ds acc (wipeE e2 vs)
      | _ => none
def mDc (t : Bool) (vs : List Nat) (mi : M (List D)) (g : D → Env → Option Env) (mt : M Bool) (mk me : M Val) : M Val := M.bind mi fun ds e => match dcL t vs g mt mk me ds [] (wipeE e vs) with
  | some (acc, e') => .ok (.ow (.dct t acc)) (back e e' vs)
  | none => .no
theorem own_dct {K : PySem.W.Frag} {W H : Hp} {p : Addr} {t : Bool} {l : List (D × D)} (h : Own K W H p (.dct t l)) : ∃ o, H p = some o ∧ Mut (some o) := by
  cases t
  · obtain ⟨kvs, h, _⟩ := h; exact ⟨_, h, trivial⟩
  · obtain ⟨kvs, h, _⟩ := h; exact ⟨_, h, trivial⟩
/-- an entry set by data -/
theorem dput_ok {K : PySem.W.Frag} {W H : Hp} {t : Bool} {p : Addr} {l l' : List (D × D)} {y z : V} {k x : D} (s : Sub W H) (ow : Own K W H p (.dct t l)) (ry : Rep K W y k) (rz : Rep K W z x) (hl : l.length < 1000000) (h : putD2 t l k x = some l') :
    ∃ o, DSet t H p y z (upd H p o) ∧ Own K W (upd H p o) p (.dct t l') := by
  cases t with
  | false =>
    obtain ⟨kvs, hp, rk⟩ := ow
    unfold putD2 at h
    simp only at h
    cases q : keyK k with
    | none => rw [q] at h; cases h
    | some kk =>
      rw [q] at h
      cases h
      have ek := keyK_some q
      subst ek
      have ey : y = kV kk := by
        cases kk with
        | inl z => cases (show Rep K W y (.int z) from ry); rfl
        | inr z => cases (show Rep K W y (.str z) from ry); rfl
      exact ⟨_, ⟨kvs, kk, ey, hp, ltBig (by rw [rk.length]; exact hl), rfl⟩, _, upd_same, putK_ok rk rz⟩
  | true =>
    obtain ⟨kvs, hp, rk⟩ := ow
    unfold putD2 at h
    simp only at h
    cases q : keyT k with
    | none => rw [q] at h; cases h
    | some kk =>
      rw [q] at h
      cases h
      have ek := keyT_some q
      subst ek
      cases (show Rep K W y (.tup (kk.map kD)) from ry) with
      | tup ha rs =>
        have ev := keys_vals rs
        subst ev
        exact ⟨_, ⟨kvs, kk, _, rfl, s _ _ ha, hp, ltBig (by rw [rk.length]; exact hl), rfl⟩, _, upd_same, putT_ok rk rz⟩
theorem own_keep {K : PySem.W.Frag} {W W' H H' : Hp} {p : Addr} {d : D} {o : HO} (h : Own K W H p d) (hp : H p = some o) (s : Sub W W') (hp' : H' p = some o) : Own K W' H' p d := h.mono s fun u hu => by rw [hp] at hu; cases hu; exact hp'
theorem rd_dcB {t : Bool} {Wx : WX} {vs is : List Nat} {g : D → Env → Option Env} {mt : M Bool} {mk me : M Val} (hi : ∀ j ∈ is, j ∈ vs) {σ : L2.St} {H1 W1 fg : Hp} {la : Nat → Addr} {e1 : Env} {ds : List D} {J : It} {Q : VK} (r1 : Rel X.K fg la W1 H1 σ e1)
    (h1 : Post X Wx fg la W1 σ (fun W' H' e' a => ∀ v, ValOk X.K fg W' H' σ e' v a → Q v H') (match dcL t vs g mt mk me ds [] (wipeE e1 vs) with
  | some (acc, e') => .ok (.ow (.dct t acc)) (back e1 e' vs)
  | none => .no)) (hJ : ItOk X.K W1 J ds) : tDcG t (fun _ H R => R J H) (rdG X.K is g) (rdT X WF mt) (rdE X WF mk) (rdE X WF me) vs σ H1 Q := by
  intro Dl hD
  cases q0 : dcL t vs g mt mk me ds [] (wipeE e1 vs) with
  | none => rw [q0] at h1; exact (show False from h1).elim
  | some p0 =>
    obtain ⟨accF, eF⟩ := p0
    rw [q0] at h1
    have h1 : ∀ W' H', Sub W1 W' → Rel X.K fg la W' H' σ (back e1 eF vs) → ∀ v, ValOk X.K fg W' H' σ (back e1 eF vs) v (.ow (.dct t accF)) → Q v H' := h1
    have fD : fg Dl = none := by
      cases z : fg Dl with
      | none => rfl
      | some u => have := (r1.frn Dl u z).1; rw [hD] at this; cases this
    have start : Rel X.K (upd fg Dl (nwD t)) la W1 (upd H1 Dl (nwD t)) (wipe σ vs) (wipeE e1 vs) := by
      have st : Step W1 H1 W1 (upd H1 Dl (nwD t)) := .newH r1.sub hD
      refine ((r1.step st).wiped vs).keep upd_same (r1.sub.none hD) fun i c qc o s => ?_
      obtain ⟨p, d, s', w, f, ow, _⟩ := ((r1.wiped vs).cell i c qc).at_ o
      rw [s] at s'; cases s'
      obtain ⟨u, hu⟩ := ow.some
      rw [hD] at hu; cases hu
    have own0 : Own X.K W1 (upd H1 Dl (nwD t)) Dl (.dct t []) := by
      cases t
      · exact ⟨[], upd_same, .nil⟩
      · exact ⟨[], upd_same, .nil⟩
    refine ⟨fun i m H => (m = ds.length - i ∧ i ≤ ds.length) ∧ ∃ W2 e2 acc o, Sub W1 W2 ∧ H Dl = some o ∧ Own X.K W2 H Dl (.dct t acc) ∧ Rel X.K (upd fg Dl o) la W2 H (wipe σ vs) e2 ∧ dcL t vs g mt mk me (ds.drop i) acc e2 = some (accF, eF),
      ⟨_, ⟨rfl, Nat.zero_le _⟩, W1, wipeE e1 vs, [], nwD t, .refl _, upd_same, own0, start, q0⟩, ?_⟩
    rintro i m H2 ⟨⟨rfl, hle⟩, W2, e2, acc, od, s2, hd2, ra, r2, p2⟩
    obtain ⟨go, st⟩ := hJ i W2 H2 s2 r2.sub
    by_cases hlt : i < ds.length
    · have hd : ds[i]? = some ds[i] := List.getElem?_eq_getElem hlt
      obtain ⟨g1, y⟩ := go _ hd
      have ed : ds.drop i = ds[i] :: ds.drop (i + 1) := List.drop_eq_getElem_cons hlt
      rw [ed] at p2
      refine .inr ⟨g1, fun H => ∃ W2 e2 acc o, Sub W1 W2 ∧ H Dl = some o ∧ Own X.K W2 H Dl (.dct t acc) ∧ Rel X.K (upd fg Dl o) la W2 H (wipe σ vs) e2 ∧ dcL t vs g mt mk me (ds.drop (i + 1)) acc e2 = some (accF, eF),
        fun H' n => ⟨ds.length - (i + 1), by omega, ⟨rfl, hlt⟩, n⟩, fun x H' yx => ?_⟩
      obtain ⟨W3, t3, rp⟩ := y x H' yx
      unfold dcL at p2
      cases q : g ds[i] e2 with
      | none => rw [q] at p2; cases p2
      | some e3 =>
        rw [q] at p2
        simp only at p2
        refine ⟨upd fg Dl od, la, W3, e2, ds[i], e3, r2.step t3, rp, q, fun σ4 l4 o4 r4 => ?_⟩
        have w4 : wipe σ4 vs = wipe σ vs := by
          have e1 := wipe_ext (σ := wipe σ vs) (σ' := σ4) (vs := vs) l4 fun j hj => o4 j fun m => hj (hi j m)
          have e2 := wipe_ext (σ := σ) (σ' := wipe σ vs) (vs := vs) (wipe_length σ vs) fun j hj => wipe_get hj
          exact e1.trans e2
        refine ⟨w4, upd fg Dl od, la, W3, e3, r4, ?_⟩
        cases q2 : mt e3 with
        | no => rw [q2] at p2; cases p2
        | ex z e4 => rw [q2] at p2; cases p2
        | ok b e4 =>
          rw [q2] at p2
          intro W5 H5 s5 r5
          cases b with
          | false =>
            simp only at p2
            rw [if_neg Bool.false_ne_true]
            have h5 := (r5.frn Dl _ upd_same).1
            refine ⟨W5, wipeE e4 vs, acc, od, (s2.trans t3.w).trans s5, h5, own_keep ra hd2 (t3.w.trans s5) h5, ?_, p2⟩
            have := r5.wiped vs
            rw [w4] at this
            exact this
          | true =>
            simp only at p2
            rw [if_pos rfl]
            refine ⟨upd fg Dl od, la, W5, e4, r5, ?_⟩
            cases q3 : mk e4 with
            | no => rw [q3] at p2; cases p2
            | ex z e5 => rw [q3] at p2; cases p2
            | ok a e5 =>
              rw [q3] at p2
              simp only at p2
              intro W6 H6 s6 r6 v hv
              cases q4 : esc e5 a with
              | none => rw [q4] at p2; cases p2
              | some pp =>
                obtain ⟨kd, e6⟩ := pp
                rw [q4] at p2
                simp only at p2
                obtain ⟨W7, s7, r7, rv⟩ := esc_ok r6 hv q4
                refine ⟨upd fg Dl od, la, W7, e6, r7, ?_⟩
                cases q5 : me e6 with
                | no => rw [q5] at p2; cases p2
                | ex z e5 => rw [q5] at p2; cases p2
                | ok b e7 =>
                  rw [q5] at p2
                  simp only at p2
                  intro W8 H8 s8 r8 w hw
                  cases q6 : esc e7 b with
                  | none => rw [q6] at p2; cases p2
                  | some pp =>
                    obtain ⟨xd, e8⟩ := pp
                    rw [q6] at p2
                    simp only at p2
                    obtain ⟨W9, s9, r9, rw9⟩ := esc_ok r8 hw q6
                    by_cases hl : acc.length < 1000000
                    · rw [if_pos hl] at p2
                      cases q7 : putD2 t acc kd xd with
                      | none => rw [q7] at p2; cases p2
                      | some acc' =>
                        rw [q7] at p2
                        simp only at p2
                        have s39 : Sub W2 W9 := ((((t3.w.trans s5).trans s6).trans s7).trans s8).trans s9
                        have hd9 := (r9.frn Dl _ upd_same)
                        have ow9 : Own X.K W9 H8 Dl (.dct t acc) := own_keep ra hd2 s39 hd9.1
                        obtain ⟨o, ds9, ow'⟩ := dput_ok r9.sub ow9 (rv.mono (s8.trans s9)) rw9 hl q7
                        have rr := r9.wiped vs
                        rw [w4] at rr
                        exact ⟨_, ds9, W9, wipeE e8 vs, acc', o, s2.trans s39, upd_same, ow', rr.write fD (ra.nt hd2), p2⟩
                    · rw [if_neg hl] at p2; cases p2
    · have ed : ds.drop i = [] := List.drop_eq_nil_of_le (by omega)
      rw [ed] at p2
      obtain ⟨rfl, rfl⟩ : acc = accF ∧ e2 = eF := by
        have z := Option.some.inj p2
        exact ⟨congrArg Prod.fst z, congrArg Prod.snd z⟩
      have hd2' := r2.frn Dl _ upd_same
      have rb : Rel X.K fg la W2 H2 σ (back e1 e2 vs) := Rel.backed r1 s2 (r2.less (.new fD))
      refine .inl ⟨st (by omega), h1 W2 H2 s2 rb _ ⟨Dl, rfl, hd2'.2 (ra.nt hd2), fD, ra, fun j c qc o s => ?_⟩⟩
      rw [back_get] at qc
      by_cases mm : j ∈ vs ∧ j < e2.length
      · rw [if_pos mm] at qc
        cases qc
        split at o <;> cases o
      · rw [if_neg mm] at qc
        obtain ⟨p, d, s', w, f, ow, _⟩ := (r2.cell j c qc).at_ o
        rw [wipe_get (fun h => mm ⟨h, (List.getElem?_eq_some_iff.mp qc).1⟩), s] at s'
        cases s'
        rw [upd_same] at f; cases f
theorem rd_dc {t : Bool} {Wx : WX} {vs is : List Nat} {mi : M (List D)} {g : D → Env → Option Env} {mt : M Bool} {mk me : M Val} (hi : ∀ j ∈ is, j ∈ vs) {σ : L2.St} {H : Hp} {Q : VK} (h : rdE X Wx (mDc t vs mi g mt mk me) σ H Q) :
    tDcG t (rdI X Wx mi) (rdG X.K is g) (rdT X WF mt) (rdE X WF mk) (rdE X WF me) vs σ H Q := by
  obtain ⟨fg, la, W, e, rl, h⟩ := h
  exact ⟨fg, la, W, e, rl, (Post.bind h).mono fun W1 H1 e1 ds s1 r1 h1 J hJ => rd_dcB hi r1 h1 hJ⟩
theorem de_dc {t : Bool} {Wx : WX} {kx vx tg iter : Expr} {ifs : List Expr} {scope : Scope} {own : List (Str × Nat)} {is : List Nat} {pos : Pos} {mi : M (List D)} {g : D → Env → Option Env} {mt : M Bool} {mk me : M Val} (hu : X.A.units < cLine) (hc : X.calm = true) (hN : X.N.Nodup) (hi : DI X Wx tg iter mi)
    (ok : BlkOk X.N X.env.scope scope own) (hg : Blk X scope fun Y => DG Y tg is g) (ht : Blk X scope fun Y => DTs Y WF ifs mt) (hk : Blk X scope fun Y => DE Y WF kx mk) (he : Blk X scope fun Y => DE Y WF vx me) (hv : ∀ j ∈ is, j ∈ own.map (·.2)) (hs : ∀ x, foldedSetIterable iter X.env x = pure x := by intro _; rfl) :
    DE X Wx (.DictComp kx vx [⟨tg, iter, ifs, 0⟩] scope pos) (mDc t (own.map (·.2)) mi g mt mk me) :=
  PE.wk (pe_dcG (t := t) (g := rdG X.K is g) (tt := rdT X WF mt) (tk := rdE X WF mk) (tv := rdE X WF me) hu hc hN hi ok (fun s H C cl fp => hg s H C cl fp) (fun s H C cl fp => ht s H C cl fp) (fun s H C cl fp => hk s H C cl fp) (fun s H C cl fp => he s H C cl fp) hs) fun _ _ _ h => rd_dc hv h
/-! ### {} -/
def mNewD (t : Bool) : M Val := fun e => .ok (.ow (.dct t [])) e
theorem de_newD {Wx : WX} {pos : Pos} (t : Bool) : DE X Wx (.Dict [] [] pos) (mNewD t) := by
  have go : ∀ (p : Addr) {fg la W e σ H} {Q : VK}, Rel X.K fg la W H σ e → Post X Wx fg la W σ (fun W' H' e' a => ∀ v, ValOk X.K fg W' H' σ e' v a → Q v H') (mNewD t e) → H p = none → Q (.ref p) (upd H p (nwD t)) := fun p {fg la W e σ H Q} rl h hp => by
    have st : Step W H W (upd H p (nwD t)) := .newH rl.sub hp
    refine (show ∀ W' H', Sub W W' → Rel X.K fg la W' H' σ e → ∀ v, ValOk X.K fg W' H' σ e v (.ow (.dct t [])) → Q v H' from h) W _ (.refl _) (rl.step st) _ (NewV.ok (W := W) (H := H) rl st ⟨p, rfl, hp, rl.sub.none hp, ?_⟩)
    cases t
    · exact ⟨[], upd_same, .nil⟩
    · exact ⟨[], upd_same, .nil⟩
  cases t with
  | false => exact PE.wk pe_dnewK fun σ H Q h p hp => by obtain ⟨fg, la, W, e, rl, h⟩ := h; exact go p rl h hp
  | true => exact PE.wk pe_dnewT fun σ H Q h p hp => by obtain ⟨fg, la, W, e, rl, h⟩ := h; exact go p rl h hp
end
end VS

/-! VN: what is walked: dicts (locked), enumerate, zip; two clauses. -/
namespace VS
open PySem PySem.Spec PyProof.Rows L2

/-- a dict is locked, or no longer -/
structure Sw (x y : HO) : Prop where
  l : ∀ xs, x ≠ .lst xs ∧ x ≠ .tup xs ∧ ∀ o, x ≠ .frz o (.lst xs)
  k : ∀ kvs, (x = .dK kvs ∨ ∃ o, x = .frz o (.dK kvs)) → (y = .dK kvs ∨ ∃ o, y = .frz o (.dK kvs))
  t : ∀ kvs, (x = .dT kvs ∨ ∃ o, x = .frz o (.dT kvs)) → (y = .dT kvs ∨ ∃ o, y = .frz o (.dT kvs))
def isDo : HO → Prop
  | .dK _ => True
  | .dT _ => True
  | _ => False
theorem Sw.lock {u : HO} (h : isDo u) (od : Obj) : Sw u (.frz od u) := by
  cases u with
  | dK kvs => exact ⟨fun xs => ⟨by simp, by simp, by simp⟩, (fun k z => by rcases z with z | ⟨o, z⟩ <;> cases z; exact .inr ⟨od, rfl⟩), (fun k z => by rcases z with z | ⟨o, z⟩ <;> cases z)⟩
  | dT kvs => exact ⟨fun xs => ⟨by simp, by simp, by simp⟩, (fun k z => by rcases z with z | ⟨o, z⟩ <;> cases z), (fun k z => by rcases z with z | ⟨o, z⟩ <;> cases z; exact .inr ⟨od, rfl⟩)⟩
  | _ => exact h.elim
theorem Sw.unlock {u : HO} (h : isDo u) (od : Obj) : Sw (.frz od u) u := by
  cases u with
  | dK kvs => exact ⟨fun xs => ⟨by simp, by simp, by simp⟩, (fun k z => by rcases z with z | ⟨o, z⟩ <;> cases z; exact .inl rfl), (fun k z => by rcases z with z | ⟨o, z⟩ <;> cases z)⟩
  | dT kvs => exact ⟨fun xs => ⟨by simp, by simp, by simp⟩, (fun k z => by rcases z with z | ⟨o, z⟩ <;> cases z), (fun k z => by rcases z with z | ⟨o, z⟩ <;> cases z; exact .inl rfl)⟩
  | _ => exact h.elim
section
variable {K : PySem.W.Frag} {W H : Hp} {a : Addr} {x y : HO}
theorem Sw.rdK (s : Sw x y) (h : W a = some x) {b : Addr} {kvs : List (Key × V)} (r : Rd W b (.dK kvs)) : Rd (upd W a y) b (.dK kvs) := by
  by_cases z : b = a
  · subst z
    rcases s.k kvs (by
      rcases r with r | ⟨o, r⟩
      · rw [h] at r; cases r; exact .inl rfl
      · rw [h] at r; cases r; exact .inr ⟨o, rfl⟩) with e | ⟨o, e⟩
    · exact .inl (by rw [upd_same, e])
    · exact .inr ⟨o, by rw [upd_same, e]⟩
  · rcases r with r | ⟨o, r⟩
    · exact .inl (by rw [upd_ne z]; exact r)
    · exact .inr ⟨o, by rw [upd_ne z]; exact r⟩
theorem Sw.rdT (s : Sw x y) (h : W a = some x) {b : Addr} {kvs : List (List Key × V)} (r : Rd W b (.dT kvs)) : Rd (upd W a y) b (.dT kvs) := by
  by_cases z : b = a
  · subst z
    rcases s.t kvs (by
      rcases r with r | ⟨o, r⟩
      · rw [h] at r; cases r; exact .inl rfl
      · rw [h] at r; cases r; exact .inr ⟨o, rfl⟩) with e | ⟨o, e⟩
    · exact .inl (by rw [upd_same, e])
    · exact .inr ⟨o, by rw [upd_same, e]⟩
  · rcases r with r | ⟨o, r⟩
    · exact .inl (by rw [upd_ne z]; exact r)
    · exact .inr ⟨o, by rw [upd_ne z]; exact r⟩
theorem Sw.at_ (s : Sw x y) (h : W a = some x) {b : Addr} {u : HO} (r : W b = some u) (n : x ≠ u) : (upd W a y) b = some u := by
  by_cases z : b = a
  · subst z; rw [h] at r; cases r; exact absurd rfl n
  · rw [upd_ne z]; exact r
theorem Sw.sqL (s : Sw x y) (h : W a = some x) {b : Addr} {vs : List V} (r : SqL K W b vs) : SqL K (upd W a y) b vs := by
  rcases r with (r | ⟨o, r⟩) | r
  · exact .inl (.inl (s.at_ h r (s.l vs).1))
  · exact .inl (.inr ⟨o, s.at_ h r ((s.l vs).2.2 o)⟩)
  · exact .inr r
mutual
theorem Rep.sw (s : Sw x y) (h : W a = some x) : ∀ {v : V} {d : D}, Rep K W v d → Rep K (upd W a y) v d
  | _, _, .non => .non
  | _, _, .bl b => .bl b
  | _, _, .int i => .int i
  | _, _, .str i => .str i
  | _, _, .lst (xs := xs) e r => .lst (s.at_ h e (s.l xs).1) (Reps.sw s h r)
  | _, _, .tup (xs := xs) e r => .tup (s.at_ h e (s.l xs).2.1) (Reps.sw s h r)
  | _, _, .fl e r => .fl (s.sqL h e) (Reps.sw s h r)
  | _, _, .dK e r => .dK (s.rdK h e) (RepsK.sw s h r)
  | _, _, .dT e r => .dT (s.rdT h e) (RepsT.sw s h r)
  | _, _, .op v => .op v
theorem Reps.sw (s : Sw x y) (h : W a = some x) : ∀ {vs : List V} {ds : List D}, Reps K W vs ds → Reps K (upd W a y) vs ds
  | _, _, .nil => .nil
  | _, _, .cons r t => .cons (Rep.sw s h r) (Reps.sw s h t)
theorem RepsK.sw (s : Sw x y) (h : W a = some x) : ∀ {vs : List (Key × V)} {ds : List (D × D)}, RepsK K W vs ds → RepsK K (upd W a y) vs ds
  | _, _, .nil => .nil
  | _, _, .cons r t => .cons (Rep.sw s h r) (RepsK.sw s h t)
theorem RepsT.sw (s : Sw x y) (h : W a = some x) : ∀ {vs : List (List Key × V)} {ds : List (D × D)}, RepsT K W vs ds → RepsT K (upd W a y) vs ds
  | _, _, .nil => .nil
  | _, _, .cons r t => .cons (Rep.sw s h r) (RepsT.sw s h t)
end
theorem Own.sw (s : Sw x y) (h : W a = Option.some x) {p : Addr} (hp : p ≠ a) {d : D} (r : Own K W H p d) : Own K (upd W a y) (upd H a y) p d := by
  cases d with
  | lst ds => obtain ⟨vs, h1, h2⟩ := r; exact ⟨vs, by rw [upd_ne hp]; exact h1, Reps.sw s h h2⟩
  | dct t l =>
    cases t
    · obtain ⟨vs, h1, h2⟩ := r; exact ⟨vs, by rw [upd_ne hp]; exact h1, RepsK.sw s h h2⟩
    · obtain ⟨vs, h1, h2⟩ := r; exact ⟨vs, by rw [upd_ne hp]; exact h1, RepsT.sw s h h2⟩
  | _ => exact r.elim
variable {fg : Hp} {la : Nat → Addr} {σ : L2.St} {e : Env}
theorem Sub.sw (r : Sub W H) : Sub (upd W a y) (upd H a y) := fun b o e => by
  by_cases z : b = a
  · subst z; rw [upd_same] at e ⊢; exact e
  · rw [upd_ne z] at e ⊢; exact r b o e
theorem Rel.sw (s : Sw x y) (h : W a = some x) (nt : NT x) (r : Rel K fg la W H σ e) : Rel K fg la (upd W a y) (upd H a y) σ e where
  sub := r.sub.sw
  frn := fun b o q => by
    obtain ⟨k1, k2⟩ := r.frn b o q
    have nb : b ≠ a := fun z => by
      subst z
      have e := r.sub _ _ h
      rw [k1] at e; cases e
      have := k2 nt
      rw [h] at this; cases this
    exact ⟨by rw [upd_ne nb]; exact k1, fun n => by rw [upd_ne nb]; exact k2 n⟩
  len := r.len
  cell := fun i c q => by
    have k := r.cell i c q
    cases c with
    | un => trivial
    | sh d => obtain ⟨v, h1, h2⟩ := k; exact ⟨v, h1, Rep.sw s h h2⟩
    | ow d =>
      obtain ⟨p, h1, h2, h3, h4⟩ := k
      have nb : p ≠ a := fun z => by rw [z, h] at h2; cases h2
      exact ⟨p, h1, by rw [upd_ne nb]; exact h2, h3, h4.sw s h nb⟩
    | ln d =>
      obtain ⟨h1, h2, h3, h4⟩ := k
      have nb : la i ≠ a := fun z => by rw [z, h] at h2; cases h2
      exact ⟨h1, by rw [upd_ne nb]; exact h2, h3, h4.sw s h nb⟩
  apart := r.apart
theorem ValOk.sw (s : Sw x y) (h : W a = some x) {v : V} {b : Val} (r : ValOk K fg W H σ e v b) : ValOk K fg (upd W a y) (upd H a y) σ e v b := by
  cases b with
  | sh d => exact Rep.sw s h r
  | bw i => exact r
  | ow d =>
    obtain ⟨p, h1, h2, h3, h4, h5⟩ := r
    have nb : p ≠ a := fun z => by rw [z, h] at h2; cases h2
    exact ⟨p, h1, by rw [upd_ne nb]; exact h2, h3, h4.sw s h nb, h5⟩
end
/-! ### the keys of a dict that a name holds -/
def mKeys (i : Nat) : M (List D) := fun e => match esc e (.bw i) with
  | some (.dct _ l, e') => .ok (l.map (·.1)) e'
  | _ => .no
theorem itk_ok {K : PySem.W.Frag} {W : Hp} {a : Addr} {o : Obj} {kvs : List (Key × V)} {l : List (D × D)} (h : W a = some (.frz o (.dK kvs))) (r : RepsK K W kvs l) : ItOk K W (Itk a o kvs) (l.map (·.1)) := fun i W1 H1 s1 s2 => by
  have len := r.length
  have hh := s2 _ _ (s1 _ _ h)
  refine ⟨fun d hd => ?_, fun hl => ⟨hh, by rw [len]; rw [List.length_map] at hl; exact Nat.le_of_eq hl⟩⟩
  have hi : i < kvs.length := by
    have := (List.getElem?_eq_some_iff.mp hd).1
    rw [List.length_map] at this; omega
  refine ⟨⟨hh, hi⟩, fun x H' y => ?_⟩
  obtain ⟨rfl, k, v, hk, rfl⟩ := y
  refine ⟨W1, .refl s2, ?_⟩
  have : d = kD k := by
    clear hi hh h len s1 s2
    induction kvs generalizing i l with
    | nil => simp at hk
    | cons p kvs ih =>
      cases r with
      | cons rv t =>
        cases i with
        | zero => simp at hk hd; rw [← hd, hk.1]
        | succ i => exact ih t i (by simpa using hd) (by simpa using hk)
  subst this
  cases k with
  | inl z => exact .int z
  | inr z => exact .str z
theorem keys_rep {K : PySem.W.Frag} {W : Hp} : ∀ ks : List Key, Reps K W (ks.map kV) (ks.map kD)
  | [] => .nil
  | k :: ks => .cons (by cases k with
    | inl z => exact .int z
    | inr z => exact .str z) (keys_rep ks)
theorem itkt_ok {K : PySem.W.Frag} {W : Hp} {a : Addr} {o : Obj} {kvs : List (List Key × V)} {l : List (D × D)} (h : W a = some (.frz o (.dT kvs))) (r : RepsT K W kvs l) : ItOk K W (Itkt a o kvs) (l.map (·.1)) := fun i W1 H1 s1 s2 => by
  have len := r.length
  have hh := s2 _ _ (s1 _ _ h)
  refine ⟨fun d hd => ?_, fun hl => ⟨hh, by rw [len]; rw [List.length_map] at hl; exact Nat.le_of_eq hl⟩⟩
  have hi : i < kvs.length := by
    have := (List.getElem?_eq_some_iff.mp hd).1
    rw [List.length_map] at this; omega
  refine ⟨⟨hh, hi⟩, fun x H' y => ?_⟩
  obtain ⟨rfl, k, v, q, hk, rfl, hq⟩ := y
  have : d = tD k := by
    clear hi hh h len s1 s2 hq
    induction kvs generalizing i l with
    | nil => simp at hk
    | cons p kvs ih =>
      cases r with
      | cons rv t =>
        cases i with
        | zero => simp at hk hd; rw [← hd, hk.1]
        | succ i => exact ih t i (by simpa using hd) (by simpa using hk)
  subst this
  -- the key's tuple is shared
  have st : Step W1 H' (upd W1 q (.tup (k.map kV))) H' := by
    refine ⟨fun b o e => ?_, .refl _, fun b o e => ?_, fun b o h1 h2 nt => ?_⟩
    · by_cases z : b = q
      · subst z
        rw [s2 _ _ e] at hq; cases hq
        exact upd_same
      · rw [upd_ne z]; exact e
    · by_cases z : b = q
      · subst z; rw [upd_same] at e; cases e; exact hq
      · rw [upd_ne z] at e; exact s2 _ _ e
    · by_cases z : b = q
      · subst z; rw [hq] at h2; cases h2; exact absurd rfl (nt _)
      · rw [upd_ne z]; exact h1
  exact ⟨_, st, .tup upd_same (keys_rep k)⟩
section
variable {X : Cx} {Wx : WX}
theorem mKeys_ok {i : Nat} {e e1 : Env} {ks : List D} {fg : Hp} {la : Nat → Addr} {W H : Hp} {σ : L2.St} (r : Rel X.K fg la W H σ e) (h : mKeys i e = .ok ks e1) : ∃ W1 a o l, Sub W W1 ∧ Rel X.K fg la W1 H σ e1 ∧ σ[i]? = some (some (V.ref a)) ∧ ks = l.map (·.1) ∧ W1 a = some o ∧
    ((isDo o ∧ ((∃ kvs, o = .dK kvs ∧ RepsK X.K W1 kvs l) ∨ ∃ kvs, o = .dT kvs ∧ RepsT X.K W1 kvs l)) ∨ ∃ od, ((∃ kvs, o = .frz od (.dK kvs) ∧ RepsK X.K W1 kvs l) ∨ ∃ kvs, o = .frz od (.dT kvs) ∧ RepsT X.K W1 kvs l)) := by
  unfold mKeys at h
  cases q : esc e (.bw i) with
  | none => rw [q] at h; cases h
  | some pr =>
    obtain ⟨d, e2⟩ := pr
    rw [q] at h
    cases d with
    | dct t l =>
      simp only at h
      cases h
      have hs : ∃ v, σ[i]? = some (some v) := by
        unfold esc at q
        simp only at q
        split at q
        · rename_i d' z
          obtain ⟨v, h1, _⟩ := r.cell i _ z
          exact ⟨v, h1⟩
        · rename_i d' z
          obtain ⟨v, h1, _⟩ := r.cell i _ z
          exact ⟨_, h1⟩
        · cases q
      obtain ⟨v, hv⟩ := hs
      obtain ⟨W1, s1, r1, rp⟩ := esc_ok r (a := .bw i) hv q
      cases rp with
      | dK hr rk =>
        rcases hr with hr | ⟨o, hr⟩
        · exact ⟨W1, _, _, l, s1, r1, hv, rfl, hr, .inl ⟨trivial, .inl ⟨_, rfl, rk⟩⟩⟩
        · exact ⟨W1, _, _, l, s1, r1, hv, rfl, hr, .inr ⟨o, .inl ⟨_, rfl, rk⟩⟩⟩
      | dT hr rk =>
        rcases hr with hr | ⟨o, hr⟩
        · exact ⟨W1, _, _, l, s1, r1, hv, rfl, hr, .inl ⟨trivial, .inr ⟨_, rfl, rk⟩⟩⟩
        · exact ⟨W1, _, _, l, s1, r1, hv, rfl, hr, .inr ⟨o, .inr ⟨_, rfl, rk⟩⟩⟩
    | _ => cases h
theorem mKeys_ne {i : Nat} {e e1 : Env} {x : Exn} : mKeys i e ≠ .ex x e1 := by
  unfold mKeys
  split <;> intro h <;> cases h
/-- behind the lock the dict is as it was -/
theorem unlocked {W1 W' : Hp} {a : Addr} {o : HO} {od : Obj} (h : W1 a = some o) (s : Sub (upd W1 a (.frz od o)) W') : Sub W1 (upd W' a o) := fun b u e => by
  by_cases z : b = a
  · subst z; rw [h] at e; cases e; exact upd_same
  · rw [upd_ne z]; exact s b u (by rw [upd_ne z]; exact e)
theorem keys_any {i : Nat} {f : List D → M Val} {T : TI → TE} {σ : L2.St} {H : Hp} {Q : VK} (hT : ∀ {wi : TI} {σ : L2.St} {H : Hp} {Q : VK}, wi σ H (fun J H1 => T (fun _ H R => R J H) σ H1 Q) → T wi σ H Q)
    (hB : ∀ {fg : Hp} {la : Nat → Addr} {W1 H1 : Hp} {e1 : Env} {ds : List D} {J : It} {σ : L2.St} {Q : VK}, Rel X.K fg la W1 H1 σ e1 → Post X Wx fg la W1 σ (fun W' H' e' a => ∀ v, ValOk X.K fg W' H' σ e' v a → Q v H') (f ds e1) → ItOk X.K W1 J ds → T (fun _ H R => R J H) σ H1 Q)
    (hne : ∀ ds e x e', f ds e ≠ .ex x e') (h : rdE X Wx (M.bind (mKeys i) f) σ H Q) : T (iKeys (tVar i)) σ H Q ∨ tLockE (T (iKeys (tVar i))) σ H Q := by
  obtain ⟨fg, la, W, e, rl, h⟩ := h
  unfold M.bind at h
  cases q : mKeys i e with
  | no => rw [q] at h; exact h.elim
  | ex x e' => exact absurd q mKeys_ne
  | ok ks e1 =>
    rw [q] at h
    simp only at h
    obtain ⟨W1, a, o, l, s1, r1, hv, rfl, ho, c⟩ := mKeys_ok rl q
    have h1 := Post.wider h s1
    rcases c with ⟨hd, c⟩ | ⟨od, c⟩
    · refine .inr ⟨a, o, r1.sub _ _ ho, by cases o <;> first | trivial | exact hd.elim, fun od => ?_⟩
      have nt : NT o := by intro xs z; subst z; exact hd
      have r2 := r1.sw (Sw.lock hd od) ho nt
      have hat : (upd W1 a (.frz od o)) a = some (.frz od o) := upd_same
      have post : Post X Wx fg la (upd W1 a (.frz od o)) σ (fun W' H' e' b => ∀ v, ValOk X.K fg W' H' σ e' v b → H' a = some (.frz od o) ∧ Q v (upd H' a o)) (f (l.map (·.1)) e1) := by
        cases q2 : f (l.map (·.1)) e1 with
        | no => rw [q2] at h1; exact h1
        | ex x e' => exact absurd q2 (hne _ _ _ _)
        | ok b e' =>
          rw [q2] at h1
          intro W' H' s' r' v hv'
          have wa := s' _ _ hat
          refine ⟨r'.sub _ _ wa, ?_⟩
          exact (show ∀ W' H', Sub W1 W' → Rel X.K fg la W' H' σ e' → ∀ v, ValOk X.K fg W' H' σ e' v b → Q v H' from h1) _ _ (unlocked ho s') (r'.sw (Sw.unlock hd od) wa (by intro xs; simp)) v (hv'.sw (Sw.unlock hd od) wa)
      refine hT ⟨_, hv, a, od, rfl, ?_⟩
      rcases c with ⟨kvs, rfl, rk⟩ | ⟨kvs, rfl, rk⟩
      · exact .inl ⟨kvs, upd_same, hB r2 post (itk_ok upd_same (rk.sw (Sw.lock hd od) ho))⟩
      · exact .inr ⟨kvs, upd_same, hB r2 post (itkt_ok upd_same (rk.sw (Sw.lock hd od) ho))⟩
    · refine .inl (hT ⟨_, hv, a, od, rfl, ?_⟩)
      rcases c with ⟨kvs, rfl, rk⟩ | ⟨kvs, rfl, rk⟩
      · exact .inl ⟨kvs, r1.sub _ _ ho, hB r1 h1 (itk_ok ho rk)⟩
      · exact .inr ⟨kvs, r1.sub _ _ ho, hB r1 h1 (itkt_ok ho rk)⟩
/-- a name's items, the keys of a dict -/
def mAny (i : Nat) : M (List D) := fun e => match cellD e[i]? with
  | some (.dct _ _) => mKeys i e
  | _ => mSeq (mVar i) e
theorem mAny_split (i : Nat) {f : List D → M Val} (e : Env) : M.bind (mAny i) f e = M.bind (mKeys i) f e ∨ M.bind (mAny i) f e = M.bind (mSeq (mVar i)) f e := by
  have : mAny i e = mKeys i e ∨ mAny i e = mSeq (mVar i) e := by
    unfold mAny
    split
    · exact .inl rfl
    · exact .inr rfl
  unfold M.bind
  rcases this with z | z
  · left; rw [z]
  · right; rw [z]
theorem lc_ne {vs : List Nat} {g : D → Env → Option Env} {mt : M Bool} {me : M Val} (ds : List D) (e : Env) (x : Exn) (e' : Env) : (match lcL vs g mt me ds [] (wipeE e vs) with
  | some (acc, e2) => (R.ok (Val.ow (.lst acc)) (back e e2 vs) : R Val)
  | none => .no) ≠ .ex x e' := by split <;> intro h <;> cases h
theorem rd_lcN {i : Nat} {vs is : List Nat} {g : D → Env → Option Env} {mt : M Bool} {me : M Val} (hi : ∀ j ∈ is, j ∈ vs) {σ : L2.St} {H : Hp} {Q : VK} (h : rdE X Wx (mLc vs (mAny i) g mt me) σ H Q) :
    tLc (rdI X Wx (mSeq (mVar i))) (rdG X.K is g) (rdT X WF mt) (rdE X WF me) vs σ H Q ∨ tLc (iKeys (tVar i)) (rdG X.K is g) (rdT X WF mt) (rdE X WF me) vs σ H Q ∨ tLockE (tLc (iKeys (tVar i)) (rdG X.K is g) (rdT X WF mt) (rdE X WF me) vs) σ H Q := by
  rcases rdE_at h (mAny_split i) with h | h
  · exact .inr (keys_any (T := fun wi => tLc wi (rdG X.K is g) (rdT X WF mt) (rdE X WF me) vs) (fun h => h) (fun r p j => rd_lcB hi r p j) lc_ne h)
  · exact .inl (rd_lc hi h)
theorem de_lcN {i : Nat} {x : Str} {px : Pos} {elt tg : Expr} {ifs : List Expr} {scope : Scope} {own : List (Str × Nat)} {is : List Nat} {pos : Pos} {g : D → Env → Option Env} {mt : M Bool} {me : M Val} (hc : X.calm = true) (hN : X.N.Nodup) (hx : PE X (.Name x px) (tVar i)) (hi : DE X Wx (.Name x px) (mVar i)) (ok : BlkOk X.N X.env.scope scope own)
    (hg : Blk X scope fun Y => DG Y tg is g) (ht : Blk X scope fun Y => DTs Y WF ifs mt) (he : Blk X scope fun Y => DE Y WF elt me) (hv : ∀ j ∈ is, j ∈ own.map (·.2)) (hs : ∀ y, foldedSetIterable (.Name x px) X.env y = pure y := by intro _; rfl) :
    DE X Wx (.ListComp elt [⟨tg, .Name x px, ifs, 0⟩] scope pos) (mLc (own.map (·.2)) (mAny i) g mt me) :=
  PE.wk (PE.or (pe_lc (g := rdG X.K is g) (tt := rdT X WF mt) (te := rdE X WF me) hc hN (di_seq hi) ok (fun s H C cl fp => hg s H C cl fp) (fun s H C cl fp => ht s H C cl fp) (fun s H C cl fp => he s H C cl fp) hs)
    (PE.or (pe_lc (g := rdG X.K is g) (tt := rdT X WF mt) (te := rdE X WF me) hc hN (pi_keys hx) ok (fun s H C cl fp => hg s H C cl fp) (fun s H C cl fp => ht s H C cl fp) (fun s H C cl fp => he s H C cl fp) hs)
      (pe_lock (pe_lc (g := rdG X.K is g) (tt := rdT X WF mt) (te := rdE X WF me) hc hN (pi_keys hx) ok (fun s H C cl fp => hg s H C cl fp) (fun s H C cl fp => ht s H C cl fp) (fun s H C cl fp => he s H C cl fp) hs)))) fun _ _ _ h => rd_lcN hv h
theorem dts_nil : DTs X Wx [] (M.ret true) := by
  refine ⟨fun pins s σ H Q I h => (pts_nil (X := X)).run pins s σ H Q I ?_⟩
  obtain ⟨fg, la, W, e, rl, h⟩ := h
  exact Post.here h rl
theorem dts_one {c : Expr} {m : M Bool} (h : DT X Wx c m) : DTs X Wx [c] m := pts_one h
end
end VS

/-! VO: comprehensions of two clauses; enumerate, zip. -/
namespace VS
open PySem PySem.Spec PyProof.Rows L2
def lc2L (vs vs1 : List Nat) (g : D → Env → Option Env) (mt : M Bool) (mi1 : M (List D)) (g1 : D → Env → Option Env) (mt1 : M Bool) (me : M Val) : List D → List D → Env → Option (List D × Env)
  | [], acc, e => some (acc, e)
  | d :: ds, acc, e => match g d e with
    | none => none
    | some e1 => match mt e1 with
      | .ok true e2 => match mi1 e2 with
        | .ok ds1 e3 => match lcL vs1 g1 mt1 me ds1 acc (wipeE e3 vs1) with
          | some (acc', e4) => lc2L vs vs1 g mt mi1 g1 mt1 me ds acc' (wipeE e4 vs)
          | none => none
        | _ => none
      | .ok false e2 => lc2L vs vs1 g mt mi1 g1 mt1 me ds acc (wipeE e2 vs)
      | _ => none
def mLc2 (vs vs1 : List Nat) (mi : M (List D)) (g : D → Env → Option Env) (mt : M Bool) (mi1 : M (List D)) (g1 : D → Env → Option Env) (mt1 : M Bool) (me : M Val) : M Val := M.bind mi fun ds e => match lc2L vs vs1 g mt mi1 g1 mt1 me ds [] (wipeE e vs) with
  | some (acc, e') => .ok (.ow (.lst acc)) (back e e' vs)
  | none => .no
section
variable {X : Cx} {Wx : WX}
theorem rd_lc2B {vs vs1 is is1 : List Nat} {g : D → Env → Option Env} {mt : M Bool} {mi1 : M (List D)} {g1 : D → Env → Option Env} {mt1 : M Bool} {me : M Val} (hi : ∀ j ∈ is, j ∈ vs) (hi1 : ∀ j ∈ is1, j ∈ vs1) (h01 : ∀ j ∈ vs1, j ∈ vs) {σ : L2.St} {H1 W1 fg : Hp} {la : Nat → Addr} {e1 : Env} {ds : List D} {J : It} {Q : VK}
    (r1 : Rel X.K fg la W1 H1 σ e1) (h1 : Post X Wx fg la W1 σ (fun W' H' e' a => ∀ v, ValOk X.K fg W' H' σ e' v a → Q v H') (match lc2L vs vs1 g mt mi1 g1 mt1 me ds [] (wipeE e1 vs) with
  | some (acc, e') => .ok (.ow (.lst acc)) (back e1 e' vs)
  | none => .no)) (hJ : ItOk X.K W1 J ds) : tLc2 (fun _ H R => R J H) (rdG X.K is g) (rdT X WF mt) (rdI X WF mi1) (rdG X.K is1 g1) (rdT X WF mt1) (rdE X WF me) vs vs1 σ H1 Q := by
  intro Dl hD
  cases q0 : lc2L vs vs1 g mt mi1 g1 mt1 me ds [] (wipeE e1 vs) with
  | none => rw [q0] at h1; exact (show False from h1).elim
  | some p0 =>
    obtain ⟨accF, eF⟩ := p0
    rw [q0] at h1
    have h1 : ∀ W' H', Sub W1 W' → Rel X.K fg la W' H' σ (back e1 eF vs) → ∀ v, ValOk X.K fg W' H' σ (back e1 eF vs) v (.ow (.lst accF)) → Q v H' := h1
    have fD : fg Dl = none := by
      cases z : fg Dl with
      | none => rfl
      | some u => have := (r1.frn Dl u z).1; rw [hD] at this; cases this
    have start : Rel X.K (upd fg Dl (.lst [])) la W1 (upd H1 Dl (.lst [])) (wipe σ vs) (wipeE e1 vs) := by
      have t : Step W1 H1 W1 (upd H1 Dl (.lst [])) := .newH r1.sub hD
      refine ((r1.step t).wiped vs).keep upd_same (r1.sub.none hD) fun i c qc o s => ?_
      obtain ⟨p, d, s', w, f, ow, _⟩ := ((r1.wiped vs).cell i c qc).at_ o
      rw [s] at s'; cases s'
      obtain ⟨u, hu⟩ := ow.some
      rw [hD] at hu; cases hu
    refine ⟨fun i m H => (m = ds.length - i ∧ i ≤ ds.length) ∧ ∃ W2 e2 acc vacc, Sub W1 W2 ∧ H Dl = some (.lst vacc) ∧ Reps X.K W2 vacc acc ∧ Rel X.K (upd fg Dl (.lst vacc)) la W2 H (wipe σ vs) e2 ∧ lc2L vs vs1 g mt mi1 g1 mt1 me (ds.drop i) acc e2 = some (accF, eF),
      ⟨_, ⟨rfl, Nat.zero_le _⟩, W1, wipeE e1 vs, [], [], .refl _, upd_same, .nil, start, q0⟩, ?_⟩
    rintro i m H2 ⟨⟨rfl, hle⟩, W2, e2, acc, vacc, s2, hd2, ra, r2, p2⟩
    obtain ⟨go, st⟩ := hJ i W2 H2 s2 r2.sub
    by_cases hlt : i < ds.length
    · have hd : ds[i]? = some ds[i] := List.getElem?_eq_getElem hlt
      obtain ⟨g0, y⟩ := go _ hd
      have ed : ds.drop i = ds[i] :: ds.drop (i + 1) := List.drop_eq_getElem_cons hlt
      rw [ed] at p2
      refine .inr ⟨g0, fun H => ∃ W2 e2 acc vacc, Sub W1 W2 ∧ H Dl = some (.lst vacc) ∧ Reps X.K W2 vacc acc ∧ Rel X.K (upd fg Dl (.lst vacc)) la W2 H (wipe σ vs) e2 ∧ lc2L vs vs1 g mt mi1 g1 mt1 me (ds.drop (i + 1)) acc e2 = some (accF, eF),
        fun H' n => ⟨ds.length - (i + 1), by omega, ⟨rfl, hlt⟩, n⟩, fun x H' yx => ?_⟩
      obtain ⟨W3, t3, rp⟩ := y x H' yx
      unfold lc2L at p2
      cases q : g ds[i] e2 with
      | none => rw [q] at p2; cases p2
      | some e3 =>
        rw [q] at p2
        simp only at p2
        refine ⟨upd fg Dl (.lst vacc), la, W3, e2, ds[i], e3, r2.step t3, rp, q, fun σ4 l4 o4 r4 => ?_⟩
        have w4 : wipe σ4 vs = wipe σ vs := by
          have e1 := wipe_ext (σ := wipe σ vs) (σ' := σ4) (vs := vs) l4 fun j hj => o4 j fun m => hj (hi j m)
          have e2 := wipe_ext (σ := σ) (σ' := wipe σ vs) (vs := vs) (wipe_length σ vs) fun j hj => wipe_get hj
          exact e1.trans e2
        refine ⟨w4, upd fg Dl (.lst vacc), la, W3, e3, r4, ?_⟩
        cases q2 : mt e3 with
        | no => rw [q2] at p2; cases p2
        | ex z e4 => rw [q2] at p2; cases p2
        | ok b e4 =>
          rw [q2] at p2
          intro W5 H5 s5 r5
          cases b with
          | false =>
            simp only at p2
            rw [if_neg Bool.false_ne_true]
            refine ⟨W5, wipeE e4 vs, acc, vacc, (s2.trans t3.w).trans s5, (r5.frn Dl _ upd_same).1, ra.mono (t3.w.trans s5), ?_, p2⟩
            have := r5.wiped vs
            rw [w4] at this
            exact this
          | true =>
            simp only at p2
            rw [if_pos rfl]
            refine ⟨upd fg Dl (.lst vacc), la, W5, e4, r5, ?_⟩
            cases q3 : mi1 e4 with
            | no => rw [q3] at p2; cases p2
            | ex z e5 => rw [q3] at p2; cases p2
            | ok ds1 e5 =>
              rw [q3] at p2
              simp only at p2
              intro W6 H6 s6 r6 J1 hJ1
              cases q4 : lcL vs1 g1 mt1 me ds1 acc (wipeE e5 vs1) with
              | none => rw [q4] at p2; cases p2
              | some pp =>
                obtain ⟨acc', e6⟩ := pp
                rw [q4] at p2
                simp only at p2
                refine lc_loop hi1 fD (r6.wiped vs1) (ra.mono ((t3.w.trans s5).trans s6)) q4 hJ1 fun W7 H7 vacc' s7 r7 ra7 => ?_
                refine ⟨W7, wipeE e6 vs, acc', vacc', (((s2.trans t3.w).trans s5).trans s6).trans s7, (r7.frn Dl _ upd_same).1, ra7, ?_, p2⟩
                have rw7 := r7.wiped vs
                rw [wipe_ext (σ := σ4) (σ' := wipe σ4 vs1) (vs := vs) (wipe_length σ4 vs1) fun j hj => wipe_get fun m => hj (h01 j m), w4] at rw7
                exact rw7
    · have ed : ds.drop i = [] := List.drop_eq_nil_of_le (by omega)
      rw [ed] at p2
      obtain ⟨rfl, rfl⟩ : acc = accF ∧ e2 = eF := by
        have z := Option.some.inj p2
        exact ⟨congrArg Prod.fst z, congrArg Prod.snd z⟩
      have hd2' := r2.frn Dl _ upd_same
      have rb : Rel X.K fg la W2 H2 σ (back e1 e2 vs) := Rel.backed r1 s2 (r2.less (.new fD))
      refine .inl ⟨st (by omega), h1 W2 H2 s2 rb _ ⟨Dl, rfl, (hd2'.2 fun xs => by simp), fD, ⟨vacc, hd2, ra⟩, fun j c qc o s => ?_⟩⟩
      rw [back_get] at qc
      by_cases mm : j ∈ vs ∧ j < e2.length
      · rw [if_pos mm] at qc
        cases qc
        split at o <;> cases o
      · rw [if_neg mm] at qc
        obtain ⟨p, d, s', w, f, ow, _⟩ := (r2.cell j c qc).at_ o
        rw [wipe_get (fun h => mm ⟨h, (List.getElem?_eq_some_iff.mp qc).1⟩), s] at s'
        cases s'
        rw [upd_same] at f; cases f
theorem rd_lc2 {vs vs1 is is1 : List Nat} {mi : M (List D)} {g : D → Env → Option Env} {mt : M Bool} {mi1 : M (List D)} {g1 : D → Env → Option Env} {mt1 : M Bool} {me : M Val} (hi : ∀ j ∈ is, j ∈ vs) (hi1 : ∀ j ∈ is1, j ∈ vs1) (h01 : ∀ j ∈ vs1, j ∈ vs) {σ : L2.St} {H : Hp} {Q : VK} (h : rdE X Wx (mLc2 vs vs1 mi g mt mi1 g1 mt1 me) σ H Q) :
    tLc2 (rdI X Wx mi) (rdG X.K is g) (rdT X WF mt) (rdI X WF mi1) (rdG X.K is1 g1) (rdT X WF mt1) (rdE X WF me) vs vs1 σ H Q := by
  obtain ⟨fg, la, W, e, rl, h⟩ := h
  exact ⟨fg, la, W, e, rl, (Post.bind h).mono fun W1 H1 e1 ds s1 r1 h1 J hJ => rd_lc2B hi hi1 h01 r1 h1 hJ⟩
theorem de_lc2 {elt tg iter tg1 iter1 : Expr} {ifs ifs1 : List Expr} {scope : Scope} {own : List (Str × Nat)} {vs1 is is1 : List Nat} {pos : Pos} {mi : M (List D)} {g : D → Env → Option Env} {mt : M Bool} {mi1 : M (List D)} {g1 : D → Env → Option Env} {mt1 : M Bool} {me : M Val} (hc : X.calm = true) (hN : X.N.Nodup) (hi : DI X Wx tg iter mi)
    (ok : BlkOk X.N X.env.scope scope own) (hg : Blk X scope fun Y => DG Y tg is g) (ht : Blk X scope fun Y => DTs Y WF ifs mt) (hi1 : Blk X scope fun Y => DI Y WF tg1 iter1 mi1) (hg1 : Blk X scope fun Y => DG Y tg1 is1 g1) (ht1 : Blk X scope fun Y => DTs Y WF ifs1 mt1) (he : Blk X scope fun Y => DE Y WF elt me)
    (hv : ∀ j ∈ is, j ∈ own.map (·.2)) (hv1 : ∀ j ∈ is1, j ∈ vs1) (h01 : ∀ j ∈ vs1, j ∈ own.map (·.2)) (hs : ∀ x, foldedSetIterable iter X.env x = pure x := by intro _; rfl) (hs1 : ∀ env x, foldedSetIterable iter1 env x = pure x := by intro _ _; rfl) :
    DE X Wx (.ListComp elt [⟨tg, iter, ifs, 0⟩, ⟨tg1, iter1, ifs1, 0⟩] scope pos) (mLc2 (own.map (·.2)) vs1 mi g mt mi1 g1 mt1 me) :=
  PE.wk (pe_lc2 (g := rdG X.K is g) (tt := rdT X WF mt) (wi1 := rdI X WF mi1) (g1 := rdG X.K is1 g1) (tt1 := rdT X WF mt1) (te := rdE X WF me) hc hN hi ok h01 (fun s H C cl fp => hg s H C cl fp) (fun s H C cl fp => ht s H C cl fp) (fun s H C cl fp => hi1 s H C cl fp) (fun s H C cl fp => hg1 s H C cl fp)
    (fun s H C cl fp => ht1 s H C cl fp) (fun s H C cl fp => he s H C cl fp) hs hs1) fun _ _ _ h => rd_lc2 hv hv1 h01 h
end
end VS

/-! VP: rules as the printed texts take them. -/
namespace VS
open PySem PySem.Spec PyProof.Rows L2

/-- a def of the module that keeps its promise -/
def HasD (P : Program) (w : World) (K : PySem.W.Frag) (mg : Str → Option Value) (base : Heap) (x : Str) (k : Nat) (ps : List Str) (sp : Sp) : Prop := ∃ f fd, FnG P w K mg base k f fd ps sp ∧ mg x = some (.ref f) ∧ PySem.W.keepIn K (.ref f) = true ∧ Binds K fd ps []
/-- a def, as it stands -/
def DefT (K : PySem.W.Frag) (mg : Str → Option Value) (x : Str) (st : Stmt) : Prop := ∃ f fd, FunD K x x (defArgs st) (defBody st) (defScope st) [] [] f fd ∧ mg x = some (.ref f)
/-- an exception class of one's own -/
def ExcT (K : PySem.W.Frag) (mg : Str → Option Value) (x : Str) : Prop := ∃ C, mg x = some (.ref C) ∧ PySem.W.excIn K C He.veBase "ValueError.__new__" = true ∧ PySem.W.keepIn K (.ref C) = true ∧ PySem.W.subIn K (.ref C) (.type "BaseException") = some true ∧ PySem.W.typeIn K (.ref C) = some (.type "type")
theorem room_u {k : Nat} {A : Around} (h : Room k A) : A.units + 120 < cLine := by have := h.un; omega
abbrev BindF (x : Str) (st : Stmt) (ps : List Str) : Prop := ∀ (kV doc pm : Value) (an : Option Addr) (cdv ct : Value) (us : List Value), us.length = ps.length → bindArgs (PySem.W.fnOf x x (defArgs st) (defBody st) (defScope st) .none kV doc pm an cdv ct) { pos := us } = pure (ps.zip us)
section
variable {P : Program} {w : World} {K : PySem.W.Frag} {mg : Str → Option Value} {base : Heap} {x : Str} {st : Stmt} {k n m : Nat} {N ps : List Str} {mb : M Flw}
theorem has0 (T : DefT K mg x st) (S : FnScope N ps (defScope st)) (hl : ps.length = n) (hm : N.length = n + m) (hbind : BindF x st ps)
    (hbody : ∀ (f : Addr) (cdv : Value) (A : Around) (outer : List PySem.Env) (s : Shared) (H : Hp) (E : XK), Room k (A.deeper (envOfC x (defScope st) s.heap.objs.size f cdv)) → A.guards = some [] →
      DSs (cxOf (L2.CX P w) P w K mg base N x (defScope st) f cdv A outer s H E) (fun cls d _ H => E cls d H) (defBody st) mb) : HasD P w K mg base x (k + 1) ps (Prom0 K mg n (run0 n m mb)) := by
  obtain ⟨f, fd, F, g⟩ := T
  exact ⟨f, fd, fn0 F S hl hm (hbody f), g, F.kp, F.bindsN hbind⟩
theorem has1 (T : DefT K mg x st) (S : FnScope N ps (defScope st)) (hl : ps.length = n) (hm : N.length = n + m) (hbind : BindF x st ps)
    (hbody : ∀ (f : Addr) (cdv : Value) (A : Around) (outer : List PySem.Env) (s : Shared) (H : Hp) (E : XK), Room k (A.deeper (envOfC x (defScope st) s.heap.objs.size f cdv)) → A.guards = some [] →
      DSs (cxOf (L2.CX P w) P w K mg base N x (defScope st) f cdv A outer s H E) (fun cls d _ H => E cls d H) (defBody st) mb) : HasD P w K mg base x (k + 1) ps (Prom1 K mg n (run1 n m mb)) := by
  obtain ⟨f, fd, F, g⟩ := T
  exact ⟨f, fd, fn1 F S hl hm (hbody f), g, F.kp, F.bindsN hbind⟩
end
theorem u0 {A : Around} (u : A.units + 120 < cLine) : A.units < cLine := by omega
theorem u1 {A : Around} (u : A.units + 120 < cLine) : A.units + 1 < cLine := by omega
section
variable {X : Cx} {Wx : WX}
theorem de_c0 {F : List D → FR} {kk k k' : Nat} {ps : List Str} {x : Str} {p pos : Pos} {e : Expr} {es : List Expr} {n : M (List Val)} (h : HasD X.prog X.w X.K X.mg X.base x k ps (Prom0 X.K X.mg kk F)) (tk : Takes X Wx) (hr : Room k' X.A) (hk : k ≤ k') (hgd : X.A.guards = some [])
    (ha : DA X Wx (e :: es) n) (hlen : ∀ e as e', n e = .ok as e' → as.length = kk) (hg : Gl X x := by rfl) (hdb : (x == ("__debug__" : Str)) = false := by decide)
    (he : starEach (e :: es) X.env = (false, eval e X.env) :: starEach es X.env := by rfl) (hpl : (backTo pos (starEach es X.env)).any (·.1) = false := by rfl) : DE X Wx (.Call (.Name x p) (e :: es) [] pos) (mCall0 F n) := by
  obtain ⟨f, fd, Fn, hm, kp, hb⟩ := h
  exact de_call0 tk Fn (hr.mono hk) hgd hg hm kp hb ha hlen hdb he hpl
theorem de_c1 {F : List D → FR} {kk k k' : Nat} {ps : List Str} {x : Str} {p pos : Pos} {e : Expr} {es : List Expr} {n : M (List Val)} (h : HasD X.prog X.w X.K X.mg X.base x k ps (Prom1 X.K X.mg kk F)) (tk : Takes X Wx) (hr : Room k' X.A) (hk : k ≤ k') (hgd : X.A.guards = some [])
    (ha : DA X Wx (e :: es) n) (hlen : ∀ e as e', n e = .ok as e' → as.length = kk) (hg : Gl X x := by rfl) (hdb : (x == ("__debug__" : Str)) = false := by decide)
    (he : starEach (e :: es) X.env = (false, eval e X.env) :: starEach es X.env := by rfl) (hpl : (backTo pos (starEach es X.env)).any (·.1) = false := by rfl) : DE X Wx (.Call (.Name x p) (e :: es) [] pos) (mCall1 F n) := by
  obtain ⟨f, fd, Fn, hm, kp, hb⟩ := h
  exact de_call1 tk Fn (hr.mono hk) hgd hg hm kp hb ha hlen hdb he hpl
theorem ds_raiseT {x : Str} {p pos pos' : Pos} (T : ExcT X.K X.mg x) (tk : Takes X Wx) (hc : X.calm = true) (hg : Gl X x := by rfl) (hdb : (x == ("__debug__" : Str)) = false := by decide) : DS X Wx (.Raise (some (.Call (.Name x p) [] [] pos)) none pos') (sRaise { nm := x }) := by
  obtain ⟨C, h1, h2, h3, h4, h5⟩ := T
  exact ds_raise0 hc tk h2 h1 h3 h4 h5 hg hdb
theorem opr_eqU (u : X.A.units + 120 < cLine) : OpR X (compareOp .Eq) (rEqD X.K) := op_eqD (by omega)
theorem opr_neU (u : X.A.units + 120 < cLine) : OpR X (compareOp .NotEq) (rNeD X.K) := op_neD (by omega)
theorem opr_inU (u : X.A.units + 120 < cLine) : OpR X (compareOp .In) (rInA X.K) := opr_in (by omega)
theorem opr_notInU (u : X.A.units + 120 < cLine) : OpR X (compareOp .NotIn) (rNotInA X.K) := opr_notIn (by omega)
theorem cr_reprU (hg : X.A.guards = some []) (u : X.A.units + 120 < cLine) : CallR X (.builtin "repr") (rRepr X.K) := cr_repr hg (by omega)
theorem cr_sortU (u : X.A.units + 120 < cLine) : CallR X (.builtin "sorted") (rSortD X.K) := cr_sortD (by omega)
/-! ### targets apart from any expression -/
def sUnp (g : D → Env → Option Env) (m : M Val) : M Flw := M.bind m fun a e => match esc e a with
  | some (d, e1) => match g d e1 with
    | some e2 => .ok .nx e2
    | none => .no
  | none => .no
theorem ds_unp {tg e : Expr} {is : List Nat} {g : D → Env → Option Env} {m : M Val} {pos : Pos} (he : DE X Wx e m) (hg : DG X tg is g) (hs : swapsWithSole [tg] e pos.line X.env = pure false := by rfl) (hw : swappedStores [tg] e X.env = pure none := by rfl)
    (h1 : (assignEach [tg] X.env).map (·.2) = [assign tg X.env] := by rfl) : DS X Wx (.Assign [tg] e pos) (sUnp g m) := PS.wk (ps_asg he hg hs hw h1) (by
  rintro Dn σ H ⟨fg, la, W, e, rl, h⟩
  refine ⟨fg, la, W, e, rl, (PostS.bind h).mono fun W1 H1 e1 a s1 r1 h1 v hv => ?_⟩
  cases q : esc e1 a with
  | none => rw [q] at h1; exact (show False from h1).elim
  | some pr =>
    obtain ⟨d, e2⟩ := pr
    rw [q] at h1
    simp only at h1
    obtain ⟨W2, s2, r2, rv⟩ := esc_ok r1 hv q
    cases q2 : g d e2 with
    | none => rw [q2] at h1; exact (show False from h1).elim
    | some e3 =>
      rw [q2] at h1
      exact ⟨fg, la, W2, e2, d, e3, r2, rv, q2, fun σ' _ _ r' => (show ∀ W' H' σ', Sub W1 W' → Rel X.K fg la W' H' σ' e3 → Dn.nx σ' H' from h1) W2 H1 σ' s2 r'⟩)
/-! ### sorted, of a dict's keys too -/
def intKeys : List (D × D) → Option (List Int) := fun l => intsOf (l.map (·.1))
def fSortK (ds : List D) : Option Val := match ds with
  | [.dct false l] => (intKeys l).bind fun ks => if ks.length < 64 then some (.ow (.lst ((ks.mergeSort).map .int))) else none
  | _ => none
noncomputable def fSortA (ds : List D) : Option Val := match fSortK ds with
  | some a => some a
  | none => fSort ds
abbrev rSortDI : List V → Hp → VK → Prop := fun xs H Q => ∃ a kvs ks, xs = [V.ref a] ∧ Rd H a (.dK kvs) ∧ kvs.map (fun x => x.fst) = ks.map Sum.inl ∧ ks.length < 64 ∧ ∀ (ys : List Int) (p : Addr), ys.Perm ks → List.Pairwise (fun x1 x2 => x1 ≤ x2) ys → H p = none → Q (V.ref p) (upd H p (.lst (ys.map V.int)))
theorem keys_ints {K : PySem.W.Frag} {W : Hp} : ∀ {kvs : List (Key × V)} {l : List (D × D)} {ks : List Int}, RepsK K W kvs l → intKeys l = some ks → kvs.map (fun x => x.fst) = ks.map Sum.inl
  | [], _, ks, h, e => by cases h; cases e; rfl
  | p :: kvs, _, ks, h, e => by
    cases h with
    | @cons k v _ d l r t =>
      unfold intKeys at e
      rw [List.map_cons] at e
      cases k with
      | inl z =>
        unfold intsOf at e
        cases q : intsOf (l.map (·.1)) with
        | none => simp only [kD] at e; rw [q] at e; cases e
        | some ms =>
          simp only [kD] at e
          rw [q] at e
          cases e
          rw [List.map_cons, List.map_cons, keys_ints t q]
      | inr z => cases e
theorem cd_sortA {K : PySem.W.Frag} : CallD K (fun xs H Q => rSortDI xs H Q ∨ rSortD K xs H Q) fSortA := by
  intro W H vs ds a Q s h e q
  unfold fSortA at e
  split at e
  · rename_i a' z
    cases e
    unfold fSortK at z
    split at z
    · rename_i l
      cases z2 : intKeys l with
      | none => rw [z2] at z; cases z
      | some ks =>
        rw [z2, Option.bind_some] at z
        split at z
        · rename_i c
          cases z
          obtain ⟨v, rfl, r⟩ := h.one
          obtain ⟨p, rfl, cc⟩ := repO_dct s r
          rcases cc with ⟨_, kvs, h1, h2⟩ | ⟨z, _⟩
          · refine .inl ⟨p, kvs, ks, rfl, h1, keys_ints h2 z2, c, fun ys n hp hs hn => ?_⟩
            have e : ys = ks.mergeSort := by
              refine List.Perm.eq_of_pairwise (le := fun a b => a ≤ b) (fun a b _ _ h1 h2 => Int.le_antisymm h1 h2) hs ?_ (hp.trans (List.mergeSort_perm ks _).symm)
              have := List.pairwise_mergeSort (le := fun a b : Int => decide (a ≤ b)) (fun a b c h1 h2 => by simp at *; omega) (fun a b => by simp; omega) ks
              exact this.imp fun h => by simpa using h
            obtain ⟨t, nv⟩ := newV_ow (K := K) s hn (reps_ints ys)
            subst e
            exact q _ _ _ t nv
          · cases z
        · cases z
    · cases z
  · exact .inr (cd_sort W H vs ds a Q s h e q)
theorem cr_sortA (hc : X.calm = true) (u : X.A.units + 120 < cLine) : CallR X (.builtin "sorted") (fun xs H Q => rSortDI xs H Q ∨ rSortD X.K xs H Q) := CallR.or (call_sortedDI hc) (cr_sortU u)
/-! ### the same with what follows from the text last -/
theorem w_range1 {tg a : Expr} {n : M (List Val)} {p pos : Pos} (hm : X.mg "range" = none) (ha : DA X Wx [a] n) (hg : Gl X "range" := by rfl) (hs : starEach [a] X.env = [(false, eval a X.env)] := by rfl) : DI X Wx tg (.Call (.Name "range" p) [a] [] pos) (mR1 n) := di_range1 hg hm ha hs
theorem w_range2 {tg a b : Expr} {n : M (List Val)} {p pos : Pos} (hm : X.mg "range" = none) (ha : DA X Wx [a, b] n) (hg : Gl X "range" := by rfl) (hs : starEach [a, b] X.env = [(false, eval a X.env), (false, eval b X.env)] := by rfl) (hs2 : starEach [b] X.env = [(false, eval b X.env)] := by rfl) :
    DI X Wx tg (.Call (.Name "range" p) [a, b] [] pos) (mR2 n) := di_range2 hg hm ha hs hs2
theorem w_callB {f : List D → Option Val} {r : List V → Hp → VK → Prop} {id : String} {x : Str} {p pos : Pos} {e : Expr} {es : List Expr} {n : M (List Val)} (hc : CallR X (.builtin id) r) (hd : CallD X.K r f) (hm : X.mg x = none) (ha : DA X Wx (e :: es) n) (hg : Gl X x := by rfl) (hv : bootBuiltins x = some (.builtin id) := by rfl)
    (hn : x ≠ "__name__" := by decide) (hdb : (x == ("__debug__" : Str)) = false := by decide)
    (he : starEach (e :: es) X.env = (false, eval e X.env) :: starEach es X.env := by rfl) (hpl : (backTo pos (starEach es X.env)).any (·.1) = false := by rfl) : DE X Wx (.Call (.Name x p) (e :: es) [] pos) (mCB f n) := de_callB hc hd hg hm hv ha hn hdb he hpl
theorem w_callTy {f : List D → Option Val} {r : List V → Hp → VK → Prop} {T : String} {x : Str} {p pos : Pos} {e : Expr} {es : List Expr} {n : M (List Val)} (hc : CallR X (.type T) r) (hd : CallD X.K r f) (hm : X.mg x = none) (ha : DA X Wx (e :: es) n) (hg : Gl X x := by rfl) (hv : bootBuiltins x = some (.type T) := by rfl)
    (hn : x ≠ "__name__" := by decide) (hdb : (x == ("__debug__" : Str)) = false := by decide)
    (he : starEach (e :: es) X.env = (false, eval e X.env) :: starEach es X.env := by rfl) (hpl : (backTo pos (starEach es X.env)).any (·.1) = false := by rfl) : DE X Wx (.Call (.Name x p) (e :: es) [] pos) (mCB f n) := de_callTy hc hd hg hm hv ha hn hdb he hpl
theorem w_gint {x : Str} {i : Int} {pos : Pos} (hm : ∃ t, X.mg x = some (.int i t)) (hg : Gl X x := by rfl) (hd : (x == ("__debug__" : Str)) = false := by decide) : DE X Wx (.Name x pos) (mC (.int i)) := d_gint hg hm hd
theorem w_ty {x : Str} {T : String} {pos : Pos} (hm : X.mg x = none) (hg : Gl X x := by rfl) (hv : bootBuiltins x = some (.type T) := by rfl) (hn : x ≠ "__name__" := by decide) (hd : (x == ("__debug__" : Str)) = false := by decide) : DE X Wx (.Name x pos) (mC (.op (.ty T))) := d_bltn hg hm hv rfl hn hd
theorem w_name (i : Nat) {x : Str} {pos : Pos} (hN : X.N.Nodup) (hi : X.N[i]? = some x := by rfl) (hx : Loc X.env.scope x := by first | exact Or.inl rfl | exact Or.inr rfl) (hf : X.fn x = true ∨ X.env.scope.names.lookup x = some .local := by first | exact .inl rfl | exact .inr rfl) : DG X (.Name x pos) [i] (gN i) := dg_name hN hi hx hf
theorem w_tup {es : List Expr} {k : Nat} {is : List Nat} {gs : List D → Env → Option Env} {pos : Pos} (n : Nat) (h : DGs X es is gs) (hl : ∀ ds e e', gs ds e = some e' → ds.length = n) (hc : X.calm = true := by rfl) (hn : (assignEach es X.env).length = n := by rfl) (hst : (assignEach es X.env).findIdx? (·.1) = none := by rfl) :
    DG X (.Tuple es k pos) is (gT gs) := dg_tup n hc h hn hst hl
theorem w_set (i : Nat) {x : Str} {e : Expr} {m : M Val} {pos' pos : Pos} (hN : X.N.Nodup) (he : DE X Wx e m) (hi : X.N[i]? = some x := by rfl) (hx : Loc X.env.scope x := by first | exact Or.inl rfl | exact Or.inr rfl) (hs : swapsWith e (some (.Name x pos')) pos.line X.env = pure false := by rfl)
    (hf : X.fn x = true ∨ X.env.scope.names.lookup x = some .local := by first | exact .inl rfl | exact .inr rfl) : DS X Wx (.Assign [.Name x pos'] e pos) (sSet i m) := ds_set hN hi hx he hs hf
theorem w_pg (i : Nat) {x : Str} {pos : Pos} (hN : X.N.Nodup) (hi : X.N[i]? = some x := by rfl) (hx : Loc X.env.scope x := by first | exact Or.inl rfl | exact Or.inr rfl) (hf : X.fn x = true ∨ X.env.scope.names.lookup x = some .local := by first | exact .inl rfl | exact .inr rfl) : PG X (.Name x pos) (gName i) := pg_name hN hi hx hf
theorem w_lc {elt tg iter : Expr} {ifs : List Expr} {scope : Scope} (own : List (Str × Nat)) {is : List Nat} {pos : Pos} {mi : M (List D)} {g : D → Env → Option Env} {mt : M Bool} {me : M Val} (hN : X.N.Nodup) (hi : DI X Wx tg iter mi)
    (hg : Blk X scope fun Y => DG Y tg is g) (ht : Blk X scope fun Y => DTs Y WF ifs mt) (he : Blk X scope fun Y => DE Y WF elt me) (ok : blkC X.N X.env.scope scope own = true := by rfl) (hv : ∀ j ∈ is, j ∈ own.map (·.2) := by decide) (hc : X.calm = true := by rfl) (hs : ∀ x, foldedSetIterable iter X.env x = pure x := by intro _; rfl) :
    DE X Wx (.ListComp elt [⟨tg, iter, ifs, 0⟩] scope pos) (mLc (own.map (·.2)) mi g mt me) := de_lc hc hN hi (blkOk_by ok) hg ht he hv hs
theorem w_lcN (i : Nat) {x : Str} {px : Pos} {elt tg : Expr} {ifs : List Expr} {scope : Scope} (own : List (Str × Nat)) {is : List Nat} {pos : Pos} {g : D → Env → Option Env} {mt : M Bool} {me : M Val} (hN : X.N.Nodup) (hx : PE X (.Name x px) (tVar i)) (hi : DE X Wx (.Name x px) (mVar i))
    (hg : Blk X scope fun Y => DG Y tg is g) (ht : Blk X scope fun Y => DTs Y WF ifs mt) (he : Blk X scope fun Y => DE Y WF elt me) (ok : blkC X.N X.env.scope scope own = true := by rfl) (hv : ∀ j ∈ is, j ∈ own.map (·.2) := by decide) (hc : X.calm = true := by rfl) (hs : ∀ y, foldedSetIterable (.Name x px) X.env y = pure y := by intro _; rfl) :
    DE X Wx (.ListComp elt [⟨tg, .Name x px, ifs, 0⟩] scope pos) (mLc (own.map (·.2)) (mAny i) g mt me) := de_lcN hc hN hx hi (blkOk_by ok) hg ht he hv hs
theorem w_lc2 {elt tg iter tg1 iter1 : Expr} {ifs ifs1 : List Expr} {scope : Scope} (own : List (Str × Nat)) (vs1 : List Nat) {is is1 : List Nat} {pos : Pos} {mi : M (List D)} {g : D → Env → Option Env} {mt : M Bool} {mi1 : M (List D)} {g1 : D → Env → Option Env} {mt1 : M Bool} {me : M Val} (hN : X.N.Nodup) (hi : DI X Wx tg iter mi)
    (hg : Blk X scope fun Y => DG Y tg is g) (ht : Blk X scope fun Y => DTs Y WF ifs mt) (hi1 : Blk X scope fun Y => DI Y WF tg1 iter1 mi1) (hg1 : Blk X scope fun Y => DG Y tg1 is1 g1) (ht1 : Blk X scope fun Y => DTs Y WF ifs1 mt1) (he : Blk X scope fun Y => DE Y WF elt me)
    (ok : blkC X.N X.env.scope scope own = true := by rfl) (hv : ∀ j ∈ is, j ∈ own.map (·.2) := by decide) (hv1 : ∀ j ∈ is1, j ∈ vs1 := by decide) (h01 : ∀ j ∈ vs1, j ∈ own.map (·.2) := by decide) (hc : X.calm = true := by rfl) (hs : ∀ x, foldedSetIterable iter X.env x = pure x := by intro _; rfl) (hs1 : ∀ env x, foldedSetIterable iter1 env x = pure x := by intro _ _; rfl) :
    DE X Wx (.ListComp elt [⟨tg, iter, ifs, 0⟩, ⟨tg1, iter1, ifs1, 0⟩] scope pos) (mLc2 (own.map (·.2)) vs1 mi g mt mi1 g1 mt1 me) := de_lc2 hc hN hi (blkOk_by ok) hg ht hi1 hg1 ht1 he hv hv1 h01 hs hs1
theorem w_dc (t : Bool) {kx vx tg iter : Expr} {ifs : List Expr} {scope : Scope} (own : List (Str × Nat)) {is : List Nat} {pos : Pos} {mi : M (List D)} {g : D → Env → Option Env} {mt : M Bool} {mk me : M Val} (hu : X.A.units + 120 < cLine) (hN : X.N.Nodup) (hi : DI X Wx tg iter mi)
    (hg : Blk X scope fun Y => DG Y tg is g) (ht : Blk X scope fun Y => DTs Y WF ifs mt) (hk : Blk X scope fun Y => DE Y WF kx mk) (he : Blk X scope fun Y => DE Y WF vx me) (ok : blkC X.N X.env.scope scope own = true := by rfl) (hv : ∀ j ∈ is, j ∈ own.map (·.2) := by decide) (hc : X.calm = true := by rfl) (hs : ∀ x, foldedSetIterable iter X.env x = pure x := by intro _; rfl) :
    DE X Wx (.DictComp kx vx [⟨tg, iter, ifs, 0⟩] scope pos) (mDc t (own.map (·.2)) mi g mt mk me) := de_dc (u0 hu) hc hN hi (blkOk_by ok) hg ht hk he hv hs
theorem w_setLc (i : Nat) {y : Str} {py : Pos} {elt tg iter : Expr} {ifs : List Expr} {scope : Scope} (own : List (Str × Nat)) {is : List Nat} {pos spos : Pos} {mi : M (List D)} {g : D → Env → Option Env} {mt : M Bool} {me : M Val} (hN : X.N.Nodup) (hi : DI X Wx tg iter mi)
    (hg : Blk X scope fun Y => DG Y tg is g) (ht : Blk X scope fun Y => DTs Y WF ifs mt) (he : Blk X scope fun Y => DE Y WF elt me) (hy : X.N[i]? = some y := by rfl) (hyl : X.env.scope.names.lookup y = some .local := by rfl)
    (hsw : swapsWith (.ListComp elt [⟨tg, iter, ifs, 0⟩] scope pos) (some (.Name y py)) spos.line X.env = pure true := by rfl) (ok : blkC X.N X.env.scope scope own = true := by rfl) (hv : ∀ j ∈ is, j ∈ own.map (·.2) := by decide) (hc : X.calm = true := by rfl) (hs : ∀ x, foldedSetIterable iter X.env x = pure x := by intro _; rfl) :
    DS X Wx (.Assign [.Name y py] (.ListComp elt [⟨tg, iter, ifs, 0⟩] scope pos) spos) (sSet i (mLc (own.map (·.2)) mi g mt me)) := ds_setLc hc hN hy hyl hsw hi (blkOk_by ok) hg ht he hv hs
theorem w_mut (i : Nat) {x name : Str} {id : String} {r : V → List V → Hp → VK → Prop} {f : List D → List D → Option (D × List D)} {e : Expr} {es : List Expr} {n : M (List Val)} {px apos cpos : Pos} (slot : Slot "list" name id) (hm : MtR X id r) (hd : MutD X.K r f) (ho : PE X (.Name x px) (tVar i)) (ha : DA X Wx (e :: es) n)
    (hty : typeOf (.builtin id) = pure (.type "method_descriptor") := by rfl) (hbase : attributeBase (.Name x px) name X.env (eval (.Name x px) X.env) = eval (.Name x px) X.env := by rfl)
    (hfew : ((backTo cpos (starEach (e :: es) X.env)).all (fun x => !x.1) && (backToKw cpos (keywordEach [] X.env)).all (fun x => x.1.isSome)
      && decide ((e :: es).length + ([] : List Keyword).length + (if ([] : List Keyword).isEmpty then 0 else 1) < 30)) = true := by rfl)
    (hline : (apos.endLine == cpos.line) = true := by rfl) (hs : starEach (e :: es) X.env = (false, eval e X.env) :: starEach es X.env := by rfl) (hplain : (backTo cpos (starEach es X.env)).any (·.1) = false := by rfl) : DE X Wx (.Call (.Attribute (.Name x px) name apos) (e :: es) [] cpos) (mMut i f n) := de_mut slot hty hm hd ho ha hbase hfew hline hs hplain
theorem w_par2 (i j : Nat) {x y : Str} {a b : Expr} {n : M (List Val)} {px py pt pos : Pos} {kt k2 pt2} (hN : X.N.Nodup) (ha : DA X Wx [a, b] n) (hi : X.N[i]? = some x := by rfl) (hj : X.N[j]? = some y := by rfl) (hij : i ≠ j := by decide)
    (hx : X.env.scope.names.lookup x = some .local := by rfl) (hy : X.env.scope.names.lookup y = some .local := by rfl)
    (hw : swappedStores [.Tuple [.Name x px, .Name y py] kt pt] (.Tuple [a, b] k2 pt2) X.env = pure (some [x, y]) := by rfl)
    (hs : swapsWithSole [.Tuple [.Name x px, .Name y py] kt pt] (.Tuple [a, b] k2 pt2) pos.line X.env = pure false := by rfl) (hc : X.calm = true := by rfl) : DS X Wx (.Assign [.Tuple [.Name x px, .Name y py] kt pt] (.Tuple [a, b] k2 pt2) pos) (sPar [i, j] n) := ds_par hc hN hi hj hij hx hy ha hw hs
end
end VS

/-! VQ: reckoning with denotations. -/
namespace VS
open PySem PySem.Spec PyProof.Rows L2

/-! ### loops -/
theorem forL_ok {g : D → Env → Option Env} {b : M Flw} (I : List D → Env → Prop) (h : ∀ d ds e, I (d :: ds) e → ∃ e1 e2, g d e = some e1 ∧ b e1 = .ok .nx e2 ∧ I ds e2) : ∀ ds e, I ds e → ∃ e', forL g b ds e = .ok .nx e' ∧ I [] e'
  | [], e, i => ⟨e, rfl, i⟩
  | d :: ds, e, i => by
    obtain ⟨e1, e2, h1, h2, h3⟩ := h d ds e i
    obtain ⟨e', h4, h5⟩ := forL_ok I h ds e2 h3
    exact ⟨e', by simp only [forL, h1, h2, h4], h5⟩
/-- the loop ends within by a value or by its end -/
theorem lcL_ok {vs : List Nat} {g : D → Env → Option Env} {mt : M Bool} {me : M Val} (I : List D → List D → Env → Prop)
    (h : ∀ d ds acc e, I (d :: ds) acc e → ∃ e1 e2, g d e = some e1 ∧ ((∃ a e3 x e4, mt e1 = .ok true e2 ∧ me e2 = .ok a e3 ∧ esc e3 a = some (x, e4) ∧ acc.length < 1000000 ∧ I ds (acc ++ [x]) (wipeE e4 vs)) ∨ (mt e1 = .ok false e2 ∧ I ds acc (wipeE e2 vs)))) :
    ∀ ds acc e, I ds acc e → ∃ acc' e', lcL vs g mt me ds acc e = some (acc', e') ∧ I [] acc' e'
  | [], acc, e, i => ⟨acc, e, rfl, i⟩
  | d :: ds, acc, e, i => by
    obtain ⟨e1, e2, h1, c⟩ := h d ds acc e i
    rcases c with ⟨a, e3, x, e4, c1, c2, c3, c4, c5⟩ | ⟨c1, c2⟩
    · obtain ⟨acc', e', h4, h5⟩ := lcL_ok I h ds _ _ c5
      exact ⟨acc', e', by simp only [lcL, h1, c1, c2, c3, if_pos c4, h4], h5⟩
    · obtain ⟨acc', e', h4, h5⟩ := lcL_ok I h ds _ _ c2
      exact ⟨acc', e', by simp only [lcL, h1, c1, h4], h5⟩
/-- each item gives one, the names stay -/
theorem lcL_map {vs : List Nat} {g : D → Env → Option Env} {me : M Val} {e : Env} (f : D → D) : ∀ (ds acc : List D), (∀ d ∈ ds, ∃ e1 a e3 e4, g d e = some e1 ∧ me e1 = .ok a e3 ∧ esc e3 a = some (f d, e4) ∧ wipeE e4 vs = e) → acc.length + ds.length ≤ 1000000 →
    lcL vs g (M.ret true) me ds acc e = some (acc ++ ds.map f, e)
  | [], acc, _, _ => by simp [lcL]
  | d :: ds, acc, h, hl => by
    obtain ⟨e1, a, e3, e4, h1, h2, h3, h4⟩ := h d List.mem_cons_self
    have := lcL_map f ds (acc ++ [f d]) (fun x m => h x (List.mem_cons_of_mem _ m)) (by simp only [List.length_append, List.length_cons, List.length_nil] at hl ⊢; omega)
    rw [List.length_cons] at hl
    simp only [lcL, h1, M.ret, h2, h3, if_pos (show acc.length < 1000000 by omega), h4, this, List.map_cons, List.append_assoc, List.singleton_append]
/-- the items of which the test holds, each gives one -/
theorem lcL_fil {vs : List Nat} {g : D → Env → Option Env} {mt : M Bool} {me : M Val} {e : Env} (p : D → Bool) (f : D → D) : ∀ (ds acc : List D), (∀ d ∈ ds, ∃ e1 e2, g d e = some e1 ∧ mt e1 = .ok (p d) e2 ∧ (p d = false → wipeE e2 vs = e) ∧ (p d = true → ∃ a e3 e4, me e2 = .ok a e3 ∧ esc e3 a = some (f d, e4) ∧ wipeE e4 vs = e)) →
    acc.length + ds.length ≤ 1000000 → lcL vs g mt me ds acc e = some (acc ++ (ds.filter p).map f, e)
  | [], acc, _, _ => by simp [lcL]
  | d :: ds, acc, h, hl => by
    obtain ⟨e1, e2, h1, h2, h3, h4⟩ := h d List.mem_cons_self
    rw [List.length_cons] at hl
    cases q : p d with
    | false =>
      rw [q] at h2
      have := lcL_fil p f ds acc (fun x m => h x (List.mem_cons_of_mem _ m)) (by omega)
      simp only [lcL, h1, h2, h3 q, this, List.filter_cons, q, Bool.false_eq_true, if_false]
    | true =>
      rw [q] at h2
      obtain ⟨a, e3, e4, k1, k2, k3⟩ := h4 q
      have := lcL_fil p f ds (acc ++ [f d]) (fun x m => h x (List.mem_cons_of_mem _ m)) (by simp only [List.length_append, List.length_cons, List.length_nil] at hl ⊢; omega)
      simp only [lcL, h1, h2, k1, k2, if_pos (show acc.length < 1000000 by omega), k3, this, List.filter_cons, q, if_true, List.map_cons, List.append_assoc, List.singleton_append]
/-! ### keys -/
def kk (t : Bool) (d : D) : Option (List Key) := match t with
  | false => (keyK d).map fun k => [k]
  | true => keyT d
theorem putD2_new {t : Bool} {l : List (D × D)} {k v : D} (h1 : (kk t k).isSome = true) (h2 : ∀ p ∈ l, kk t p.1 ≠ kk t k) : putD2 t l k v = some (l ++ [(k, v)]) := by
  cases t with
  | false =>
    unfold putD2
    simp only
    cases q : keyK k with
    | none => unfold kk at h1; rw [q] at h1; cases h1
    | some kq =>
      rw [Option.map_some]
      unfold putL
      rw [if_neg]
      intro z
      obtain ⟨p, m, e⟩ := List.any_eq_true.mp z
      refine h2 p m ?_
      unfold kk
      rw [of_decide_eq_true e, q]
  | true =>
    unfold putD2
    simp only
    cases q : keyT k with
    | none => unfold kk at h1; rw [q] at h1; cases h1
    | some kq =>
      rw [Option.map_some]
      unfold putL
      rw [if_neg]
      intro z
      obtain ⟨p, m, e⟩ := List.any_eq_true.mp z
      refine h2 p m ?_
      unfold kk
      rw [of_decide_eq_true e, q]
theorem dcL_new {t : Bool} {vs : List Nat} {g : D → Env → Option Env} {mk me : M Val} {e : Env} (k v : D → D) : ∀ (ds : List D) (acc : List (D × D)), (∀ d ∈ ds, ∃ e1 a e3 e4 b e5 e6, g d e = some e1 ∧ mk e1 = .ok a e3 ∧ esc e3 a = some (k d, e4) ∧ me e4 = .ok b e5 ∧ esc e5 b = some (v d, e6) ∧ wipeE e6 vs = e) →
    (∀ d ∈ ds, (kk t (k d)).isSome = true) → (acc.map (fun p => kk t p.1) ++ ds.map (fun d => kk t (k d))).Nodup → acc.length + ds.length ≤ 1000000 → dcL t vs g (M.ret true) mk me ds acc e = some (acc ++ ds.map (fun d => (k d, v d)), e)
  | [], acc, _, _, _, _ => by simp [dcL]
  | d :: ds, acc, h, hk, hn, hl => by
    obtain ⟨e1, a, e3, e4, b, e5, e6, h1, h2, h3, h4, h5, h6⟩ := h d List.mem_cons_self
    rw [List.length_cons] at hl
    have new : putD2 t acc (k d) (v d) = some (acc ++ [(k d, v d)]) := by
      refine putD2_new (hk d List.mem_cons_self) fun p m z => ?_
      rw [List.map_cons] at hn
      have := (List.nodup_append.mp hn).2.2 (kk t p.1) (List.mem_map_of_mem m) (kk t (k d)) List.mem_cons_self
      exact this z
    have rest := dcL_new (vs := vs) (g := g) (mk := mk) (me := me) (e := e) k v ds (acc ++ [(k d, v d)]) (fun x m => h x (List.mem_cons_of_mem _ m)) (fun x m => hk x (List.mem_cons_of_mem _ m))
      (by rw [List.map_append, List.map_cons, List.map_nil, List.append_assoc]; simpa using hn) (by simp only [List.length_append, List.length_cons, List.length_nil]; omega)
    simp only [dcL, h1, M.ret, h2, h3, h4, h5, if_pos (show acc.length < 1000000 by omega), new, h6, rest, List.map_cons, List.append_assoc, List.singleton_append]
/-! ### lists of truth values -/
theorem blsOf_all {α : Type} (f : α → Bool) : ∀ xs : List α, blsOf (xs.map fun x => D.bl (f x)) = some (xs.map f)
  | [] => rfl
  | x :: xs => by rw [List.map_cons, blsOf, blsOf_all f xs]; rfl
theorem fAll_true {α : Type} (xs : List α) {f : α → D} (h : ∀ x ∈ xs, f x = .bl true) : fAll [.lst (xs.map f)] = some (.sh (.bl true)) := by
  rw [List.map_congr_left (g := fun x => D.bl ((fun _ => true) x)) h]
  simp [fAll, oneBls, lstD, blsOf_all]
theorem intsOf_of {α : Type} (f : α → Int) : ∀ xs : List α, intsOf (xs.map fun x => D.int (f x)) = some (xs.map f)
  | [] => rfl
  | x :: xs => by rw [List.map_cons, intsOf, intsOf_of f xs]; rfl
/-! ### while -/
theorem while_ok {c : M Bool} {b : M Flw} (I : Nat → Env → Prop) (h : ∀ n e, I n e → (∃ e1 e2 m, c e = .ok true e1 ∧ b e1 = .ok .nx e2 ∧ m < n ∧ I m e2) ∨ (∃ e1, c e = .ok false e1 ∧ I 0 e1)) : ∀ (N n : Nat) (e : Env), I n e → n < N → ∃ e' m, whileN c b N e = .ok .nx e' ∧ I m e' ∧ m = 0
  | 0, n, e, i, l => by omega
  | N + 1, n, e, i, l => by
    rcases h n e i with ⟨e1, e2, m, h1, h2, h3, h4⟩ | ⟨e1, h1, h2⟩
    · obtain ⟨e', m', k1, k2, k3⟩ := while_ok I h N m e2 h4 (by omega)
      exact ⟨e', m', by simp only [whileN, M.bind, h1, if_true, h2, k1], k2, k3⟩
    · exact ⟨e1, 0, by simp [whileN, M.bind, h1, sNx, M.ret], h2, rfl⟩
/-! ### whole comprehensions -/
theorem mLc_map {vs : List Nat} {mi : M (List D)} {g : D → Env → Option Env} {me : M Val} {e e0 ew e' : Env} {ds : List D} (f : D → D) (hi : mi e = .ok ds e0) (hw : wipeE e0 vs = ew) (hb : back e0 ew vs = e') (h : ∀ d ∈ ds, ∃ e1 a e3 e4, g d ew = some e1 ∧ me e1 = .ok a e3 ∧ esc e3 a = some (f d, e4) ∧ wipeE e4 vs = ew) (hl : ds.length ≤ 1000000) :
    mLc vs mi g (M.ret true) me e = .ok (.ow (.lst (ds.map f))) e' := by
  have := lcL_map (vs := vs) (g := g) (me := me) (e := ew) f ds [] h (by simpa using hl)
  rw [List.nil_append] at this
  simp only [mLc, M.bind, hi, hw, this, hb]
theorem mLc_fil {vs : List Nat} {mi : M (List D)} {g : D → Env → Option Env} {mt : M Bool} {me : M Val} {e e0 ew e' : Env} {ds : List D} (p : D → Bool) (f : D → D) (hi : mi e = .ok ds e0) (hw : wipeE e0 vs = ew) (hb : back e0 ew vs = e')
    (h : ∀ d ∈ ds, ∃ e1 e2, g d ew = some e1 ∧ mt e1 = .ok (p d) e2 ∧ (p d = false → wipeE e2 vs = ew) ∧ (p d = true → ∃ a e3 e4, me e2 = .ok a e3 ∧ esc e3 a = some (f d, e4) ∧ wipeE e4 vs = ew)) (hl : ds.length ≤ 1000000) : mLc vs mi g mt me e = .ok (.ow (.lst ((ds.filter p).map f))) e' := by
  have := lcL_fil (vs := vs) (g := g) (mt := mt) (me := me) (e := ew) p f ds [] h (by simpa using hl)
  rw [List.nil_append] at this
  simp only [mLc, M.bind, hi, hw, this, hb]
theorem mDc_new {t : Bool} {vs : List Nat} {mi : M (List D)} {g : D → Env → Option Env} {mk me : M Val} {e e0 ew e' : Env} {ds : List D} (k v : D → D) (hi : mi e = .ok ds e0) (hw : wipeE e0 vs = ew) (hb : back e0 ew vs = e')
    (h : ∀ d ∈ ds, ∃ e1 a e3 e4 b e5 e6, g d ew = some e1 ∧ mk e1 = .ok a e3 ∧ esc e3 a = some (k d, e4) ∧ me e4 = .ok b e5 ∧ esc e5 b = some (v d, e6) ∧ wipeE e6 vs = ew) (hk : ∀ d ∈ ds, (kk t (k d)).isSome = true) (hn : (ds.map (fun d => kk t (k d))).Nodup) (hl : ds.length ≤ 1000000) :
    mDc t vs mi g (M.ret true) mk me e = .ok (.ow (.dct t (ds.map fun d => (k d, v d)))) e' := by
  have := dcL_new (vs := vs) (g := g) (mk := mk) (me := me) (e := ew) k v ds [] h hk (by simpa using hn) (by simpa using hl)
  rw [List.nil_append] at this
  simp only [mDc, M.bind, hi, hw, this, hb]
theorem mLc2_map {vs vs1 : List Nat} {mi : M (List D)} {g : D → Env → Option Env} {mi1 : M (List D)} {g1 : D → Env → Option Env} {me : M Val} {e e0 ew e' : Env} {ds : List D} (f : D → List D) (hi : mi e = .ok ds e0) (hw : wipeE e0 vs = ew) (hb : back e0 ew vs = e')
    (h : ∀ d ∈ ds, ∃ e1 ds1 e2 ew1, g d ew = some e1 ∧ mi1 e1 = .ok ds1 e2 ∧ wipeE e2 vs1 = ew1 ∧ wipeE ew1 vs = ew ∧ ∃ f1 : D → D, f d = ds1.map f1 ∧ ∀ d1 ∈ ds1, ∃ e3 a e4 e5, g1 d1 ew1 = some e3 ∧ me e3 = .ok a e4 ∧ esc e4 a = some (f1 d1, e5) ∧ wipeE e5 vs1 = ew1) (hl : (ds.flatMap f).length ≤ 1000000) :
    mLc2 vs vs1 mi g (M.ret true) mi1 g1 (M.ret true) me e = .ok (.ow (.lst (ds.flatMap f))) e' := by
  have key : ∀ (ds acc : List D), (∀ d ∈ ds, ∃ e1 ds1 e2 ew1, g d ew = some e1 ∧ mi1 e1 = .ok ds1 e2 ∧ wipeE e2 vs1 = ew1 ∧ wipeE ew1 vs = ew ∧ ∃ f1 : D → D, f d = ds1.map f1 ∧ ∀ d1 ∈ ds1, ∃ e3 a e4 e5, g1 d1 ew1 = some e3 ∧ me e3 = .ok a e4 ∧ esc e4 a = some (f1 d1, e5) ∧ wipeE e5 vs1 = ew1) →
      acc.length + (ds.flatMap f).length ≤ 1000000 → lc2L vs vs1 g (M.ret true) mi1 g1 (M.ret true) me ds acc ew = some (acc ++ ds.flatMap f, ew) := by
    intro ds
    induction ds with
    | nil => intro acc _ _; simp [lc2L]
    | cons d ds ih =>
      intro acc h hl
      obtain ⟨e1, ds1, e2, ew1, h1, h2, h3, h4, f1, h5, h6⟩ := h d List.mem_cons_self
      rw [List.flatMap_cons, List.length_append, h5, List.length_map] at hl
      have a := lcL_map (vs := vs1) (g := g1) (me := me) (e := ew1) f1 ds1 acc h6 (by omega)
      have b := ih (acc ++ ds1.map f1) (fun x m => h x (List.mem_cons_of_mem _ m)) (by rw [List.length_append, List.length_map]; omega)
      rw [List.flatMap_cons, h5, ← List.append_assoc, ← b]
      show (match g d ew with
        | none => none
        | some e1 => match (M.ret true : M Bool) e1 with
          | .ok true e2 => match mi1 e2 with
            | .ok ds1 e3 => match lcL vs1 g1 (M.ret true) me ds1 acc (wipeE e3 vs1) with
              | some (acc', e4) => lc2L vs vs1 g (M.ret true) mi1 g1 (M.ret true) me ds acc' (wipeE e4 vs)
              | none => none
            | _ => none
          | .ok false e2 => lc2L vs vs1 g (M.ret true) mi1 g1 (M.ret true) me ds acc (wipeE e2 vs)
          | _ => none) = _
      rw [h1]
      show (match mi1 e1 with
            | .ok ds1 e3 => match lcL vs1 g1 (M.ret true) me ds1 acc (wipeE e3 vs1) with
              | some (acc', e4) => lc2L vs vs1 g (M.ret true) mi1 g1 (M.ret true) me ds acc' (wipeE e4 vs)
              | none => none
            | _ => none) = _
      rw [h2]
      simp only [h3, a, h4]
  have := key ds [] h (by simpa using hl)
  rw [List.nil_append] at this
  simp only [mLc2, M.bind, hi, hw, this, hb]
theorem mR1_ok {n : M (List Val)} {e e' : Env} {j : Int} (h : n e = .ok [.sh (.int j)] e') (hb : -1000000000 ≤ j ∧ j ≤ 1000000000) : mR1 n e = .ok (intsD 0 j.toNat) e' := by
  unfold mR1 M.bind
  rw [h]
  show (if dec (-(2 ^ 62) ≤ j ∧ j < 2 ^ 62) = true then _ else _) = _
  rw [if_pos (dec_true (by omega))]
theorem mR2_ok {n : M (List Val)} {e e' : Env} {i j : Int} (h : n e = .ok [.sh (.int i), .sh (.int j)] e') (hi : -1000000000 ≤ i ∧ i ≤ 1000000000) (hb : -1000000000 ≤ j ∧ j ≤ 1000000000) : mR2 n e = .ok (intsD i (j - i).toNat) e' := by
  unfold mR2 M.bind
  rw [h]
  show (if dec ((-(2 ^ 62) ≤ i ∧ i < 2 ^ 62) ∧ -(2 ^ 62) ≤ j ∧ j < 2 ^ 62) = true then _ else _) = _
  rw [if_pos (dec_true (by omega))]
/-- a name that is free or holds what is shared -/
def Cell.lo : Cell → Prop
  | .un => True
  | .sh _ => True
  | _ => False
theorem atI_last {α : Type} {xs : List α} {x : α} (h : xs.getLast? = some x) : atI xs (-1) = some x := by
  have hne : xs ≠ [] := fun z => by rw [z] at h; cases h
  have hl : 0 < xs.length := List.length_pos_iff.mpr hne
  unfold atI ixN
  rw [if_neg (by omega), if_pos (by omega), Option.bind_some]
  rw [List.getLast?_eq_getElem?] at h
  rw [← h]
  congr 1
  omega
theorem atI_nat' {α : Type} {xs : List α} {i : Nat} {x : α} (h : xs[i]? = some x) : atI xs (i : Int) = some x := by
  have hl : i < xs.length := (List.getElem?_eq_some_iff.mp h).1
  unfold atI ixN
  rw [if_pos (by omega), if_pos (by omega), Option.bind_some]
  simpa using h
theorem sFor_ok {mi : M (List D)} {g : D → Env → Option Env} {b : M Flw} {e e1 : Env} {ds : List D} {r : R Flw} (h1 : mi e = .ok ds e1) (h2 : forL g b ds e1 = r) : sFor mi g b e = r := by
  simp only [sFor, M.bind, h1, h2]
/-! ### numbers -/
theorem fMulI_l {i j : Int} (h : -1000000000000000000 ≤ i ∧ i ≤ 1000000000000000000) : fMulI (.int i) (.int j) = some (.sh (.int (i * j))) := by
  show (if cMul i j = true then _ else _) = _
  exact if_pos (dec_true (.inl (by omega)))
theorem fMulI_r {i j : Int} (h : -1000000000000000000 ≤ j ∧ j ≤ 1000000000000000000) : fMulI (.int i) (.int j) = some (.sh (.int (i * j))) := by
  show (if cMul i j = true then _ else _) = _
  exact if_pos (dec_true (.inr (.inl (by omega))))
theorem fDiv_ok {i j : Int} (h : 0 < j ∧ j ≤ 1000000000) : fDiv (.int i) (.int j) = some (.sh (.int (i / j))) := by
  show (if cDiv i j = true then _ else _) = _
  rw [← Int.fdiv_eq_ediv_of_nonneg _ (by omega)]
  exact if_pos (dec_true (.inl (by omega)))
theorem fMod_ok {i j : Int} (h : 0 < j) : fMod (.int i) (.int j) = some (.sh (.int (i % j))) := by
  show (if cMod i j = true then _ else _) = _
  rw [← Int.fmod_eq_emod_of_nonneg _ (by omega)]
  exact if_pos (decide_eq_true (by omega))
theorem fPow_ok {i j : Int} (h : (0 ≤ j ∧ j ≤ 1000000) ∧ i.natAbs < 1000000000000000000) : fPow (.int i) (.int j) = some (.sh (.int (i ^ j.toNat))) := by
  show (if cPow i j = true then _ else _) = _
  exact if_pos (dec_true ⟨h.1.1, h.1.2, by omega⟩)
/-! ### dicts from whole numbers to whole numbers -/
def encI (l : List (Int × Int)) : List (D × D) := l.map fun p => (.int p.1, .int p.2)
def getI (l : List (Int × Int)) (k : Int) : Option Int := (l.find? fun p => decide (p.1 = k)).map (·.2)
def putI (l : List (Int × Int)) (k v : Int) : List (Int × Int) := if (l.any fun p => decide (p.1 = k)) = true then l.map (fun p => if p.1 = k then (p.1, v) else p) else l ++ [(k, v)]
theorem key_dec (i k : Int) : decide (keyK (.int i) = some (.inl k)) = decide (i = k) := decide_eq_decide.mpr ⟨fun z => by cases z; rfl, fun z => by rw [z]; rfl⟩
theorem lookI (l : List (Int × Int)) (k : Int) : lookD keyK (encI l) (.inl k) = (getI l k).map .int := by
  unfold lookD getI encI
  induction l with
  | nil => rfl
  | cons p l ih =>
    rw [List.map_cons, List.find?_cons, List.find?_cons]
    simp only [key_dec]
    by_cases h : p.1 = k
    · simp [h]
    · simp only [h, decide_false]; exact ih
theorem keyOfI (l : List (Int × Int)) (k : Int) : keyOf (.dct false (encI l)) (.int k) = some ((getI l k).map .int) := by
  show some (lookD keyK (encI l) (.inl k)) = _
  rw [lookI]
theorem putLI (l : List (Int × Int)) (k v : Int) : putL keyK (encI l) (.inl k) (.int k) (.int v) = encI (putI l k v) := by
  unfold putL putI encI
  have e : ((l.map fun p : Int × Int => (D.int p.1, D.int p.2)).any fun p => decide (keyK p.1 = some (.inl k))) = l.any fun p => decide (p.1 = k) := by
    rw [List.any_map]
    congr 1
    funext p
    exact key_dec p.1 k
  rw [e]
  split
  · rw [List.map_map, List.map_map]
    refine List.map_congr_left fun p _ => ?_
    show (if keyK (.int p.1) = some (.inl k) then _ else _) = _
    by_cases h : p.1 = k
    · subst h
      simp [keyK]
    · have : ¬ keyK (.int p.1) = some (.inl k) := fun z => h (by cases z; rfl)
      rw [if_neg this]
      simp [h]
  · rw [List.map_append]; rfl
theorem putI_keys (l : List (Int × Int)) (k v : Int) (h : (l.map (·.1)).Nodup) : ((putI l k v).map (·.1)).Nodup := by
  unfold putI
  split
  · rw [List.map_map]
    rw [List.map_congr_left (g := (·.1)) fun p _ => by show (if p.1 = k then (p.1, v) else p).1 = _; split <;> rfl]
    exact h
  · rename_i c
    rw [List.map_append]
    refine List.nodup_append.mpr ⟨h, by simp, fun a ha b hb z => ?_⟩
    obtain ⟨p, hp, rfl⟩ := List.mem_map.mp ha
    simp at hb
    subst hb
    exact c (List.any_eq_true.mpr ⟨p, hp, decide_eq_true z⟩)
theorem putI_len (l : List (Int × Int)) (k v : Int) : (putI l k v).length ≤ l.length + 1 := by
  unfold putI
  split
  · rw [List.length_map]; omega
  · rw [List.length_append]; simp
theorem getI_mem {l : List (Int × Int)} {p : Int × Int} (hn : (l.map (·.1)).Nodup) (h : p ∈ l) : getI l p.1 = some p.2 := by
  unfold getI
  induction l with
  | nil => cases h
  | cons q l ih =>
    rw [List.map_cons] at hn
    obtain ⟨a, b⟩ := List.nodup_cons.mp hn
    rw [List.find?_cons]
    rcases List.mem_cons.mp h with rfl | h
    · simp
    · have : q.1 ≠ p.1 := fun z => a (by rw [z]; exact List.mem_map_of_mem h)
      simp only [this, decide_false]
      exact ih b h
theorem fPopAt_ok {xs : List D} {i : Nat} {d : D} (h : xs[i]? = some d) (hl : xs.length ≤ 1000000) : fPopAt xs [.int i] = some (d, xs.eraseIdx i) := by
  have hi : i < xs.length := (List.getElem?_eq_some_iff.mp h).1
  have q : seqIndex? (i : Int) xs.length = some i := by
    unfold seqIndex?
    simp
    omega
  show (if dec (-(2 ^ 63) ≤ (i : Int) ∧ (i : Int) < 2 ^ 63) = true then (match seqIndex? (i : Int) xs.length with
      | some k => (xs[k]?).map fun d => (d, xs.eraseIdx k)
      | none => none) else none) = _
  rw [if_pos (dec_true (by omega)), q]
  show (xs[i]?).map _ = _
  rw [h]
  rfl
theorem fAppend_ok {xs : List D} {d : D} (hl : xs.length < 1000000) : fAppend xs [d] = some (.non, xs ++ [d]) := by
  unfold fAppend
  simp [hl]
end VS

/-! VR: data that can be compared and shown. -/
namespace VS
open PySem PySem.Spec PyProof.Rows L2

mutual
theorem eqv_refl : ∀ d : PyData, d.canLay0 = true → d.eqv d = true
  | .none, _ => by rw [PyData.eqv]
  | .bool b, _ => by rw [PyData.eqv]; exact beq_self_eq_true b
  | .int i, _ => by rw [PyData.eqv]; exact beq_self_eq_true i
  | .str x, _ => by rw [PyData.eqv]; exact beq_self_eq_true x
  | .list xs, h => by rw [PyData.eqv]; rw [PyData.canLay0] at h; exact eqvAll_refl xs h
  | .tuple xs, h => by rw [PyData.eqv]; rw [PyData.canLay0] at h; exact eqvAll_refl xs h
  | .dict kvs, h => by rw [PyData.canLay0] at h; cases h
theorem eqvAll_refl : ∀ ds : List PyData, PyData.canLayAll0 ds = true → PyData.eqvAll ds ds = true
  | [], _ => by rw [PyData.eqvAll]
  | d :: ds, h => by
    rw [PyData.canLayAll0] at h
    obtain ⟨a, b⟩ := Bool.and_eq_true_iff.mp h
    rw [PyData.eqvAll, eqv_refl d a, eqvAll_refl ds b]; rfl
end
theorem strOk_ofString (s : String) : PyData.strOk (Str.ofString s) = true := by
  unfold PyData.strOk
  rw [← Array.all_toList, signs_ofString, List.all_map, List.all_eq_true]
  intro c _
  show decide (c.toNat < 1114112) = true
  have : c.toNat < 1114112 := by
    rcases c.valid with h | h
    · have : c.val.toNat < 0xd800 := h
      show c.val.toNat < _
      omega
    · have : c.val.toNat < 0x110000 := h.2
      show c.val.toNat < _
      omega
  exact decide_eq_true this
theorem strOk_append {x y : Str} (h1 : PyData.strOk x = true) (h2 : PyData.strOk y = true) : PyData.strOk (x ++ y) = true := by
  unfold PyData.strOk at *
  show ((x.cps ++ y.cps).all _) = true
  rw [Array.all_append, h1, h2]; rfl
theorem strOk_text : ∀ (ts : List Str) (k : Nat) (acc : Str), PyData.strOk acc = true → (∀ t ∈ ts, PyData.strOk t = true) → PyData.strOk (textFrom k acc ts) = true
  | [], k, acc, h, _ => by rw [textFrom]; exact h
  | t :: ts, k, acc, h, ht => by
    rw [textFrom]
    exact strOk_text ts _ _ (strOk_append (strOk_append h (strOk_ofString _)) (ht t List.mem_cons_self)) fun x m => ht x (List.mem_cons_of_mem _ m)
theorem strOk_join (sep : Str) (hs : PyData.strOk sep = true) : ∀ ts : List Str, (∀ t ∈ ts, PyData.strOk t = true) → PyData.strOk (sep.join ts) = true
  | [], _ => by rw [Str.join]; unfold PyData.strOk Str.empty; simp
  | [t], h => by rw [Str.join]; exact h t List.mem_cons_self
  | t :: u :: ts, h => by
    rw [Str.join]
    · exact strOk_append (strOk_append (h t List.mem_cons_self) hs) (strOk_join sep hs (u :: ts) fun x m => h x (List.mem_cons_of_mem _ m))
    · simp
/-- data of whole numbers, truth values, None, lists and tuples: not too deep, not too much -/
structure Nice (n w : Nat) (d : D) : Prop where
  p : d.plain = true
  l : d.py.canLay0 = true
  dp : d.py.depth ≤ n
  h : d.py.hasDict = false
  s : d.py.showable = true
  b : PyData.leavesShort 100 d.py = true
  w : d.py.weight ≤ w
  k : PyData.strOk d.py.shown = true
theorem Nice.mono {n n' w w' : Nat} {d : D} (h : Nice n w d) (a : n ≤ n') (b : w ≤ w') : Nice n' w' d := ⟨h.p, h.l, Nat.le_trans h.dp a, h.h, h.s, h.b, Nat.le_trans h.w b, h.k⟩
theorem int_short {i : Int} (h : i.natAbs < 10 ^ 60) : (PyData.int i).shown.length ≤ 100 := by
  show (Str.ofString (toString i)).length ≤ 100
  rw [ofString_len]
  cases i with
  | ofNat n =>
    show (Nat.repr n).length ≤ 100
    have : (Nat.repr n).length ≤ 60 := (Nat.length_repr_le_iff (by decide)).mpr h
    omega
  | negSucc n =>
    show ("-" ++ Nat.repr (n + 1)).length ≤ 100
    rw [String.length_append]
    have : (Nat.repr (n + 1)).length ≤ 60 := (Nat.length_repr_le_iff (by decide)).mpr h
    have : "-".length = 1 := rfl
    omega
theorem log2_le {n k : Nat} (h : n < 2 ^ k) (hk : 0 < k) : n.log2 < k := by
  by_cases z : n = 0
  · subst z; simpa using hk
  · exact (Nat.log2_lt z).mpr h
theorem nice_int {i : Int} (h : i.natAbs < 10 ^ 60) : Nice 0 200 (.int i) := by
  have hl : i.natAbs.log2 < 200 := log2_le (Nat.lt_trans h (by decide)) (by decide)
  refine ⟨rfl, rfl, (by show (PyData.int i).depth ≤ 0; rw [PyData.depth]; exact Nat.le_refl _), rfl, ?_, ?_, ?_, strOk_ofString _⟩
  · show (PyData.int i).showable = true
    rw [PyData.showable]; exact decide_eq_true (by omega)
  · show PyData.leavesShort 100 (.int i) = true
    rw [PyData.leavesShort]; exact decide_eq_true (int_short h)
  · show (PyData.int i).weight ≤ 200
    rw [PyData.weight]
    split
    · omega
    · omega
theorem nice_bl {b : Bool} : Nice 0 0 (.bl b) := by cases b <;> exact ⟨rfl, rfl, by decide, rfl, rfl, rfl, by decide, strOk_ofString _⟩
theorem nice_non : Nice 0 0 .non := ⟨rfl, rfl, by decide, rfl, rfl, rfl, by decide, strOk_ofString _⟩
structure NiceL (n w : Nat) (ds : List D) : Prop where
  p : plains ds = true
  l : PyData.canLayAll0 (pys ds) = true
  dp : PyData.depthAll (pys ds) ≤ n
  h : PyData.hasDictAll (pys ds) = false
  s : PyData.showableAll (pys ds) = true
  b : PyData.leavesShortAll 100 (pys ds) = true
  w : PyData.weightAll (pys ds) ≤ ds.length * (w + 1)
  k : ∀ t ∈ PyData.shownAll (pys ds), PyData.strOk t = true
theorem niceL {n w : Nat} : ∀ {ds : List D}, (∀ d ∈ ds, Nice n w d) → NiceL n w ds
  | [], _ => ⟨rfl, rfl, by rw [pys, PyData.depthAll]; omega, rfl, rfl, rfl, by rw [pys, PyData.weightAll]; omega, fun t m => by rw [pys, PyData.shownAll] at m; cases m⟩
  | d :: ds, h => by
    have a := h d List.mem_cons_self
    have b := niceL (n := n) (w := w) (ds := ds) fun x m => h x (List.mem_cons_of_mem _ m)
    refine ⟨?_, ?_, ?_, ?_, ?_, ?_, ?_, ?_⟩
    · rw [plains, a.p, b.p]; rfl
    · rw [pys, PyData.canLayAll0, a.l, b.l]; rfl
    · rw [pys, PyData.depthAll]; have := a.dp; have := b.dp; omega
    · rw [pys, PyData.hasDictAll, a.h, b.h]; rfl
    · rw [pys, PyData.showableAll, a.s, b.s]; rfl
    · rw [pys, PyData.leavesShortAll, a.b, b.b]; rfl
    · rw [pys, PyData.weightAll, List.length_cons, Nat.succ_mul]; have := a.w; have := b.w; omega
    · intro t m
      rw [pys, PyData.shownAll] at m
      rcases List.mem_cons.mp m with rfl | m
      · exact a.k
      · exact b.k t m
theorem nice_tup {n w : Nat} {ds : List D} (h : ∀ d ∈ ds, Nice n w d) : Nice (n + 1) (ds.length * (w + 1)) (.tup ds) := by
  have a := niceL h
  refine ⟨a.p, ?_, ?_, ?_, ?_, ?_, ?_, ?_⟩
  · show (PyData.tuple (pys ds)).canLay0 = true; rw [PyData.canLay0]; exact a.l
  · show (PyData.tuple (pys ds)).depth ≤ n + 1; rw [PyData.depth]; have := a.dp; omega
  · show (PyData.tuple (pys ds)).hasDict = false; rw [PyData.hasDict]; exact a.h
  · show (PyData.tuple (pys ds)).showable = true; rw [PyData.showable]; exact a.s
  · show PyData.leavesShort 100 (PyData.tuple (pys ds)) = true; rw [PyData.leavesShort]; exact a.b
  · show (PyData.tuple (pys ds)).weight ≤ _; rw [PyData.weight]; exact a.w
  · show PyData.strOk (PyData.tuple (pys ds)).shown = true
    rw [PyData.shown]
    exact strOk_append (strOk_append (strOk_ofString _) (strOk_join _ (strOk_ofString _) _ a.k)) (strOk_ofString _)
theorem nice_lst {n w : Nat} {ds : List D} (h : ∀ d ∈ ds, Nice n w d) : Nice (n + 1) (ds.length * (w + 1)) (.lst ds) := by
  have a := niceL h
  refine ⟨a.p, ?_, ?_, ?_, ?_, ?_, ?_, ?_⟩
  · show (PyData.list (pys ds)).canLay0 = true; rw [PyData.canLay0]; exact a.l
  · show (PyData.list (pys ds)).depth ≤ n + 1; rw [PyData.depth]; have := a.dp; omega
  · show (PyData.list (pys ds)).hasDict = false; rw [PyData.hasDict]; exact a.h
  · show (PyData.list (pys ds)).showable = true; rw [PyData.showable]; exact a.s
  · show PyData.leavesShort 100 (PyData.list (pys ds)) = true; rw [PyData.leavesShort]; exact a.b
  · show (PyData.list (pys ds)).weight ≤ _; rw [PyData.weight]; exact a.w
  · show PyData.strOk (PyData.list (pys ds)).shown = true
    rw [PyData.shown]
    exact strOk_append (strOk_text _ _ _ (strOk_ofString _) a.k) (strOk_ofString _)
theorem Nice.ok {n w : Nat} {d : D} (h : Nice n w d) (hn : n ≤ 64) : d.ok = true := by
  unfold D.ok SeqAt.shaped
  rw [h.p, h.l]
  have := h.dp
  exact decide_eq_true (by omega)
mutual
theorem seen_of : ∀ d : D, d.plain = true → d.seen = true
  | .non, _ => rfl
  | .bl _, _ => rfl
  | .int _, _ => rfl
  | .str _, _ => rfl
  | .lst xs, h => seens_of xs h
  | .tup xs, h => seens_of xs h
  | .fl xs, h => seens_of xs h
  | .dct _ _, h => nomatch h
  | .op _, h => nomatch h
theorem seens_of : ∀ ds : List D, plains ds = true → seens ds = true
  | [], _ => rfl
  | d :: ds, h => by
    obtain ⟨a, b⟩ := Bool.and_eq_true_iff.mp h
    exact Bool.and_eq_true_iff.mpr ⟨seen_of d a, seens_of ds b⟩
end
theorem Nice.repr {n w : Nat} {d : D} (h : Nice n w d) (hn : n ≤ 100) (hw : w ≤ 150000) : fRepr [d] = some (.sh (.str d.py.shown)) := by
  have a := PyData.shown_le 100 (by decide) d.py h.b
  have b := h.w
  have c := h.dp
  show (if _ then _ else _) = _
  rw [if_pos ⟨seen_of d h.p, h.s, by omega, by rw [sizeLine_eq]; omega⟩]
theorem fEq_same {n w : Nat} {d : D} (h : Nice n w d) (hn : n ≤ 64) : fEq d d = some (.sh (.bl true)) := by
  unfold fEq
  rw [if_pos ⟨h.ok hn, h.ok hn⟩, eqv_refl _ h.l]
theorem fNe_same {n w : Nat} {d : D} (h : Nice n w d) (hn : n ≤ 64) : fNe d d = some (.sh (.bl false)) := by
  unfold fNe
  rw [if_pos ⟨h.ok hn, h.ok hn⟩, eqv_refl _ h.l]; rfl
theorem fNe_text {x : Str} (h : PyData.strOk x = true) : fNe (.str x) (.str x) = some (.sh (.bl false)) := by
  have o : (D.str x).ok = true := by
    unfold D.ok SeqAt.shaped
    show (true && ((PyData.str x).canLay0 && decide ((PyData.str x).depth ≤ 64))) = true
    rw [PyData.canLay0, h, PyData.depth]; rfl
  unfold fNe
  rw [if_pos ⟨o, o⟩, eqv_refl _ (by show (PyData.str x).canLay0 = true; rw [PyData.canLay0]; exact h)]; rfl
theorem fEq_text {x : Str} (h : PyData.strOk x = true) : fEq (.str x) (.str x) = some (.sh (.bl true)) := by
  have o : (D.str x).ok = true := by
    unfold D.ok SeqAt.shaped
    show (true && ((PyData.str x).canLay0 && decide ((PyData.str x).depth ≤ 64))) = true
    rw [PyData.canLay0, h, PyData.depth]; rfl
  unfold fEq
  rw [if_pos ⟨o, o⟩, eqv_refl _ (by show (PyData.str x).canLay0 = true; rw [PyData.canLay0]; exact h)]
theorem ok_int (i : Int) : (D.int i).ok = true := rfl
theorem fEq_int (i j : Int) : fEq (.int i) (.int j) = some (.sh (.bl (i == j))) := by
  unfold fEq
  rw [if_pos ⟨rfl, rfl⟩]
  show some (Val.sh (.bl ((PyData.int i).eqv (.int j)))) = _
  rw [PyData.eqv]
theorem fNe_int (i j : Int) : fNe (.int i) (.int j) = some (.sh (.bl (!(i == j)))) := by
  unfold fNe
  rw [if_pos ⟨rfl, rfl⟩]
  show some (Val.sh (.bl (!((PyData.int i).eqv (.int j))))) = _
  rw [PyData.eqv]
/-! ### sorted pairs -/
def dPair (p : Int × Int) : D := .tup [.int p.1, .int p.2]
def lexLe (p q : Int × Int) : Bool := decide (p.1 < q.1 ∨ p.1 = q.1 ∧ p.2 ≤ q.2)
theorem dLe_pair (p q : Int × Int) : dLe (dPair p) (dPair q) = lexLe p q := by
  have := congrFun (congrFun (W.dataLe_ii (β := Int × Int) (·.1) (·.2)) p) q
  exact this
theorem dLe_int (i j : Int) : dLe (.int i) (.int j) = decide (i ≤ j) := congrFun (congrFun (W.dataLe_int (β := Int) fun i => i) i) j
theorem sortable_pairs {l : List (Int × Int)} (h : l.length ≤ 1000000) : sortable (l.map dPair) := by
  refine ⟨fun d m => ?_, fun d m d' m' => ?_, .inl fun d m => ?_, by rw [List.length_map]; exact h⟩
  · obtain ⟨p, _, rfl⟩ := List.mem_map.mp m
    refine ⟨rfl, ?_⟩
    show (PyData.tuple [.int p.1, .int p.2]).depth ≤ 64
    simp [PyData.depth, PyData.depthAll]
  · obtain ⟨u, hu, rfl⟩ := List.mem_map.mp m
    obtain ⟨p, _, rfl⟩ := List.mem_map.mp hu
    obtain ⟨v, hv, rfl⟩ := List.mem_map.mp m'
    obtain ⟨q, _, rfl⟩ := List.mem_map.mp hv
    show W.alike (PyData.tuple [.int p.1, .int p.2]) (PyData.tuple [.int q.1, .int q.2]) = true
    simp [W.alike, W.alikeAll]
  · obtain ⟨u, hu, rfl⟩ := List.mem_map.mp m
    obtain ⟨p, _, rfl⟩ := List.mem_map.mp hu
    exact ⟨_, _, rfl⟩
theorem sortable_ints {l : List Int} (h : l.length ≤ 1000000) : sortable (l.map D.int) := by
  refine ⟨fun d m => ?_, fun d m d' m' => ?_, .inr fun d m => ?_, by rw [List.length_map]; exact h⟩
  · obtain ⟨p, _, rfl⟩ := List.mem_map.mp m
    refine ⟨rfl, ?_⟩
    show (PyData.int p).depth ≤ 64
    simp [PyData.depth]
  · obtain ⟨u, hu, rfl⟩ := List.mem_map.mp m
    obtain ⟨p, _, rfl⟩ := List.mem_map.mp hu
    obtain ⟨v, hv, rfl⟩ := List.mem_map.mp m'
    obtain ⟨q, _, rfl⟩ := List.mem_map.mp hv
    show W.alike (PyData.int p) (PyData.int q) = true
    simp [W.alike]
  · obtain ⟨u, hu, rfl⟩ := List.mem_map.mp m
    obtain ⟨p, _, rfl⟩ := List.mem_map.mp hu
    exact ⟨(by intro z; cases z), (by intro xs z; cases z)⟩
theorem lexLe_trans (a b c : Int × Int) : lexLe a b = true → lexLe b c = true → lexLe a c = true := by
  unfold lexLe
  simp only [decide_eq_true_eq]
  omega
theorem lexLe_total (a b : Int × Int) : (lexLe a b || lexLe b a) = true := by
  unfold lexLe
  simp only [Bool.or_eq_true, decide_eq_true_eq]
  omega
theorem fSort_pairs {l : List (Int × Int)} (h : l.length ≤ 1000000) : fSortA [.lst (l.map dPair)] = some (.ow (.lst ((l.mergeSort lexLe).map dPair))) := by
  have e : fSort [.lst (l.map dPair)] = some (.ow (.lst ((l.map dPair).mergeSort dLe))) := if_pos (sortable_pairs h)
  show fSort [.lst (l.map dPair)] = _
  rw [e, List.map_mergeSort (r := lexLe) (s := dLe) (f := dPair) fun a _ b _ => (dLe_pair a b).symm]
theorem fSort_keys {l : List (Int × Int)} (h : l.length < 64) : fSortA [.dct false (encI l)] = some (.ow (.lst ((l.map (·.1)).mergeSort.map .int))) := by
  have : fSortK [.dct false (encI l)] = some (.ow (.lst ((l.map (·.1)).mergeSort.map .int))) := by
    show (intKeys (encI l)).bind _ = _
    have e : intKeys (encI l) = some (l.map (·.1)) := by
      unfold intKeys encI
      rw [List.map_map]
      exact intsOf_of (·.1) l
    rw [e, Option.bind_some, if_pos (by rw [List.length_map]; exact h)]
  unfold fSortA
  rw [this]
/-- the table in order -/
def inOrder (l : List (Int × Int)) : List (Int × Int) := ((l.map (·.1)).mergeSort).map fun k => (k, (getI l k).getD 0)
theorem inOrder_eq {l : List (Int × Int)} (hn : (l.map (·.1)).Nodup) : l.mergeSort lexLe = inOrder l := by
  have hp : (inOrder l).Perm l := by
    unfold inOrder
    refine ((List.mergeSort_perm _ _).map _).trans ?_
    rw [List.map_map]
    have : l.map ((fun k => (k, (getI l k).getD 0)) ∘ (·.1)) = l.map id := List.map_congr_left fun p m => by
      show (p.1, (getI l p.1).getD 0) = p
      rw [getI_mem hn m]; rfl
    rw [this, List.map_id]
  refine List.Perm.eq_of_pairwise (le := fun a b => lexLe a b = true) (fun a b _ _ h1 h2 => ?_) (List.pairwise_mergeSort lexLe_trans lexLe_total l) ?_ ((List.mergeSort_perm l _).trans hp.symm)
  · unfold lexLe at h1 h2
    simp only [decide_eq_true_eq] at h1 h2
    exact Prod.ext (by omega) (by omega)
  · unfold inOrder
    rw [List.pairwise_map]
    have s := List.pairwise_mergeSort (le := fun a b : Int => decide (a ≤ b)) (fun a b c h1 h2 => by simp at *; omega) (fun a b => by simp; omega) (l.map (·.1))
    have d : ((l.map (·.1)).mergeSort).Nodup := (List.mergeSort_perm _ _).nodup_iff.mpr hn
    refine (s.and d).imp fun h => ?_
    unfold lexLe
    obtain ⟨h1, h2⟩ := h
    simp only [decide_eq_true_eq] at h1 ⊢
    left
    omega
theorem inOrder_perm {l : List (Int × Int)} (hn : (l.map (·.1)).Nodup) : (inOrder l).Perm l := by
  rw [← inOrder_eq hn]
  exact List.mergeSort_perm _ _
theorem maxI_some {ns : List Int} (h : ns ≠ []) : ∃ m, maxI ns = some m := by
  cases ns with
  | nil => exact absurd rfl h
  | cons n ns => exact ⟨_, rfl⟩
theorem minI_some {ns : List Int} (h : ns ≠ []) : ∃ m, minI ns = some m := by
  cases ns with
  | nil => exact absurd rfl h
  | cons n ns => exact ⟨_, rfl⟩
theorem maxI_perm {a b : List Int} (h : a.Perm b) : maxI a = maxI b := by
  by_cases e : a = []
  · subst e; rw [List.nil_perm.mp h]
  · have e' : b ≠ [] := fun z => e (List.perm_nil.mp (z ▸ h))
    obtain ⟨m, hm⟩ := maxI_some e
    obtain ⟨m', hm'⟩ := maxI_some e'
    obtain ⟨_, a1, a2⟩ := maxI_ok hm
    obtain ⟨_, b1, b2⟩ := maxI_ok hm'
    rw [hm, hm', Int.le_antisymm (b2 m (h.mem_iff.mp a1)) (a2 m' (h.mem_iff.mpr b1))]
theorem minI_perm {a b : List Int} (h : a.Perm b) : minI a = minI b := by
  by_cases e : a = []
  · subst e; rw [List.nil_perm.mp h]
  · have e' : b ≠ [] := fun z => e (List.perm_nil.mp (z ▸ h))
    obtain ⟨m, hm⟩ := minI_some e
    obtain ⟨m', hm'⟩ := minI_some e'
    obtain ⟨_, a1, a2⟩ := minI_ok hm
    obtain ⟨_, b1, b2⟩ := minI_ok hm'
    rw [hm, hm', Int.le_antisymm (a2 m' (h.mem_iff.mpr b1)) (b2 m (h.mem_iff.mp a1))]
theorem fMax1_ok {α : Type} {xs : List α} {f : α → Int} {m : Int} (h : maxI (xs.map f) = some m) : fMax1 [.lst (xs.map fun x => D.int (f x))] = some (.sh (.int m)) := by
  unfold fMax1 oneInts
  show (Option.map _ (Option.bind (intsOf (xs.map fun x => D.int (f x))) maxI)) = _
  rw [intsOf_of, Option.bind_some, h]
  rfl
theorem fMin1_ok {α : Type} {xs : List α} {f : α → Int} {m : Int} (h : minI (xs.map f) = some m) : fMin1 [.lst (xs.map fun x => D.int (f x))] = some (.sh (.int m)) := by
  unfold fMin1 oneInts
  show (Option.map _ (Option.bind (intsOf (xs.map fun x => D.int (f x))) minI)) = _
  rw [intsOf_of, Option.bind_some, h]
  rfl
end VS

/-! VT0: enumerate of a tuple. -/
namespace VS
open PySem PySem.Spec PyProof.Rows L2
theorem enum_new {v : Value} {o : Obj} {HH : Heap → Prop} (B : Begins v o HH) : Meets (Builtin.«enumerate.__new__» { pos := [Value.type "enumerate", v] }) fun _ R s =>
    HH s.heap ∧ R (.ok (.ret (.ref (s.heap.push o).objs.size))) { heap := (s.heap.push o).push { cls := .type "enumerate", data := .fields #[.none, .bool false, .ref s.heap.objs.size, rawInt 0, .none, .none] }, gens := s.gens, drawn := s.drawn, toks := s.toks, os := s.os } := by
  refine Meets.of_wp fun prog w A R s h => ?_
  obtain ⟨hH, h⟩ := h
  rcases s with ⟨hp, g, d, tk, os⟩
  refine wpAny_bind (wpAny_bind (wpAny_pure (wpAny_ite_false rfl (wpAny_bind (wpAny_of_eq sub_enumerate (wpAny_ite_false rfl (wpAny_pure (wpAny_ite_true rfl (wpAny_bind (wpAny_bind (wpAny_stack_any fun st => wpAny_pure ?_)))))))))))
  have fin : wpAny (model prog w) A.in1 (do
      let it ← pyIter v
      let r ← Builtin.SmallTypes.newRecord (Value.type "enumerate") (Builtin.SmallTypes.ownedTupleFields ++ [it, rawInt 0, Value.none, Value.none])
      ret r) (fun fin s' => ∃ v, fin = PySem.Fin.done (Flow.ret v) ∧ R (Except.ok (Flow.ret v)) s') (fun e s' => R (Except.error e) s') { heap := hp, gens := g, drawn := d, toks := tk, os := os } := by
    refine wpAny_bind (B.iter _ _ _ _ _ _ hH (wpAny_bind ?_))
    refine wpAny_newObj_type (T := "enumerate") (data := .fields #[.none, .bool false, .ref hp.objs.size, rawInt 0, .none, .none]) (dict := none) ?_ ?_
    · exact wpAny_pure ⟨_, rfl, h⟩
    · show 6 ≤ sizeLine + 2
      rw [sizeLine_eq]; decide
  have t1 : ∀ {sh : Bool} {a b : Sem PySem.Fin} {Q : PySem.Fin → Shared → Prop} {E : Value → Shared → Prop} {s : Shared}, (sh = true → wpAny (model prog w) A.in1 a Q E s) → (sh = false → wpAny (model prog w) A.in1 b Q E s) → wpAny (model prog w) A.in1 (if sh = true then a else b) Q E s := fun {sh a b Q E s} h1 h2 => by
    cases sh with
    | true => exact wpAny_ite_true rfl (h1 rfl)
    | false => exact wpAny_ite_false rfl (h2 rfl)
  refine t1 (fun _ => wpAny_bind (wpAny_of_eq (show _ = (pure (v, none) : Sem (Value × Option Value)) from by with_unfolding_all rfl) fin)) fun _ => wpAny_bind (wpAny_of_eq (show _ = (pure (v, none) : Sem (Value × Option Value)) from by with_unfolding_all rfl) fin)
end VS
namespace VS
open PySem PySem.Spec PyProof.Rows L2
theorem enum_call {P : Program} {w : World} {A : Around} {E : Value → Shared → Prop} {s : Shared} {v : Value} {o : Obj} {HH : Heap → Prop} {Q : Value → Shared → Prop} (B : Begins v o HH) (hH : HH s.heap)
    (q : ∀ h' : Heap, IsEnum h' (s.heap.objs.size + 1) s.heap.objs.size 0 .none → h'.get? s.heap.objs.size = some o → h'.objs.size = s.heap.objs.size + 2 → (∀ b ob, s.heap.get? b = some ob → h'.get? b = some ob) → Q (.ref (s.heap.objs.size + 1)) { s with heap := h' }) :
    wpAny (model P w) A (call (.type "enumerate") [v]) Q E s := by
  refine callType_new F.called_enumerate rfl (F.typeCall_enumerate_1 v) (F.newCall_enumerate_1 v) (fun obj => F.args_object_init_2 obj v) F.entry_enumerate_new (enum_new B) ⟨hH, ?_⟩
  have k : ∀ b ob, s.heap.get? b = some ob → ((s.heap.push o).push { cls := .type "enumerate", data := .fields #[.none, .bool false, .ref s.heap.objs.size, rawInt 0, .none, .none] }).get? b = some ob := fun b ob e => Heap.get?_push_of_some _ (Heap.get?_push_of_some _ e)
  have f : o.isFreed = false := B.free
  have at0 : (s.heap.push o).get? s.heap.objs.size = some o := Heap.get?_push_size _ f
  have at1 : ((s.heap.push o).push { cls := .type "enumerate", data := .fields #[.none, .bool false, .ref s.heap.objs.size, rawInt 0, .none, .none] }).get? (s.heap.push o).objs.size = some { cls := .type "enumerate", data := .fields #[.none, .bool false, .ref s.heap.objs.size, rawInt 0, .none, .none] } := Heap.get?_push_size _ rfl
  have sz : (s.heap.push o).objs.size = s.heap.objs.size + 1 := Heap.size_push _ _
  refine ⟨⟨_, at1, rfl⟩, ?_⟩
  rw [sz] at at1 ⊢
  exact q _ at1 (Heap.get?_push_of_some _ at0) (by rw [Heap.size_push, sz]) k
/-! ### the walk -/
theorem vals_at : ∀ {xs : List V} {us : List Value} {i : Nat} {x : V} {u : Value}, Vals xs us → xs[i]? = some x → us[i]? = some u → RelV x u := by
  intro xs us i x u h
  induction h generalizing i with
  | nil => intro e; simp at e
  | cons r t ih =>
    intro e1 e2
    cases i with
    | zero => simp at e1 e2; rw [← e1, ← e2]; exact r
    | succ i => exact ih (by simpa using e1) (by simpa using e2)
def Itet (K : PySem.W.Frag) (a : Addr) : It where
  go := fun i H => ∃ xs x, SqT K H a xs ∧ xs[i]? = some x
  yld := fun i H v H' => ∃ T x, v = .ref T ∧ H T = none ∧ H' = upd H T (.tup [.int i, x]) ∧ ∀ xs, SqT K H a xs → xs[i]? = some x
  stop := fun i H => ∃ xs, SqT K H a xs ∧ xs.length = i
theorem turn_enumT {P : Program} {w : World} {K : PySem.W.Frag} {elts : List Expr} {kk : Nat} {tpos : Pos} (a e it : Addr) : Turn P w K (.Tuple elts kk tpos) (Itet K a) [e, it] e fun i h => (∃ old, IsEnum h e it i old) ∧ h.IsTupleIter it a i ∧ e ≠ it where
  mem := List.mem_cons_self
  obj := fun i h ⟨⟨old, h1⟩, ⟨o, h2, h3, h4⟩, _⟩ b hb => by
    rcases List.mem_cons.mp hb with rfl | hb
    · exact ⟨_, h1, fun v => by simp⟩
    · cases List.mem_singleton.mp hb
      exact ⟨o, h2, fun v => by rw [h4]; simp⟩
  keep := fun i h h' ⟨⟨old, h1⟩, ⟨o, h2, h3⟩, h4⟩ k => ⟨⟨old, k e List.mem_cons_self _ h1⟩, ⟨o, k it (by simp) _ h2, h3⟩, h4⟩
  self := fun A i s Q E ⟨⟨old, h1⟩, _, _⟩ q => wpAny_pyIter_enum h1 q
  item := by
    rintro X rfl rfl rfl hc i pins s σ H E I fo ⟨⟨old, h1⟩, h2, h3⟩ ⟨xs, x, hx, hi⟩
    obtain ⟨its, rv, ht, hz⟩ := Inv.tuple I hx
    have ht' : s.heap.IsTuple a its.toArray := ht
    obtain ⟨ot, o1, o2, n, o3⟩ := ht
    have h2c := h2
    obtain ⟨oi, i1, i2, i3⟩ := h2c
    have ne : a ≠ it := fun z => by
      subst z
      rw [o1] at i1; cases i1
      rw [o2] at i2
      simp at i2
    have ne2 : e ≠ a := fun z => by
      subst z
      have h1' : s.heap.get? e = some _ := h1
      rw [o1] at h1'
      cases h1'
      simp at o2
    have hd : X.A.handled = none := I.ok.hd hc
    have D := Draws.tuple (prog := X.prog) (w := X.w) (A := X.A.in1) hd it a ne its.toArray
    have G := GoesN.enumFrom (elts := elts) (x1 := kk) (pos := tpos) 0 D e h3 (by simp; exact ⟨h3, ne2⟩) (by simp)
    have hlt : i < its.toArray.size := by
      have := rv.length
      have := (List.getElem?_eq_some_iff.mp hi).1
      rw [List.size_toArray]; omega
    refine G.goes i s _ E hlt ⟨⟨old, by rw [Int.zero_add]; exact h1⟩, h2, ht'⟩ fun v h' tk Y St' kept _ => ?_
    obtain ⟨T, t, x', rfl, hT, hx', hat⟩ := Y
    obtain ⟨⟨old', e1⟩, e2, _⟩ := St'
    have rx : RelV x x' := vals_at rv hi (by simpa using hx')
    refine ⟨.ref T, upd H T (.tup [.int i, x]), Inv.turnedNew (ch := [e, it]) I kept (fun b hb => fo b hb) hT ?_, rfl, ⟨T, x, rfl, I.hok.fresh hT, rfl, fun ys hy => ?_⟩, ⟨⟨old', by have := e1; rw [Int.zero_add] at this; exact this⟩, e2, h3⟩, fun b hb => ?_⟩
    · refine ⟨(by show 2 ≤ sizeLine; rw [sizeLine_eq]; decide), [.int i t, x'], .cons ⟨t, rfl⟩ (.cons rx .nil), ?_⟩
      have := hat
      rw [Int.zero_add] at this
      exact this
    · rw [← Inv.tuple_inj I hx hy]; exact hi
    · have hb2 : H b = none := (fo b hb).1
      have : b < s.heap.objs.size := by
        rcases List.mem_cons.mp hb with rfl | hb
        · exact Heap.lt_size h1
        · cases List.mem_singleton.mp hb; exact Heap.lt_size i1
      rw [upd_ne (Nat.ne_of_lt (Nat.lt_of_lt_of_le this hT))]
      exact hb2
  done := by
    rintro X rfl rfl rfl hc i pins s σ H E I fo ⟨⟨old, h1⟩, h2, h3⟩ ⟨xs, hx, hi⟩
    obtain ⟨its, rv, ht, hz⟩ := Inv.tuple I hx
    have ht' : s.heap.IsTuple a its.toArray := ht
    obtain ⟨ot, o1, o2, n, o3⟩ := ht
    have h2c := h2
    obtain ⟨oi, i1, i2, i3⟩ := h2c
    have ne : a ≠ it := fun z => by
      subst z
      rw [o1] at i1; cases i1
      rw [o2] at i2
      simp at i2
    have ne2 : e ≠ a := fun z => by
      subst z
      have h1' : s.heap.get? e = some _ := h1
      rw [o1] at h1'
      cases h1'
      simp at o2
    have hd : X.A.handled = none := I.ok.hd hc
    have D := Draws.tuple (prog := X.prog) (w := X.w) (A := X.A.in1) hd it a ne its.toArray
    have G := GoesN.enumFrom (elts := elts) (x1 := kk) (pos := tpos) 0 D e h3 (by simp; exact ⟨h3, ne2⟩) (by simp)
    have hn : i = its.toArray.size := by
      have := rv.length
      rw [List.size_toArray]; omega
    subst hn
    refine G.stops s (fun s1 => L2.Inv X pins σ H s1) E ⟨⟨old, by rw [Int.zero_add]; exact h1⟩, h2, ht'⟩ fun h' tk kept _ => ?_
    exact Inv.turnedL I kept fun b hb => fo b hb
def iEnumT (K : PySem.W.Frag) (ta : TA) : TI := fun σ H R => ta σ H fun vs H1 => ∃ a xs, vs = [V.ref a] ∧ SqT K H1 a xs ∧ R (Itet K a) H1
theorem pi_enumT {X : Cx} {e : Expr} {ta : TA} {p pos tpos : Pos} {elts : List Expr} {kk : Nat} (hg : Gl X "enumerate") (hm : X.mg "enumerate" = none) (ha : PA X [e] ta) (hs : starEach [e] X.env = [(false, eval e X.env)]) : PI X (.Tuple elts kk tpos) (.Call (.Name "enumerate" p) [e] [] pos) (iEnumT X.K ta) := by
  refine ⟨fun pins s σ H R I h => Call_ (ld_blt I hg hm boot_enumerate (PyProof.Rows.callWith_type1 (thn (ha.run pos pins s σ H _ I h) fun us s1 z => ?_) (by rw [hs]; rfl)))⟩
  obtain ⟨vs, H1, I1, r1, a, xs, rfl, hx, q⟩ := z
  obtain ⟨u, rfl, ru⟩ := L2.vals1 r1
  cases (show u = .ref a from ru)
  obtain ⟨its, rv, ht, hz⟩ := Inv.tuple I1 hx
  have ht' : s1.heap.IsTuple a its.toArray := ht
  refine enum_call (begins_tuple a its.toArray) ht' fun h' e1 e2 sz kp => wpAny_pyIter_enum e1 ?_
  have ne : s1.heap.objs.size + 1 ≠ s1.heap.objs.size := by omega
  refine ⟨s1.heap.objs.size + 1, [s1.heap.objs.size + 1, s1.heap.objs.size], _, Itet X.K a, H1, rfl, I1.kept kp, turn_enumT a _ s1.heap.objs.size, ⟨⟨.none, e1⟩, ⟨_, e2, rfl, rfl⟩, ne⟩, fun b hb => ?_, q⟩
  have hb' : s1.heap.objs.size ≤ b := by
    rcases List.mem_cons.mp hb with rfl | hb
    · exact Nat.le_succ _
    · cases List.mem_singleton.mp hb; exact Nat.le_refl _
  exact Inv.fpOk I1 hb' (I1.hok.fresh hb')
/-! ### by data -/
def enumD (ds : List D) : List D := (List.range ds.length).map fun i : Nat => .tup [.int (i : Int), ds.getD i .non]
def mEn (n : M (List Val)) : M (List D) := M.bind n fun as e => match escs e as with
  | some ([.lst ds], e') => .ok (enumD ds) e'
  | some ([.fl ds], e') => .ok (enumD ds) e'
  | some ([.tup ds], e') => .ok (enumD ds) e'
  | _ => .no
theorem enumD_at {ds : List D} {i : Nat} {d : D} (h : (enumD ds)[i]? = some d) : ∃ x, ds[i]? = some x ∧ d = .tup [.int (i : Int), x] := by
  unfold enumD at h
  rw [List.getElem?_map] at h
  by_cases hi : i < ds.length
  · rw [List.getElem?_eq_getElem (by simpa using hi)] at h
    simp at h
    refine ⟨ds[i], List.getElem?_eq_getElem hi, ?_⟩
    rw [← h, List.getElem?_eq_getElem hi]
    rfl
  · rw [List.getElem?_eq_none (by simpa using hi)] at h
    cases h
theorem pair_new {K : PySem.W.Frag} {W H : Hp} {T : Addr} {x : V} {d : D} {i : Nat} (s : Sub W H) (hT : H T = none) (r : Rep K W x d) : ∃ W', Step W H W' (upd H T (.tup [.int i, x])) ∧ Rep K W' (.ref T) (.tup [.int (i : Int), d]) :=
  ⟨_, .new s hT, .tup upd_same (.cons (.int _) (.cons (r.mono (.new (s.none hT))) .nil))⟩
theorem ite_okL {K : PySem.W.Frag} {W : Hp} {a : Addr} {vs : List V} {ds : List D} (ha : SqL K W a vs) (r : Reps K W vs ds) : ItOk K W (Ite K a) (enumD ds) := fun i W1 H1 s1 s2 => by
  have h1 : SqL K H1 a vs := Sub.sqL (s1.trans s2) ha
  refine ⟨fun d hd => ?_, fun hl => ⟨vs, h1, ?_⟩⟩
  · obtain ⟨x, hx, rfl⟩ := enumD_at hd
    obtain ⟨v, hv, rv⟩ := r.get hx
    refine ⟨⟨vs, v, h1, hv⟩, fun y H' yy => ?_⟩
    obtain ⟨T, x', rfl, hT, rfl, k⟩ := yy
    have := k vs h1
    rw [hv] at this
    cases this
    exact pair_new s2 hT (rv.mono s1)
  · rw [r.length]
    unfold enumD at hl
    simp at hl
    omega
theorem ite_okT {K : PySem.W.Frag} {W : Hp} {a : Addr} {vs : List V} {ds : List D} (ha : W a = some (.tup vs)) (r : Reps K W vs ds) : ItOk K W (Itet K a) (enumD ds) := fun i W1 H1 s1 s2 => by
  have h1 : SqT K H1 a vs := sqT_of (s2 _ _ (s1 _ _ ha))
  refine ⟨fun d hd => ?_, fun hl => ⟨vs, h1, ?_⟩⟩
  · obtain ⟨x, hx, rfl⟩ := enumD_at hd
    obtain ⟨v, hv, rv⟩ := r.get hx
    refine ⟨⟨vs, v, h1, hv⟩, fun y H' yy => ?_⟩
    obtain ⟨T, x', rfl, hT, rfl, k⟩ := yy
    have := k vs h1
    rw [hv] at this
    cases this
    exact pair_new s2 hT (rv.mono s1)
  · rw [r.length]
    unfold enumD at hl
    simp at hl
    omega
theorem w_enum {X : Cx} {Wx : WX} {a : Expr} {n : M (List Val)} {p pos tpos : Pos} {elts : List Expr} {kk : Nat} (hm : X.mg "enumerate" = none) (ha : DA X Wx [a] n) (hg : Gl X "enumerate" := by rfl) (hs : starEach [a] X.env = [(false, eval a X.env)] := by rfl) :
    DI X Wx (.Tuple elts kk tpos) (.Call (.Name "enumerate" p) [a] [] pos) (mEn n) := PI.wk (PI.or (pi_enum hg hm ha hs) (pi_enumT hg hm ha hs)) (by
  rintro σ H R ⟨fg, la, W, e, rl, h⟩
  unfold mEn M.bind at h
  cases q : n e with
  | no => rw [q] at h; exact h.elim
  | ex x e' => rw [q] at h; exact .inl ⟨fg, la, W, e, rl, by rw [q]; exact h⟩
  | ok as e1 =>
    rw [q] at h
    simp only at h
    cases q2 : escs e1 as with
    | none => rw [q2] at h; exact h.elim
    | some pr =>
      obtain ⟨ds, e2⟩ := pr
      rw [q2] at h
      match ds, h with
      | [.lst xs], h =>
        refine .inl ⟨fg, la, W, e, rl, ?_⟩
        rw [q]
        intro W1 H1 s1 r1 vs hv
        obtain ⟨W2, s2, r2, rp⟩ := escs_ok r1 hv q2
        cases rp with
        | cons r3 t3 =>
          cases t3
          cases r3 with
          | lst hx rr => exact ⟨_, _, rfl, SqL.of (r2.sub _ _ hx), (show ∀ W' H', Sub W W' → Rel X.K fg la W' H' σ e2 → ∀ J, ItOk X.K W' J (enumD xs) → R J H' from h) W2 H1 (s1.trans s2) r2 _ (ite_okL (SqL.of hx) rr)⟩
      | [.fl xs], h =>
        refine .inl ⟨fg, la, W, e, rl, ?_⟩
        rw [q]
        intro W1 H1 s1 r1 vs hv
        obtain ⟨W2, s2, r2, rp⟩ := escs_ok r1 hv q2
        cases rp with
        | cons r3 t3 =>
          cases t3
          cases r3 with
          | fl hx rr => exact ⟨_, _, rfl, Sub.sqL r2.sub hx, (show ∀ W' H', Sub W W' → Rel X.K fg la W' H' σ e2 → ∀ J, ItOk X.K W' J (enumD xs) → R J H' from h) W2 H1 (s1.trans s2) r2 _ (ite_okL hx rr)⟩
      | [.tup xs], h =>
        refine .inr ⟨fg, la, W, e, rl, ?_⟩
        rw [q]
        intro W1 H1 s1 r1 vs hv
        obtain ⟨W2, s2, r2, rp⟩ := escs_ok r1 hv q2
        cases rp with
        | cons r3 t3 =>
          cases t3
          cases r3 with
          | tup hx rr => exact ⟨_, _, rfl, sqT_of (r2.sub _ _ hx), (show ∀ W' H', Sub W W' → Rel X.K fg la W' H' σ e2 → ∀ J, ItOk X.K W' J (enumD xs) → R J H' from h) W2 H1 (s1.trans s2) r2 _ (ite_okT hx rr)⟩)
end VS

/-! VT1: zip; texts as module constants; lists backwards; names set anew by an operator. -/
namespace VS
open PySem PySem.Spec PyProof.Rows L2
def zipD (xs ys : List D) : List D := (xs.zip ys).map fun p => .tup [p.1, p.2]
def mZip (n : M (List Val)) : M (List D) := M.bind n fun as e => match escs e as with
  | some ([.lst xs, .lst ys], e') => .ok (zipD xs ys) e'
  | some ([.tup xs, .tup ys], e') => .ok (zipD xs ys) e'
  | _ => .no
theorem zipD_at {xs ys : List D} {i : Nat} {d : D} (h : (zipD xs ys)[i]? = some d) : ∃ x y, xs[i]? = some x ∧ ys[i]? = some y ∧ d = .tup [x, y] := by
  unfold zipD at h
  rw [List.getElem?_map] at h
  cases q : (xs.zip ys)[i]? with
  | none => rw [q] at h; cases h
  | some p =>
    rw [q] at h
    cases h
    obtain ⟨a, b⟩ := List.getElem?_zip_eq_some.mp q
    exact ⟨_, _, a, b, rfl⟩
theorem two_new {K : PySem.W.Frag} {W H : Hp} {T : Addr} {x y : V} {d f : D} (s : Sub W H) (hT : H T = none) (r : Rep K W x d) (r2 : Rep K W y f) : ∃ W', Step W H W' (upd H T (.tup [x, y])) ∧ Rep K W' (.ref T) (.tup [d, f]) :=
  ⟨_, .new s hT, .tup upd_same (.cons (r.mono (.new (s.none hT))) (.cons (r2.mono (.new (s.none hT))) .nil))⟩
theorem zip_end {xs ys : List D} {i : Nat} (h : (zipD xs ys).length = i) : xs.length ≤ i ∨ ys.length ≤ i := by
  unfold zipD at h
  simp at h
  omega
theorem itz_okL {K : PySem.W.Frag} {W : Hp} {a b : Addr} {vs us : List V} {xs ys : List D} (ha : SqL K W a vs) (hb : SqL K W b us) (r : Reps K W vs xs) (r2 : Reps K W us ys) : ItOk K W (Itz K a b) (zipD xs ys) := fun i W1 H1 s1 s2 => by
  have h1 : SqL K H1 a vs := Sub.sqL (s1.trans s2) ha
  have h2 : SqL K H1 b us := Sub.sqL (s1.trans s2) hb
  refine ⟨fun d hd => ?_, fun hl => ⟨vs, us, h1, h2, by rw [r.length, r2.length]; exact zip_end hl⟩⟩
  obtain ⟨x, y, hx, hy, rfl⟩ := zipD_at hd
  obtain ⟨v, hv, rv⟩ := r.get hx
  obtain ⟨u, hu, ru⟩ := r2.get hy
  refine ⟨⟨vs, us, v, u, h1, h2, hv, hu⟩, fun z H' yy => ?_⟩
  obtain ⟨T, x', y', rfl, hT, rfl, k1, k2⟩ := yy
  have e1 := k1 vs h1
  have e2 := k2 us h2
  rw [hv] at e1; cases e1
  rw [hu] at e2; cases e2
  exact two_new s2 hT (rv.mono s1) (ru.mono s1)
theorem itz_okT {K : PySem.W.Frag} {W : Hp} {a b : Addr} {vs us : List V} {xs ys : List D} (ha : W a = some (.tup vs)) (hb : W b = some (.tup us)) (r : Reps K W vs xs) (r2 : Reps K W us ys) : ItOk K W (RZ.ItzT K a b) (zipD xs ys) := fun i W1 H1 s1 s2 => by
  have h1 : SqT K H1 a vs := sqT_of (s2 _ _ (s1 _ _ ha))
  have h2 : SqT K H1 b us := sqT_of (s2 _ _ (s1 _ _ hb))
  refine ⟨fun d hd => ?_, fun hl => ⟨vs, us, h1, h2, by rw [r.length, r2.length]; exact zip_end hl⟩⟩
  obtain ⟨x, y, hx, hy, rfl⟩ := zipD_at hd
  obtain ⟨v, hv, rv⟩ := r.get hx
  obtain ⟨u, hu, ru⟩ := r2.get hy
  refine ⟨⟨vs, us, v, u, h1, h2, hv, hu⟩, fun z H' yy => ?_⟩
  obtain ⟨T, x', y', rfl, hT, rfl, k1, k2⟩ := yy
  have e1 := k1 vs h1
  have e2 := k2 us h2
  rw [hv] at e1; cases e1
  rw [hu] at e2; cases e2
  exact two_new s2 hT (rv.mono s1) (ru.mono s1)
section
variable {X : Cx} {Wx : WX}
theorem w_zip {a b : Expr} {n : M (List Val)} {p pos tpos : Pos} {elts : List Expr} {kk : Nat} (hm : X.mg "zip" = none) (ha : DA X Wx [a, b] n) (hg : Gl X "zip" := by rfl) (hs : starEach [a, b] X.env = (false, eval a X.env) :: starEach [b] X.env := by rfl) (hs2 : ((backTo pos (starEach [b] X.env)).any fun x => x.fst) = false := by rfl) :
    DI X Wx (.Tuple elts kk tpos) (.Call (.Name "zip" p) [a, b] [] pos) (mZip n) := PI.wk (RZ.pi_zipA hg hm ha hs hs2) (by
  rintro σ H R ⟨fg, la, W, e, rl, h⟩
  unfold mZip M.bind at h
  cases q : n e with
  | no => rw [q] at h; exact h.elim
  | ex x e' => rw [q] at h; exact ⟨fg, la, W, e, rl, by rw [q]; exact h⟩
  | ok as e1 =>
    rw [q] at h
    simp only at h
    cases q2 : escs e1 as with
    | none => rw [q2] at h; exact h.elim
    | some pr =>
      obtain ⟨ds, e2⟩ := pr
      rw [q2] at h
      match ds, h with
      | [.lst xs, .lst ys], h =>
        refine ⟨fg, la, W, e, rl, ?_⟩
        rw [q]
        intro W1 H1 s1 r1 vs hv
        obtain ⟨W2, s2, r2, rp⟩ := escs_ok r1 hv q2
        cases rp with
        | cons r3 t3 => cases t3 with
          | cons r4 t4 =>
            cases t4
            cases r3 with
            | lst hx rr => cases r4 with
              | lst hy rs => exact ⟨_, _, _, _, rfl, .inl ⟨SqL.of (r2.sub _ _ hx), SqL.of (r2.sub _ _ hy), (show ∀ W' H', Sub W W' → Rel X.K fg la W' H' σ e2 → ∀ J, ItOk X.K W' J (zipD xs ys) → R J H' from h) W2 H1 (s1.trans s2) r2 _ (itz_okL (SqL.of hx) (SqL.of hy) rr rs)⟩⟩
      | [.tup xs, .tup ys], h =>
        refine ⟨fg, la, W, e, rl, ?_⟩
        rw [q]
        intro W1 H1 s1 r1 vs hv
        obtain ⟨W2, s2, r2, rp⟩ := escs_ok r1 hv q2
        cases rp with
        | cons r3 t3 => cases t3 with
          | cons r4 t4 =>
            cases t4
            cases r3 with
            | tup hx rr => cases r4 with
              | tup hy rs => exact ⟨_, _, _, _, rfl, .inr ⟨sqT_of (r2.sub _ _ hx), sqT_of (r2.sub _ _ hy), (show ∀ W' H', Sub W W' → Rel X.K fg la W' H' σ e2 → ∀ J, ItOk X.K W' J (zipD xs ys) → R J H' from h) W2 H1 (s1.trans s2) r2 _ (itz_okT hx hy rr rs)⟩⟩)
theorem w_gstr {x z : Str} {pos : Pos} (hm : ∃ t, X.mg x = some (.str z t)) (hg : Gl X x := by rfl) (hd : (x == ("__debug__" : Str)) = false := by decide) : DE X Wx (.Name x pos) (mC (.str z)) := d_gstr hg hm hd
/-- backwards: a new list -/
def fRev : D → Option Val
  | .lst ds => some (.ow (.lst ds.reverse))
  | .fl ds => some (.ow (.lst ds.reverse))
  | _ => none
theorem w_revL {e : Expr} {m : M Val} {k : Nat} {p1 p2 p3 pos : Pos} (he : DE X Wx e m) : DE X Wx (.Subscript e (.Slice none none (some (.UnaryOp .USub (.Constant (.int 1) k p1) p2)) p3) pos) (m1 fRev m) :=
  PE.wk (pe_revL he) fun σ H Q h => by
    refine rd1 (f := fRev) (r := fun x H Q => ∃ a xs, x = V.ref a ∧ SqL X.K H a xs ∧ ∀ p : Addr, H p = none → Q (V.ref p) (upd H p (.lst xs.reverse))) (fun W H x d a Q s h1 h q => ?_) h
    cases d with
    | lst ds =>
      cases h
      obtain ⟨p, vs, rfl, hp, r⟩ := repO_lst' s h1
      refine ⟨p, vs, rfl, sqL_of hp, fun n hn => ?_⟩
      obtain ⟨t, nv⟩ := newV_ow s hn r.reverse
      exact q _ _ _ t nv
    | fl ds =>
      cases h
      obtain ⟨p, vs, rfl, hp, r⟩ := repO_fl h1
      refine ⟨p, vs, rfl, s.sqL hp, fun n hn => ?_⟩
      obtain ⟨t, nv⟩ := newV_ow s hn r.reverse
      exact q _ _ _ t nv
    | _ => cases h
/-! ### x op= e -/
def sAug (i : Nat) (f : D → D → Option Val) (m : M Val) : M Flw := fun e => match e[i]? with
  | some (.sh d) => M.bind m (fun b e1 => match look e1 b with
    | some d2 => match f d d2 with
      | some (.sh z) => match putC e1 i (.sh z) with
        | some e2 => .ok .nx e2
        | none => .no
      | _ => .no
    | none => .no) e
  | _ => .no
theorem ds_aug {i : Nat} {x : Str} {e : Expr} {m : M Val} {op : Operator} {r : TIp} {f : D → D → Option Val} {pos' pos : Pos} (hN : X.N.Nodup) (hp : PIp X op r) (hd : OpD X.K r f) (he : DE X Wx e m) (hi : X.N[i]? = some x := by rfl) (hx : Loc X.env.scope x := by first | exact Or.inl rfl | exact Or.inr rfl)
    (hf : X.fn x = true ∨ X.env.scope.names.lookup x = some .local := by first | exact .inl rfl | exact .inr rfl) : DS X Wx (.AugAssign (.Name x pos') op e pos) (sAug i f m) := PS.wk (ps_aug hN hi hx he hp hf) (by
  rintro Dn σ H ⟨fg, la, W, e, rl, h⟩
  unfold sAug at h
  cases q : e[i]? with
  | none => rw [q] at h; exact h.elim
  | some c =>
    rw [q] at h
    cases c with
    | sh d =>
      obtain ⟨v, hv, rv⟩ := rl.cell i _ q
      refine ⟨v, hv, fg, la, W, e, rl, (PostS.bind h).mono fun W1 H1 e1 b s1 r1 h1 y hy => ?_⟩
      cases q1 : look e1 b with
      | none => rw [q1] at h1; exact (show False from h1).elim
      | some d2 =>
        rw [q1] at h1
        simp only at h1
        cases q2 : f d d2 with
        | none => rw [q2] at h1; exact (show False from h1).elim
        | some z =>
          rw [q2] at h1
          cases z with
          | sh z =>
            simp only at h1
            cases q3 : putC e1 i (.sh z) with
            | none => rw [q3] at h1; exact (show False from h1).elim
            | some e2 =>
              rw [q3] at h1
              refine hd W1 H1 v y d d2 (.sh z) _ r1.sub (.inl (rv.mono s1)) (look_ok r1 hy q1) q2 fun W' H' u t nv => ?_
              exact (show ∀ W' H' σ', Sub W1 W' → Rel X.K fg la W' H' σ' e2 → Dn.nx σ' H' from h1) W' H' _ t.w ((r1.step t).put (a := .sh z) nv rfl q3)
          | _ => exact (show False from h1).elim
    | _ => exact h.elim)
end
/-! ### a def that calls itself: at no depth it promises nothing -/
section
variable {P : Program} {w : World} {K : PySem.W.Frag} {mg : Str → Option Value} {base : Heap} {x : Str} {st : Stmt} {k n : Nat} {ps : List Str}
theorem none0 (T : DefT K mg x st) (hl : ps.length = n) (hbind : BindF x st ps) : HasD P w K mg base x k ps (Prom0 K mg n fun _ => .no) := by
  obtain ⟨f, fd, F, g⟩ := T
  refine ⟨f, fd, ⟨fun vs H Q E h => ?_, fun A outer s H args us vs Q E _ _ _ _ _ h => ?_⟩, g, F.kp, F.bindsN hbind⟩
  · obtain ⟨_, _, _, _, _, _, _, z⟩ := h; exact z.elim
  · obtain ⟨_, _, _, _, _, _, _, z⟩ := h; exact z.elim
theorem none1 (T : DefT K mg x st) (hl : ps.length = n) (hbind : BindF x st ps) : HasD P w K mg base x k ps (Prom1 K mg n fun _ => .no) := by
  obtain ⟨f, fd, F, g⟩ := T
  refine ⟨f, fd, ⟨fun vs H Q E h => ?_, fun A outer s H args us vs Q E _ _ _ _ _ h => ?_⟩, g, F.kp, F.bindsN hbind⟩
  · obtain ⟨_, _, _, _, _, _, _, _, _, _, _, _, _, _, z⟩ := h; exact z.elim
  · obtain ⟨_, _, _, _, _, _, _, _, _, _, _, _, _, _, z⟩ := h; exact z.elim
end
end VS

/-! VX: sorted of tuples, of dicts with tuple keys. -/
namespace VS
open PySem PySem.Spec PyProof.Rows L2 PySem.Calls
section
variable {prog : Program} {w : World} {A : Around} {E : Value → Shared → Prop} {s : Shared}
theorem collect_tup {l : Addr} {vs : List Value} {Q : List Value → Shared → Prop} (hl : IsTup s.heap l vs.toArray)
    (h : Q vs { s with heap := (s.heap.push (seqObj "list" #[] 0)).update s.heap.objs.size (Obj.mapSeq (· ++ vs.toArray)) }) (hsz : vs.length ≤ sizeLine) :
    wpAny (model prog w) A (collect (.ref l)) Q E s := by
  obtain ⟨o, ho, hc, n, hd⟩ := id hl
  unfold collect
  refine wpAny_bind (wpAny_runValue (codeAny_builtin entry_proto_collect' ?_))
  show wpAny _ _ (do again (.builtin "list.__iadd__" ⟨[← newList [], .ref l], []⟩)) _ _ s
  refine wpAny_bind (wpAny_newList (wpAny_pure ⟨Code.quiet_builtin _ (by decide +kernel), codeAny_builtin entry_list_iadd' ?_⟩))
  show wpAny _ _ (Builtin.List.listExtendWith (.ref s.heap.objs.size) (.ref l) (.ref s.heap.objs.size)) _ _ { s with heap := s.heap.push (seqObj "list" #[] 0) }
  unfold Builtin.List.listExtendWith
  have ho' : (s.heap.push (seqObj "list" #[] 0)).get? l = some o := Heap.get?_push_of_some _ ho
  refine wpAny_bind (wpAny_typeOf (T := "tuple") ⟨o, ho', hc⟩ ?_)
  have ht : (Value.type "tuple" == Value.type "tuple") = true := by rfl
  rw [if_pos (by rw [ht]; simp)]
  refine wpAny_bind (listItems_at ho' hd ?_)
  refine wpAny_bind (listItems_at (xs := #[]) (n := 0) (Heap.get?_push_size _ rfl) rfl ?_)
  rw [if_neg (by simp)]
  refine wpAny_bind (listUpdate_at (xs := #[]) (n := 0) (Heap.get?_push_size _ rfl) rfl ?_ (Nat.zero_le _) (by show (#[] ++ vs.toArray).size ≤ sizeLine + 1; simp only [Array.size_append, List.size_toArray, List.length_nil]; omega))
  refine wpAny_pure ?_
  show wpAny (model prog w) A (do
      let o ← load s.heap.objs.size
      match o.data with
      | .seq xs _ => pure xs.toList
      | _ => unsupported "internal:collect") Q E { s with heap := (s.heap.push (seqObj "list" #[] 0)).update s.heap.objs.size (Obj.mapSeq (· ++ vs.toArray)) }
  refine wpAny_bind (wpAny_load (get?_update_seq (Heap.get?_push_size _ rfl) _) ?_)
  show wpAny _ _ (pure ((#[] : Array Value) ++ vs.toArray).toList) Q E _
  rw [show ((#[] : Array Value) ++ vs.toArray).toList = vs by simp]
  exact wpAny_pure h
/-- a dict's keys, whatever they are -/
theorem src_dict {d : Addr} {es : Array DictEntry} {ep : Nat} (lo : (d == sysModules) = false) : PySem.W.KdlSrc prog w "dict" d d es.size (fun i v => ∃ en, es[i]? = some en ∧ v = en.key) (fun h => ∃ o, h.get? d = some o ∧ o.ExactDict ∧ o.data = .dict es ep) where
  type := fun s ⟨o, ho, hc, _⟩ => ⟨o, ho, hc.1⟩
  there := fun h ⟨o, ho, _⟩ => ⟨Heap.lt_size ho, Heap.lt_size ho⟩
  keep := fun h h' ⟨o, ho, r⟩ k => ⟨o, k d (.inl rfl) o ho, r⟩
  notList := by decide
  notTuple := by decide
  hint := fun A E s Q ⟨o, ho, hc, _⟩ hq => PySem.W.kdl_hint_dict ⟨o, ho, hc.1⟩ hq
  iter := fun A s hh ⟨o, ho, hc, hd⟩ => ⟨_, fun i h => h.IsKeyIter s.heap.objs.size d i es.size ep ∧ ∃ o, h.get? d = some o ∧ o.ExactDict ∧ o.data = .dict es ep, (fun E Q hq => iter_keys lo ho hc hd hq),
    { sub := fun b hb => by simp at hb; simp [hb]
      frame := fun i h h' st hk => ⟨st.1.at fun o e => hk _ (by simp) o e, by obtain ⟨o, ho, r⟩ := st.2; exact ⟨o, hk _ (by simp) o ho, r⟩⟩
      item := fun i s1 Q E hi st hQ => by
        obtain ⟨st1, o, ho, hc, hd⟩ := st
        obtain ⟨en, hen⟩ : ∃ en, es[i]? = some en := ⟨es[i], by simp [hi]⟩
        have hne : d ≠ s.heap.objs.size := Nat.ne_of_lt (Heap.lt_size (by assumption))
        refine next_key_item st1 ho hd rfl hen fun h' st' sb => ?_
        exact hQ en.key h' s1.toks ⟨en, hen, rfl⟩ ⟨st', o, (sb.2 _ hne).trans ho, hc, hd⟩ fun b ob hb e => (sb.2 b (fun z => hb (by simp [z]))).trans e
      done := fun s1 Q E st hQ => by
        obtain ⟨st1, o, ho, hc, hd⟩ := st
        exact next_key_end hh st1 ho hd rfl (Nat.le_refl _) fun h' eb => hQ h' s1.toks fun b ob hb e => eb b ob (fun z => hb (by simp [z])) e
      self := fun i s1 Q E st h => wpAny_pyIter_keyiter st.1 h }, ⟨⟨_, Heap.get?_push_size _ rfl, rfl, rfl⟩, o, Heap.get?_push_of_some _ ho, hc, hd⟩⟩
end
section
variable {X : Cx} {pins : List (Addr × Obj)} {σ : L2.St} {H : Hp} {s : Shared}
/-- sorted(x), by how x's items are collected -/
theorem sort_from (I : Inv X pins σ H s) (hu : X.A.units + 70 < cLine) {r : Addr} {bs : List (V × D)} {Q : VK} (hd : ∀ b ∈ bs, Dp X.K H b.1 b.2.py) (al : PySem.W.AllAlike (bs.map fun b => b.2.py)) (so : PySem.W.Sortable (bs.map fun b => b.2.py)) (dp : ∀ b ∈ bs, b.2.py.depth ≤ 64) (hl : bs.length ≤ sizeLine)
    (hc : ∀ (E : Value → Shared → Prop) (R : List Value → Shared → Prop), (∀ h' tk its, (∀ b o, s.heap.get? b = some o → h'.get? b = some o) → Vals (bs.map (·.1)) its → R its { s with heap := h', toks := tk }) → wpAny (model X.prog X.w) X.A.in1 (collect (.ref r)) R E s)
    (q : ∀ p : Addr, H p = none → Q (.ref p) (upd H p (.lst ((bs.mergeSort (PySem.W.dataLe false fun b : V × D => b.2.py)).map (·.1))))) : wpAny (model X.prog X.w) X.A (call (.builtin "sorted") [.ref r]) (EP X pins σ Q) X.xe s := by
  refine Calls.call_function_entry PyProof.Rows.kind_sorted PyProof.Rows.plain_sorted PyProof.Rows.entry_sorted (PyProof.Rows.args_sorted1 _) ?_
  unfold Builtin.«sorted»
  refine wpAny_bind (m := checkCount "sorted" 1 1 _) (wpAny_pure ?_)
  refine wpAny_bind (hc _ _ fun h' tk its hk hv => ?_)
  have I1 : Inv X pins σ H { s with heap := h', toks := tk } := I.kept hk
  have hlen : its.length = bs.length := by rw [← hv.length, List.length_map]
  refine wpAny_bind (wpAny_newList ?_ (by rw [hlen]; exact hl))
  have hoL : (h'.push (seqObj "list" its.toArray 0)).get? h'.objs.size = some (seqObj "list" its.toArray 0) := Heap.get?_push_size _ rfl
  show wpAny _ _ _ _ _ { s with heap := h'.push (seqObj "list" its.toArray 0), toks := tk }
  have I2 : Inv X pins σ H { s with heap := h'.push (seqObj "list" its.toArray 0), toks := tk } := I1.kept fun b o e => Heap.get?_push_of_some _ e
  have e1 := vals_map hv bs rfl
  refine wpAny_bind (wpAny_holding (PySem.W.list_sort_data (bs := bs) (enc := fun b => b.2.py) (R := fun u b => RelV b.1 u) (s := { s with heap := h'.push (seqObj "list" its.toArray 0), toks := tk }) hoL e1 (eachIs_imp e1 fun u b m rb => ?_) al so hl (fun b m => ?_) fun out ol he => ?_))
  · obtain ⟨as, ra⟩ := Dp.reads I1 _ _ _ (hd b m) rb
    refine ⟨as, PyProof.Rows.Reads.keeps (fun b o e => Heap.get?_push_of_some _ e) ra, fun hm => ?_⟩
    obtain ⟨o, ho⟩ := PyProof.On.reads_mem_get ra _ hm
    exact absurd (Heap.lt_size ho) (Nat.lt_irrefl _)
  · have := dp b m
    show X.A.in1.units + 1 + _ < _
    have : X.A.in1.units = X.A.units + 1 := rfl
    omega
  · obtain ⟨e', he'⟩ := PyProof.Rows.sortedHeap_at (vs := its) (out := out.toArray) hoL
    have len : ((bs.mergeSort (PySem.W.dataLe false fun b : V × D => b.2.py)).map (·.1)).length = bs.length := by rw [List.length_map, List.length_mergeSort]
    refine wpAny_pure ⟨_, rfl, .ref h'.objs.size, upd H h'.objs.size (.lst ((bs.mergeSort (PySem.W.dataLe false fun b : V × D => b.2.py)).map (·.1))), I1.laid (t' := tk) (fun b u e => ?_) (Nat.le_refl _)
      (show ObjOk X.prog X.w _ _ _ (.lst _) from ⟨by rw [len]; exact hl, out, e', vals_back he, he'⟩), rfl, q _ (I1.hok.fresh (Nat.le_refl _))⟩
    have hb : b < h'.objs.size := Heap.lt_size e
    rw [PyProof.Rows.sortedHeap_old (Nat.ne_of_lt hb) (by rw [size_push']; exact Nat.lt_succ_of_lt hb)]
    exact Heap.get?_push_of_some _ e
def SortOk (K : PySem.W.Frag) (H : Hp) (vs : List V) (Q : VK) : Prop := ∃ bs : List (V × D), bs.map (·.1) = vs ∧ (∀ b ∈ bs, Dp K H b.1 b.2.py) ∧ PySem.W.AllAlike (bs.map fun b => b.2.py) ∧ PySem.W.Sortable (bs.map fun b => b.2.py) ∧
  (∀ b ∈ bs, b.2.py.depth ≤ 64) ∧ bs.length ≤ sizeLine ∧ ∀ p : Addr, H p = none → Q (.ref p) (upd H p (.lst ((bs.mergeSort (PySem.W.dataLe false fun b : V × D => b.2.py)).map (·.1))))
def KeyRefs (H : Hp) (kvs : List (List Key × V)) (qs : List Addr) : Prop := qs.length = kvs.length ∧ ∀ (i : Nat) k v, kvs[i]? = some (k, v) → ∃ q, qs[i]? = some q ∧ H q = some (.tup (k.map kV))
def rSortX (K : PySem.W.Frag) : List V → Hp → VK → Prop := fun xs H Q => ∃ a, xs = [V.ref a] ∧ ((∃ vs, SqT K H a vs ∧ SortOk K H vs Q) ∨ ∃ kvs : List (List Key × V), Rd H a (.dT kvs) ∧ ∀ qs, KeyRefs H kvs qs → SortOk K H (qs.map .ref) Q)
theorem vals_of_get {xs : List V} {us : List Value} (hl : xs.length = us.length) (h : ∀ (i : Nat) x u, xs[i]? = some x → us[i]? = some u → RelV x u) : Vals xs us := by
  induction xs generalizing us with
  | nil => cases us with
    | nil => exact .nil
    | cons _ _ => cases hl
  | cons x xs ih => cases us with
    | nil => cases hl
    | cons u us => exact .cons (h 0 x u rfl rfl) (ih (by simpa using hl) fun i x u h1 h2 => h (i + 1) x u (by simpa using h1) (by simpa using h2))
theorem cr_sortX (hcalm : X.calm = true) (hu : X.A.units + 120 < cLine) : CallR X (.builtin "sorted") (rSortX X.K) := by
  rintro pins s σ H xs us Q I r ⟨a, rfl, hx⟩
  obtain ⟨u, rfl, ru⟩ := L2.vals1 r
  cases (show u = .ref a from ru)
  rcases hx with ⟨vs, hx, bs, hb, hd, al, so, dp, hl, q⟩ | ⟨kvs, hk, hq⟩
  · refine sort_from I (by omega) hd al so dp hl (fun E R k => ?_) q
    obtain ⟨its, rv, ht, hz⟩ := Inv.tuple I hx
    refine collect_tup ht (k _ s.toks its (fun b o e => ?_) (by rw [hb]; exact rv)) (by rw [← rv.length]; exact hz)
    rw [Heap.get?_update_other _ _ (fun z => by have := Heap.lt_size e; rw [z] at this; exact Nat.lt_irrefl _ this)]
    exact Heap.get?_push_of_some _ e
  · obtain ⟨z, hs, xs, pr, o, es, ep, h1, h2, h3, h4, h5⟩ := (show ObjOk X.prog X.w H s.heap a (.dT kvs) from rd_of I.hok hk)
    have hsz : es.size = xs.length := size_of_entries h4
    have hkl : kvs.length = xs.length := Paired.length pr
    obtain ⟨bs, hb, hd, al, so, dp, hl, q⟩ := hq (xs.map fun x => x.2.1) ⟨by rw [List.length_map]; omega, fun i k v e => by
      obtain ⟨b, hb, e1, e2, _⟩ := paired_get pr e
      exact ⟨b.2.1, by rw [List.getElem?_map, hb]; rfl, e2⟩⟩
    refine sort_from I (by omega) hd al so dp hl (fun E R k => ?_) q
    refine PySem.W.kdu_collect (src_dict (es := es) (ep := ep) hs) (I.ok.hd hcalm) ⟨o, h1, h2, h3⟩ (by omega) fun h' tk acc hk' hacc => k h' tk acc.toList hk' ?_
    rw [hb]
    refine vals_of_get (by rw [Array.length_toList (xs := acc), hacc.1, List.length_map, List.length_map]; omega) fun i x u e1 e2 => ?_
    obtain ⟨en, he, rfl⟩ := hacc.2 i u (by rw [← Array.getElem?_toList]; exact e2)
    rw [List.getElem?_map, List.getElem?_map] at e1
    cases q0 : xs[i]? with
    | none => rw [q0] at e1; cases e1
    | some b =>
      rw [q0] at e1
      cases e1
      have q := entry_at h4 i
      rw [q0] at q
      rw [show es[i]? = some _ from q] at he
      cases he
      rfl
end
/-! ### sorted of any: the data's side -/
open Classical in
noncomputable def fSortX (ds : List D) : Option Val := match ds with
  | [.tup xs] => if sortable xs then some (.ow (.lst (xs.mergeSort dLe))) else none
  | [.dct true l] => if sortable (l.map (·.1)) then some (.ow (.lst ((l.map (·.1)).mergeSort dLe))) else none
  | _ => none
section
variable {K : PySem.W.Frag}
theorem sortOk_of {W H : Hp} {vs : List V} {xs : List D} {Q : VK} (s : Sub W H) (h3 : Reps K W vs xs) (c : sortable xs) (q : ∀ n, H n = none → ∀ vs' ds', Reps K W vs' ds' → ds' = xs.mergeSort dLe → Q (.ref n) (upd H n (.lst vs'))) : SortOk K H vs Q := by
  obtain ⟨c1, c2, c3, c4⟩ := c
  obtain ⟨z1, z2⟩ := zip_fst h3
  have zr := zip_rep h3
  have e1 : (vs.zip xs).map (fun b => b.2.py) = xs.map D.py := by rw [← z2, List.map_map]; rw [z2]; rfl
  have hl : (vs.zip xs).length = xs.length := by rw [← List.length_map (f := (·.2)), z2]
  refine ⟨vs.zip xs, z1, fun b m => dp_of ((zr b m).1.mono s) (c1 _ (zr b m).2).1, by rw [e1]; exact c2, by rw [e1]; exact c3, fun b m => (c1 _ (zr b m).2).2, by rw [hl]; exact leBig c4, fun n hn => ?_⟩
  have rp : Reps K W (((vs.zip xs).mergeSort (PySem.W.dataLe false fun b : V × D => b.2.py)).map (·.1)) (((vs.zip xs).mergeSort (PySem.W.dataLe false fun b : V × D => b.2.py)).map (·.2)) :=
    reps_zip fun b m => (zr b (List.mem_mergeSort.mp m)).1
  have e2 : ((vs.zip xs).mergeSort (PySem.W.dataLe false fun b : V × D => b.2.py)).map (·.2) = xs.mergeSort dLe := by
    exact (List.map_mergeSort (r := PySem.W.dataLe false fun b : V × D => b.2.py) (s := dLe) (f := (·.2)) fun a _ b _ => rfl).trans (by rw [z2])
  exact q n hn _ _ rp e2
theorem repO_tupX {W H : Hp} {x : V} {ds : List D} (s : Sub W H) (h : RepO K W H x (.tup ds)) : ∃ p vs, x = .ref p ∧ SqT K H p vs ∧ Reps K W vs ds := by
  rcases h with h | ⟨p, rfl, h⟩
  · cases h with
    | tup e r => exact ⟨_, _, rfl, sqT_of (s _ _ e), r⟩
  · exact h.elim
/-- the world, with tuples that stand on the heap -/
def more (W H : Hp) (qs : List Addr) : Hp := fun a => if a ∈ qs then H a else W a
theorem more_ok {W H : Hp} {kvs : List (List Key × V)} {qs : List Addr} (s : Sub W H) (k : KeyRefs H kvs qs) : Sub W (more W H qs) ∧ Sub (more W H qs) H ∧ (∀ a o, W a = none → H a = some o → NT o → more W H qs a = none) ∧ ∀ q ∈ qs, more W H qs q = H q := by
  refine ⟨fun a o e => ?_, fun a o e => ?_, fun a o e1 e2 nt => ?_, fun q m => by unfold more; rw [if_pos m]⟩
  · unfold more
    split
    · exact s a o e
    · exact e
  · unfold more at e
    split at e
    · exact e
    · exact s a o e
  · unfold more
    split
    · rename_i m
      obtain ⟨i, hi, rfl⟩ := List.mem_iff_getElem.mp m
      have hk : i < kvs.length := by rw [← k.1]; exact hi
      obtain ⟨q, h1, h2⟩ := k.2 i (kvs[i]).1 (kvs[i]).2 (List.getElem?_eq_getElem hk)
      rw [List.getElem?_eq_getElem hi] at h1
      cases h1
      rw [h2] at e2
      cases e2
      exact absurd rfl (nt _)
    · exact e1
theorem reps_keys {W : Hp} : ∀ {k : List Key}, Reps K W (k.map kV) (k.map kD)
  | [] => .nil
  | .inl i :: r => .cons (.int i) reps_keys
  | .inr x :: r => .cons (.str x) reps_keys
theorem repsT_keys {W W' H : Hp} : ∀ {kvs : List (List Key × V)} {l : List (D × D)} {qs : List Addr}, RepsT K W kvs l → KeyRefs H kvs qs → (∀ q ∈ qs, W' q = H q) → Reps K W' (qs.map .ref) (l.map (·.1))
  | [], _, qs, .nil, k, _ => by
    have := k.1
    cases qs with
    | nil => exact .nil
    | cons _ _ => cases this
  | (ky, v) :: kvs, _, qs, .cons r t, k, h => by
    cases qs with
    | nil => have := k.1; cases this
    | cons q qs =>
      obtain ⟨q', h1, h2⟩ := k.2 0 ky v rfl
      cases h1
      refine .cons (.tup (by rw [h q List.mem_cons_self]; exact h2) reps_keys) (repsT_keys t ⟨by simpa using k.1, fun i k' v' e => ?_⟩ fun x m => h x (List.mem_cons_of_mem _ m))
      obtain ⟨q'', g1, g2⟩ := k.2 (i + 1) k' v' (by simpa using e)
      exact ⟨q'', by simpa using g1, g2⟩
theorem cd_sortX : CallD K (rSortX K) fSortX := by
  intro W H vs ds a Q s h e q
  unfold fSortX at e
  split at e
  · rename_i xs
    split at e
    · rename_i c
      cases e
      obtain ⟨v, rfl, r⟩ := h.one
      obtain ⟨p, us, rfl, h2, h3⟩ := repO_tupX s r
      refine ⟨p, rfl, .inl ⟨us, h2, sortOk_of s h3 c fun n hn vs' ds' rp e => ?_⟩⟩
      subst e
      obtain ⟨t, nv⟩ := newV_ow (K := K) s hn rp
      exact q _ _ _ t nv
    · cases e
  · rename_i l
    split at e
    · rename_i c
      cases e
      obtain ⟨v, rfl, r⟩ := h.one
      obtain ⟨p, rfl, cc⟩ := repO_dct s r
      rcases cc with ⟨z, _⟩ | ⟨_, kvs, h1, h2⟩
      · cases z
      · refine ⟨p, rfl, .inr ⟨kvs, h1, fun qs kr => ?_⟩⟩
        obtain ⟨m1, m2, m3, m4⟩ := more_ok s kr
        refine sortOk_of m2 (repsT_keys h2 kr m4) c fun n hn vs' ds' rp e => ?_
        subst e
        obtain ⟨t, nv⟩ := newV_ow (K := K) m2 hn rp
        exact q _ _ _ (Step.trans ⟨m1, .refl _, m2, m3⟩ t) nv
    · cases e
  · cases e
noncomputable def fSortB (ds : List D) : Option Val := match fSortX ds with
  | some a => some a
  | none => fSortA ds
theorem cd_sortB : CallD K (fun xs H Q => rSortX K xs H Q ∨ (rSortDI xs H Q ∨ rSortD K xs H Q)) fSortB := by
  intro W H vs ds a Q s h e q
  unfold fSortB at e
  split at e
  · rename_i a' z
    cases e
    exact .inl (cd_sortX W H vs ds _ Q s h z q)
  · exact .inr (cd_sortA W H vs ds a Q s h e q)
theorem cr_sortB {X : Cx} (hc : X.calm = true) (u : X.A.units + 120 < cLine) : CallR X (.builtin "sorted") (fun xs H Q => rSortX X.K xs H Q ∨ (rSortDI xs H Q ∨ rSortD X.K xs H Q)) := CallR.or (cr_sortX hc u) (cr_sortA hc u)
end
section
variable {X : Cx} {Wx : WX}
theorem w_par3 (i j l : Nat) {x y z : Str} {a b c : Expr} {n : M (List Val)} {px py pz pt pos : Pos} {kt k2 pt2} (hN : X.N.Nodup) (ha : DA X Wx [a, b, c] n) (hi : X.N[i]? = some x := by rfl) (hj : X.N[j]? = some y := by rfl) (hl : X.N[l]? = some z := by rfl) (hij : i ≠ j := by decide) (hil : i ≠ l := by decide) (hjl : j ≠ l := by decide)
    (hx : X.env.scope.names.lookup x = some .local := by rfl) (hy : X.env.scope.names.lookup y = some .local := by rfl) (hz : X.env.scope.names.lookup z = some .local := by rfl)
    (hw : swappedStores [.Tuple [.Name x px, .Name y py, .Name z pz] kt pt] (.Tuple [a, b, c] k2 pt2) X.env = pure (some [x, y, z]) := by rfl)
    (hs : swapsWithSole [.Tuple [.Name x px, .Name y py, .Name z pz] kt pt] (.Tuple [a, b, c] k2 pt2) pos.line X.env = pure false := by rfl) (hc : X.calm = true := by rfl) :
    DS X Wx (.Assign [.Tuple [.Name x px, .Name y py, .Name z pz] kt pt] (.Tuple [a, b, c] k2 pt2) pos) (sPar [i, j, l] n) := PS.wk (ps_par3 hc hN hi hj hl hij hil hjl hx hy hz ha hw hs) (by
  intro D σ H h
  obtain ⟨fg, la, W, e, rl, z⟩ := rd_par h
  refine ⟨fg, la, W, e, rl, z.mono fun W1 H1 e1 as s1 r1 h1 vs hv => ?_⟩
  obtain ⟨hl, q, _⟩ := h1 vs hv
  match vs, hl with
  | [v, w, u], _ => exact ⟨v, w, u, rfl, q⟩)
end
end VS
/-! ### t[::-1] of a tuple -/
namespace RT
open PySem PySem.Spec PyProof.Rows L2 PySem.Calls HT
section
variable {prog : Program} {w : World} {A : Around} {E : Value → Shared → Prop} {s : Shared}
theorem sliceApplied_back {sl : Addr} {vl vu vs : Value} {n : Nat} {Q : Int × Int × Nat → Shared → Prop} (hs : s.heap.IsSliceOf sl vl vu vs) (pl : IsPart vl none) (pu : IsPart vu none) (ps : IsPart vs (some (-1)))
    (h : Q ((n : Int) - 1, -1, n) s) : wpAny (model prog w) A (Builtin.Slice.sliceApplied (.ref sl) (pure (n : Int))) Q E s := by
  obtain ⟨os, hos, hcs, hds⟩ := id hs
  unfold Builtin.Slice.sliceApplied Builtin.Slice.sliceFields
  refine wpAny_bind (wpAny_bind (wpAny_field hos hds (x := vl) rfl (wpAny_bind (wpAny_field hos hds (x := vu) rfl (wpAny_bind (wpAny_field hos hds (x := vs) rfl (wpAny_pure ?_)))))))
  refine wpAny_bind (slicePart_ ps ?_)
  show wpAny _ _ (if ((-1 : Int) == 0) = true then _ else _) _ _ s
  rw [if_neg (by decide)]
  refine wpAny_bind (slicePart_ pl (wpAny_bind (slicePart_ pu (wpAny_bind (wpAny_pure ?_)))))
  show wpAny _ _ (match Builtin.Slice.sliceAdjust none none (-1) (n : Int) with | (lo, hi) => pure (lo, (-1 : Int), Builtin.Slice.slicePlaces lo hi (-1))) _ _ s
  have e : Builtin.Slice.sliceAdjust none none (-1) (n : Int) = ((n : Int) - 1, -1) := by
    unfold Builtin.Slice.sliceAdjust
    simp
  rw [e]
  show wpAny _ _ (pure ((n : Int) - 1, (-1 : Int), Builtin.Slice.slicePlaces ((n : Int) - 1) (-1) (-1))) _ _ s
  have e2 : Builtin.Slice.slicePlaces ((n : Int) - 1) (-1) (-1) = n := by
    unfold Builtin.Slice.slicePlaces
    rw [if_neg (by decide)]
    by_cases h : (n : Int) - 1 > -1
    · rw [if_pos h]
      rw [show (- -1 : Int) = 1 by decide, Int.ediv_one]
      omega
    · rw [if_neg h]; omega
  rw [e2]
  exact wpAny_pure h
theorem pick_back (xs : Array Value) : ((List.range xs.size).filterMap fun (k : Nat) => xs[((xs.size : Int) - 1 + (k : Int) * (-1)).toNat]?).toArray = xs.toList.reverse.toArray := by
  have := PySem.W.krv_pick xs
  unfold slicePick at this
  rw [PySem.W.krv_bounds] at this
  have this : ((sliceRange ((xs.size : Int) - 1) (-1) (-1)).filterMap (xs[·]?)).toArray = xs.toList.reverse.toArray := this
  rw [← this, PySem.W.krv_sliceRange, List.filterMap_map]
  congr 1
  have cg : ∀ (l : List Nat) (f g : Nat → Option Value), (∀ k ∈ l, f k = g k) → l.filterMap f = l.filterMap g := by
    intro l f g h
    induction l with
    | nil => rfl
    | cons a l ih => rw [List.filterMap_cons, List.filterMap_cons, h a List.mem_cons_self, ih fun k m => h k (List.mem_cons_of_mem _ m)]
  refine cg _ _ _ fun k hk => ?_
  have := List.mem_range.mp hk
  show _ = xs[xs.size - 1 - k]?
  rw [show ((xs.size : Int) - 1 + (k : Int) * (-1)).toNat = xs.size - 1 - k by omega]
theorem getItem_tuple_back {t sl : Addr} {items : Array Value} {vl vu vs : Value} {Q : Value → Shared → Prop} (ht : IsTup s.heap t items) (hs : s.heap.IsSliceOf sl vl vu vs) (pl : IsPart vl none) (pu : IsPart vu none) (ps : IsPart vs (some (-1)))
    (h : Q (.ref s.heap.objs.size) { s with heap := s.heap.push { cls := .type "tuple", data := .seq items.toList.reverse.toArray } })
    (hsz : items.size ≤ sizeLine) : wpAny (model prog w) A (getItem (.ref t) (.ref sl)) Q E s := by
  have htake : sizeOk (.seq items.toList.reverse.toArray) := by
    show items.toList.reverse.toArray.size ≤ sizeLine
    rw [List.size_toArray, List.length_reverse, Array.length_toList]
    exact hsz
  obtain ⟨os, hos, hcs, hds⟩ := id hs
  have hTs : s.TypeIs (.ref sl) "slice" := ⟨os, hos, hcs⟩
  unfold getItem
  try with_reducible refine wpAny_holding ?_
  first | refine wpAny_bind (wpAny_pure ?_) | skip
  refine wpAny_bind (wpAny_sequenceKey ht.typeIs (by decide) ?_)
  refine wpAny_bind (wpAny_callSpecial?_slot (name := Str.ofString "__getitem__") ht.typeIs PyProof.Rows.slot_tuple_getitem
    (wpAny_call_entry PyProof.Rows.slot_tuple_getitem ht.typeIs entry_tuple_getitem ?_ (args_tuple_getitem _ _)))
  show wpAny _ _ (Builtin.Tuple.tupleItemsOf (.ref t) >>= _) _ _ s
  refine wpAny_bind (tupleItemsOf_ ht ?_)
  refine wpAny_bind (wpAny_typeOf hTs ?_)
  rw [if_pos (by decide)]
  refine wpAny_bind (sliceApplied_back hs pl pu ps ?_)
  have hno : ¬ ((((items.size : Int) - 1) == 0 && (-1 : Int) == 1 && items.size == items.size) = true) := by
    intro q
    rw [Bool.and_eq_true, Bool.and_eq_true] at q
    exact absurd q.1.2 (by decide)
  show wpAny _ _ (if (((items.size : Int) - 1) == 0 && (-1 : Int) == 1 && items.size == items.size) = true then _ else _) _ _ s
  rw [if_neg hno, pick_back]
  first
    | exact wpAny_bind (m := Builtin.Tuple.tupleExact _) (wpAny_newObj_type (wpAny_pure ⟨_, rfl, wpAny_pure h⟩) htake)
    | exact wpAny_bind (m := Builtin.Tuple.tupleExact _) (wpAny_newObj_type (wpAny_bind (wpAny_pure (wpAny_pure ⟨_, rfl, wpAny_pure h⟩))) htake)
    | exact wpAny_bind (wpAny_bind (m := Builtin.Tuple.tupleExact _) (wpAny_newObj_type (wpAny_pure (wpAny_pure ⟨_, rfl, wpAny_pure h⟩)) htake))
    | exact wpAny_bind (wpAny_bind (m := Builtin.Tuple.tupleExact _) (wpAny_newObj_type (wpAny_pure ⟨_, rfl, wpAny_pure h⟩) htake))
end
def tRevA (K : PySem.W.Frag) (te : TE) : TE := fun σ H Q => te σ H fun x H1 => ∃ a xs, x = .ref a ∧ ((SqL K H1 a xs ∧ ∀ p, H1 p = none → Q (.ref p) (upd H1 p (.lst xs.reverse))) ∨ (SqT K H1 a xs ∧ ∀ p, H1 p = none → Q (.ref p) (upd H1 p (.tup xs.reverse))))
theorem pe_revA {X : Cx} {e : Expr} {te : TE} {k : Nat} {p1 p2 p3 pos : Pos} (he : PE X e te) : PE X (.Subscript e (.Slice none none (some (.UnaryOp .USub (.Constant (.int 1) k p1) p2)) p3) pos) (tRevA X.K te) := by
  refine ⟨fun pins s σ H Q I h => ?_⟩
  refine Subscript_ (thn (he.run pins s σ H _ I h) fun v s1 ⟨x, H1, I1, r1, q1⟩ => ?_)
  obtain ⟨a, xs, ex, hq⟩ := q1
  subst ex
  cases r1
  have hst : PO X (some (.UnaryOp .USub (.Constant (.int 1) k p1) p2)) (tPart (tUn (rU fun i => .int (-i)) (tC (.int 1)))) := po_some (pe_un un_neg pe_int)
  refine wpAny_Slice (thn (po_none.run pins s1 σ H1 (fun o H2 => o = none ∧ H2 = H1) I1 ⟨rfl, rfl⟩) fun vl s2 ⟨l, H2, I2, pl, el, e2⟩ => ?_)
  subst el e2
  refine thn (po_none.run pins s2 σ H2 (fun o H3 => o = none ∧ H3 = H2) I2 ⟨rfl, rfl⟩) fun vu s3 ⟨u, H3, I3, pu, eu, e3⟩ => ?_
  subst eu e3
  refine thn (hst.run pins s3 σ H3 (fun o H4 => o = some (-1) ∧ H4 = H3) I3 ⟨1, rfl, -1, rfl, rfl, rfl⟩) fun vs s4 ⟨o, H4, I4, ps, eo, e4⟩ => ?_
  subst eo e4
  have I5 : Inv X pins σ H4 { s4 with heap := s4.heap.push { cls := .type "slice", data := .fields #[vl, vu, vs] } } := I4.kept (t' := s4.toks) fun b ob q => Heap.get?_push_of_some _ q
  show wpAny (model X.prog X.w) X.A (subscriptTail e (.Slice none none (some (.UnaryOp .USub (.Constant (.int 1) k p1) p2)) p3) (.ref a) (.ref s4.heap.objs.size)) (EP X pins σ Q) X.xe { s4 with heap := s4.heap.push { cls := .type "slice", data := .fields #[vl, vu, vs] } }
  rcases hq with ⟨hx, q⟩ | ⟨hx, q⟩
  · obtain ⟨its, r, ht, hz⟩ := I5.list hx
    have hlen := r.length
    refine tail_any (ops := [.ref a, .ref s4.heap.objs.size]) ht.isList.typeIs (PySem.slot_list_getitem.lookup) ?_ (by with_unfolding_all rfl)
    refine wpAny_getItem_list_slice ht.isList (Heap.IsSliceOf.new _ vl vu vs) pl pu ps (by decide) ?_ (by rw [List.size_toArray]; omega)
    rw [PySem.W.krv_pick]
    refine ⟨.ref _, _, I5.laid (t' := s4.toks) (o := .lst xs.reverse) (fun b ob q => Heap.get?_push_of_some _ q) (Nat.le_refl _) ?_, rfl, q _ (I5.hok.fresh (Nat.le_refl _))⟩
    exact ⟨by rw [List.length_reverse]; exact hz, _, 0, r.reverse, Heap.get?_push_size _ rfl⟩
  · obtain ⟨its, r, ht, hz⟩ := I5.tuple hx
    have hlen := r.length
    refine tail_any (ops := [.ref a, .ref s4.heap.objs.size]) ht.typeIs (PyProof.Rows.slot_tuple_getitem.lookup) ?_ (by with_unfolding_all rfl)
    refine getItem_tuple_back ht (Heap.IsSliceOf.new _ vl vu vs) pl pu ps ?_ (by rw [List.size_toArray]; omega)
    refine ⟨.ref _, _, I5.laid (t' := s4.toks) (o := .tup xs.reverse) (fun b ob q => Heap.get?_push_of_some _ q) (Nat.le_refl _) ?_, rfl, q _ (I5.hok.fresh (Nat.le_refl _))⟩
    exact ⟨by rw [List.length_reverse]; exact hz, _, r.reverse, IsTup.new _ _⟩
end RT
namespace VS
open PySem PySem.Spec PyProof.Rows L2
def fRevA : D → Option Val
  | .lst ds => some (.ow (.lst ds.reverse))
  | .fl ds => some (.ow (.lst ds.reverse))
  | .tup ds => some (.sh (.tup ds.reverse))
  | _ => none
section
variable {X : Cx} {Wx : WX}
theorem w_revA {e : Expr} {m : M Val} {k : Nat} {p1 p2 p3 pos : Pos} (he : DE X Wx e m) : DE X Wx (.Subscript e (.Slice none none (some (.UnaryOp .USub (.Constant (.int 1) k p1) p2)) p3) pos) (m1 fRevA m) :=
  PE.wk (RT.pe_revA he) fun σ H Q h => by
    refine rd1 (f := fRevA) (r := fun x H Q => ∃ a xs, x = V.ref a ∧ ((SqL X.K H a xs ∧ ∀ p : Addr, H p = none → Q (V.ref p) (upd H p (.lst xs.reverse))) ∨ (SqT X.K H a xs ∧ ∀ p : Addr, H p = none → Q (V.ref p) (upd H p (.tup xs.reverse))))) (fun W H x d a Q s h1 h q => ?_) h
    cases d with
    | lst ds =>
      cases h
      obtain ⟨p, vs, rfl, hp, r⟩ := repO_lst' s h1
      refine ⟨p, vs, rfl, .inl ⟨sqL_of hp, fun n hn => ?_⟩⟩
      obtain ⟨t, nv⟩ := newV_ow s hn r.reverse
      exact q _ _ _ t nv
    | fl ds =>
      cases h
      obtain ⟨p, vs, rfl, hp, r⟩ := repO_fl h1
      refine ⟨p, vs, rfl, .inl ⟨s.sqL hp, fun n hn => ?_⟩⟩
      obtain ⟨t, nv⟩ := newV_ow s hn r.reverse
      exact q _ _ _ t nv
    | tup ds =>
      cases h
      obtain ⟨p, vs, rfl, hp, r⟩ := repO_tupX s h1
      refine ⟨p, vs, rfl, .inr ⟨hp, fun n hn => ?_⟩⟩
      exact q (upd W n (.tup vs.reverse)) _ _ (Step.new s hn) (.tup upd_same (r.reverse.mono (Sub.new (s.none hn))))
    | _ => cases h
end
end VS

/-! VU: plain programs (P) without cells, and how code over cells follows them: expressions. -/
namespace VS
open PySem PySem.Spec PyProof.Rows L2
/-- an equation that is rfl, but not to be used as one by simp -/
theorem nr {α : Sort _} {a b : α} (h : a = b) : a = b := h
inductive P (α : Type) where
  | ok (a : α) | ex (x : Exn) | no
namespace P
section
variable {α β γ : Type}
def bind (p : P α) (f : α → P β) : P β := match p with
  | .ok a => f a
  | .ex x => .ex x
  | .no => .no
def map (f : α → β) (p : P α) : P β := p.bind fun a => .ok (f a)
@[simp] theorem ok_bind (a : α) (f : α → P β) : (P.ok a).bind f = f a := nr rfl
@[simp] theorem ex_bind (x : Exn) (f : α → P β) : (P.ex x : P α).bind f = .ex x := nr rfl
@[simp] theorem no_bind (f : α → P β) : (P.no : P α).bind f = .no := nr rfl
@[simp] theorem ok_map (a : α) (f : α → β) : (P.ok a).map f = .ok (f a) := nr rfl
@[simp] theorem ex_map (x : Exn) (f : α → β) : (P.ex x : P α).map f = .ex x := nr rfl
@[simp] theorem no_map (f : α → β) : (P.no : P α).map f = .no := nr rfl
@[simp] theorem bind_bind (p : P α) (f : α → P β) (g : β → P γ) : (p.bind f).bind g = p.bind fun a => (f a).bind g := by cases p <;> rfl
end
end P
def Val.d : Val → D
  | .sh d => d
  | .ow d => d
  | .bw _ => .non
def P.op (o : Option Val) : P D := match o with
  | some v => .ok v.d
  | none => .no
def P.of {α : Type} (o : Option α) : P α := match o with
  | some v => .ok v
  | none => .no
@[simp] theorem P.op_sh (d : D) : P.op (some (.sh d)) = .ok d := nr rfl
@[simp] theorem P.op_ow (d : D) : P.op (some (.ow d)) = .ok d := nr rfl
@[simp] theorem P.of_some {α : Type} (a : α) : P.of (some a) = .ok a := nr rfl
def P.tb (d : D) : P Bool := match d with
  | .bl b => .ok b
  | _ => .no
@[simp] theorem P.tb_bl (b : Bool) : P.tb (.bl b) = .ok b := nr rfl

/-- what is known of a name's cell: nothing (u), shared (s), shared or its own (v), its own (o, h), lent (l) -/
inductive Sl where
  | u | s (d : D) | v (d : D) | o (d : D) | h (d : D) | l (d : D)
def D.obj : D → Bool
  | .lst _ => true
  | .dct _ _ => true
  | _ => false
def SlOk (c : Cell) : Sl → Prop
  | .u => c.lent = false
  | .s d => c = .sh d
  | .v d => c = .sh d ∨ (c = .ow d ∧ d.obj = true)
  | .o d => c = .ow d ∧ d.obj = true
  | .h d => c = .ow d
  | .l d => c = .ln d
structure EnvOk (e : Env) (Γ : List Sl) : Prop where
  len : e.length = Γ.length
  at_ : ∀ (i : Nat) c s, e[i]? = some c → Γ[i]? = some s → SlOk c s
theorem EnvOk.get {e : Env} {Γ : List Sl} (h : EnvOk e Γ) {i : Nat} {s : Sl} (g : Γ[i]? = some s) : ∃ c, e[i]? = some c ∧ SlOk c s := by
  have hi : i < e.length := by rw [h.len]; exact (List.getElem?_eq_some_iff.mp g).1
  exact ⟨_, List.getElem?_eq_getElem hi, h.at_ i _ _ (List.getElem?_eq_getElem hi) g⟩
theorem EnvOk.set {e : Env} {Γ : List Sl} (h : EnvOk e Γ) {i : Nat} {c : Cell} {s : Sl} (k : SlOk c s) : EnvOk (e.set i c) (Γ.set i s) where
  len := by rw [List.length_set, List.length_set]; exact h.len
  at_ := fun j c' s' q1 q2 => by
    by_cases z : i = j
    · subst z
      have hi : i < e.length := by have := (List.getElem?_eq_some_iff.mp q1).1; rwa [List.length_set] at this
      rw [List.getElem?_set_self hi] at q1
      rw [List.getElem?_set_self (by rw [← h.len]; exact hi)] at q2
      cases q1; cases q2; exact k
    · rw [List.getElem?_set_ne z] at q1 q2
      exact h.at_ j c' s' q1 q2
/-- only the one cell changes, and what is known of it holds still -/
theorem EnvOk.set_same {e : Env} {Γ : List Sl} (h : EnvOk e Γ) {i : Nat} {c : Cell} {s : Sl} (g : Γ[i]? = some s) (k : SlOk c s) : EnvOk (e.set i c) Γ := by
  have := h.set (i := i) k
  have hi := (List.getElem?_eq_some_iff.mp g)
  rwa [show Γ.set i s = Γ from by rw [← hi.2]; exact List.set_getElem_self hi.1] at this
abbrev SlLe (s s' : Sl) : Prop := ∀ c, SlOk c s → SlOk c s'
inductive Wk : List Sl → List Sl → Prop
  | nil : Wk [] []
  | cons {s s' : Sl} {Γ Γ' : List Sl} : SlLe s s' → Wk Γ Γ' → Wk (s :: Γ) (s' :: Γ')
theorem Wk.at_ : ∀ {Γ Γ' : List Sl}, Wk Γ Γ' → ∀ {i : Nat} {s'}, Γ'[i]? = some s' → ∃ s, Γ[i]? = some s ∧ SlLe s s'
  | _, _, .nil, i, s', h => by simp at h
  | _, _, .cons a t, 0, s', h => by simp at h; subst h; exact ⟨_, rfl, a⟩
  | _, _, .cons a t, i + 1, s', h => by
    obtain ⟨s, h1, h2⟩ := Wk.at_ t (i := i) (by simpa using h)
    exact ⟨s, by simpa using h1, h2⟩
theorem Wk.length : ∀ {Γ Γ' : List Sl}, Wk Γ Γ' → Γ.length = Γ'.length
  | _, _, .nil => rfl
  | _, _, .cons _ t => by rw [List.length_cons, List.length_cons, Wk.length t]
theorem EnvOk.wk {e : Env} {Γ Γ' : List Sl} (h : EnvOk e Γ) (w : Wk Γ Γ') : EnvOk e Γ' where
  len := by rw [h.len, w.length]
  at_ := fun i c s' q1 q2 => by
    obtain ⟨s, g, le⟩ := w.at_ q2
    exact le c (h.at_ i c s q1 g)
theorem wS {s : Sl} : SlLe s s := fun _ h => h
theorem wsv {d : D} : SlLe (.s d) (.v d) := fun _ h => .inl h
theorem wov {d : D} : SlLe (.o d) (.v d) := fun _ h => .inr h
theorem wsu {d : D} : SlLe (.s d) .u := fun c h => by cases h; rfl
theorem wvu {d : D} : SlLe (.v d) .u := fun c h => by rcases h with h | ⟨h, _⟩ <;> cases h <;> rfl
theorem wou {d : D} : SlLe (.o d) .u := fun c h => by obtain ⟨h, _⟩ := h; cases h; rfl
theorem whu {d : D} : SlLe (.h d) .u := fun c h => by cases h; rfl
theorem woh {d : D} : SlLe (.o d) (.h d) := fun c h => h.1

/-- a value that may be kept -/
def VE (Γ : List Sl) (v : Val) (d : D) : Prop := v = .sh d ∨ (v = .ow d ∧ d.obj = true) ∨ (d.obj = true ∧ ∃ i, v = .bw i ∧ Γ[i]? = some (.v d))
/-- a value to be looked at -/
def VR (Γ : List Sl) (v : Val) (d : D) : Prop := VE Γ v d ∨ ∃ i, v = .bw i ∧ (Γ[i]? = some (.o d) ∨ Γ[i]? = some (.h d) ∨ Γ[i]? = some (.l d))
section
variable {Γ : List Sl} {e : Env} {v : Val} {d : D}
theorem VE.esc (h : VE Γ v d) (k : EnvOk e Γ) : ∃ e', VS.esc e v = some (d, e') ∧ EnvOk e' Γ := by
  rcases h with rfl | ⟨rfl, _⟩ | ⟨ho, i, rfl, g⟩
  · exact ⟨e, rfl, k⟩
  · exact ⟨e, rfl, k⟩
  · obtain ⟨c, hc, q⟩ := k.get g
    rcases q with rfl | ⟨rfl, _⟩
    · exact ⟨e, by simp [VS.esc, hc], k⟩
    · exact ⟨e.set i (.sh d), by simp [VS.esc, hc], k.set_same g (.inl rfl)⟩
theorem VR.look (h : VR Γ v d) (k : EnvOk e Γ) : VS.look e v = some d := by
  rcases h with (rfl | ⟨rfl, _⟩ | ⟨ho, i, rfl, g⟩) | ⟨i, rfl, g⟩
  · rfl
  · rfl
  · obtain ⟨c, hc, q⟩ := k.get g
    rcases q with rfl | ⟨rfl, _⟩ <;> simp [VS.look, hc, cellD]
  · rcases g with g | g | g
    · obtain ⟨c, hc, q, _⟩ := k.get g; subst q; simp [VS.look, hc, cellD]
    · obtain ⟨c, hc, q⟩ := k.get g; cases q; simp [VS.look, hc, cellD]
    · obtain ⟨c, hc, q⟩ := k.get g; cases q; simp [VS.look, hc, cellD]
theorem VR.lookh (h : VR Γ v d) (k : EnvOk e Γ) : VS.look e (hold v) = some d := by
  have := h.look k
  cases v <;> exact this
theorem VE.r (h : VE Γ v d) : VR Γ v d := .inl h
theorem VE.bl {b : Bool} (h : VE Γ v (.bl b)) : v = .sh (.bl b) := by
  rcases h with rfl | ⟨_, h⟩ | ⟨h, _⟩
  · rfl
  · cases h
  · cases h
theorem VE.int {b : Int} (h : VE Γ v (.int b)) : v = .sh (.int b) := by
  rcases h with rfl | ⟨_, h⟩ | ⟨h, _⟩
  · rfl
  · cases h
  · cases h
end
def GV (v : Val) : Prop := (∃ d, v = .sh d) ∨ ∃ d, v = .ow d ∧ d.obj = true
theorem GV.ve {Γ : List Sl} {v : Val} (h : GV v) : VE Γ v v.d := by
  rcases h with ⟨d, rfl⟩ | ⟨d, rfl, h⟩
  · exact .inl rfl
  · exact .inr (.inl ⟨rfl, h⟩)

def Sim {α β : Type} (r : R β) (p : P α) (K : α → β → Env → Prop) : Prop := match p with
  | .ok a => ∃ b e', r = .ok b e' ∧ K a b e'
  | .ex x => ∃ e', r = .ex x e'
  | .no => True
section
variable {α β γ δ : Type}
theorem Sim.bind {m : M β} {f : β → M δ} {e : Env} {p : P α} {q : α → P γ} {K : α → β → Env → Prop} {K' : γ → δ → Env → Prop} (h : Sim (m e) p K) (k : ∀ a b e', K a b e' → Sim (f b e') (q a) K') : Sim (M.bind m f e) (p.bind q) K' := by
  cases p with
  | ok a =>
    obtain ⟨b, e', h1, h2⟩ := h
    have := k a b e' h2
    unfold M.bind
    rw [h1]
    exact this
  | ex x =>
    obtain ⟨e', h1⟩ := h
    refine ⟨e', ?_⟩
    unfold M.bind
    rw [h1]
  | no => trivial
theorem Sim.map {r : R β} {p : P α} {f : α → γ} {K : α → β → Env → Prop} {K' : γ → β → Env → Prop} (h : Sim r p K) (k : ∀ a b e', K a b e' → K' (f a) b e') : Sim r (p.map f) K' := by
  cases p with
  | ok a =>
    obtain ⟨b, e', h1, h2⟩ := h
    exact ⟨b, e', h1, k a b e' h2⟩
  | ex x => exact h
  | no => trivial
theorem Sim.imp {r : R β} {p : P α} {K : α → β → Env → Prop} {K' : α → β → Env → Prop} (h : Sim r p K) (k : ∀ a b e', K a b e' → K' a b e') : Sim r p K' := by
  cases p with
  | ok a =>
    obtain ⟨b, e', h1, h2⟩ := h
    exact ⟨b, e', h1, k a b e' h2⟩
  | ex x => exact h
  | no => trivial
end
/-! ### judgements -/
def PE (Γ : List Sl) (m : M Val) (p : P D) : Prop := ∀ e, EnvOk e Γ → Sim (m e) p fun d v e' => EnvOk e' Γ ∧ VE Γ v d
def PL (Γ : List Sl) (m : M Val) (p : P D) : Prop := ∀ e, EnvOk e Γ → Sim (m e) p fun d v e' => EnvOk e' Γ ∧ VR Γ v d
def PB (Γ : List Sl) (m : M Bool) (p : P Bool) : Prop := ∀ e, EnvOk e Γ → Sim (m e) p fun d v e' => EnvOk e' Γ ∧ v = d
def VEs (Γ : List Sl) : List Val → List D → Prop
  | [], [] => True
  | v :: vs, d :: ds => VE Γ v d ∧ VEs Γ vs ds
  | _, _ => False
def VRs (Γ : List Sl) : List Val → List D → Prop
  | [], [] => True
  | v :: vs, d :: ds => VR Γ v d ∧ VRs Γ vs ds
  | _, _ => False
def PA (Γ : List Sl) (m : M (List Val)) (p : P (List D)) : Prop := ∀ e, EnvOk e Γ → Sim (m e) p fun ds vs e' => EnvOk e' Γ ∧ VEs Γ vs ds
def PAL (Γ : List Sl) (m : M (List Val)) (p : P (List D)) : Prop := ∀ e, EnvOk e Γ → Sim (m e) p fun ds vs e' => EnvOk e' Γ ∧ VRs Γ vs ds
def PI_ (Γ : List Sl) (m : M (List D)) (p : P (List D)) : Prop := ∀ e, EnvOk e Γ → Sim (m e) p fun ds vs e' => EnvOk e' Γ ∧ vs = ds
section
variable {Γ : List Sl}
theorem VEs.esc : ∀ {vs : List Val} {ds : List D} {e : Env}, VEs Γ vs ds → EnvOk e Γ → ∃ e', escs e vs = some (ds, e') ∧ EnvOk e' Γ
  | [], [], e, _, k => ⟨e, rfl, k⟩
  | v :: vs, d :: ds, e, h, k => by
    obtain ⟨e1, h1, k1⟩ := h.1.esc k
    obtain ⟨e2, h2, k2⟩ := VEs.esc h.2 k1
    exact ⟨e2, by simp [escs, h1, h2], k2⟩
  | [], _ :: _, _, h, _ => h.elim
  | _ :: _, [], _, h, _ => h.elim
theorem VRs.looks : ∀ {vs : List Val} {ds : List D} {e : Env}, VRs Γ vs ds → EnvOk e Γ → looks e vs = some ds
  | [], [], e, _, k => rfl
  | v :: vs, d :: ds, e, h, k => by simp [VS.looks, h.1.look k, VRs.looks h.2 k]
  | [], _ :: _, _, h, _ => h.elim
  | _ :: _, [], _, h, _ => h.elim
theorem PE.l {m : M Val} {p : P D} (h : PE Γ m p) : PL Γ m p := fun e k => (h e k).imp fun _ _ _ z => ⟨z.1, z.2.r⟩
theorem pC {d : D} : PE Γ (mC d) (.ok d) := fun e k => ⟨_, _, rfl, k, .inl rfl⟩
theorem pVs (i : Nat) {d : D} (g : Γ[i]? = some (.s d) := by rfl) : PE Γ (mVar i) (.ok d) := fun e k => by
  obtain ⟨c, hc, q⟩ := k.get g
  cases q
  exact ⟨.sh d, e, by simp [mVar, hc], k, .inl rfl⟩
theorem pVv (i : Nat) {d : D} (g : Γ[i]? = some (.v d) := by rfl) : PE Γ (mVar i) (.ok d) := fun e k => by
  obtain ⟨c, hc, q⟩ := k.get g
  rcases q with rfl | ⟨rfl, h⟩
  · exact ⟨.sh d, e, by simp [mVar, hc], k, .inl rfl⟩
  · exact ⟨.bw i, e, by simp [mVar, hc], k, .inr (.inr ⟨h, i, rfl, g⟩)⟩
theorem pVo (i : Nat) {d : D} (g : Γ[i]? = some (.o d) := by rfl) : PL Γ (mVar i) (.ok d) := fun e k => by
  obtain ⟨c, hc, rfl, h⟩ := k.get g
  exact ⟨.bw i, e, by simp [mVar, hc], k, .inr ⟨i, rfl, .inl g⟩⟩
theorem pVh (i : Nat) {d : D} (g : Γ[i]? = some (.h d) := by rfl) : PL Γ (mVar i) (.ok d) := fun e k => by
  obtain ⟨c, hc, q⟩ := k.get g
  cases q
  exact ⟨.bw i, e, by simp [mVar, hc], k, .inr ⟨i, rfl, .inr (.inl g)⟩⟩
theorem pVl (i : Nat) {d : D} (g : Γ[i]? = some (.l d) := by rfl) : PL Γ (mVar i) (.ok d) := fun e k => by
  obtain ⟨c, hc, q⟩ := k.get g
  cases q
  exact ⟨.bw i, e, by simp [mVar, hc], k, .inr ⟨i, rfl, .inr (.inr g)⟩⟩
/-- operations whose answer is no name -/
def Gd2 (f : D → D → Option Val) : Prop := ∀ a b v, f a b = some v → GV v
def Gd1 (f : D → Option Val) : Prop := ∀ a v, f a = some v → GV v
def GdB (f : List D → Option Val) : Prop := ∀ a v, f a = some v → GV v
theorem sim_lift {β : Type} {o : Option Val} {e : Env} {K : D → Val → Env → Prop} (h : ∀ v, o = some v → K v.d v e) : Sim (M.lift o e) (P.op o) K := by
  cases o with
  | none => trivial
  | some v => exact ⟨v, e, rfl, h v rfl⟩
theorem p2 {f : D → D → Option Val} {ma mb : M Val} {pa pb : P D} (g : Gd2 f) (ha : PL Γ ma pa) (hb : PL Γ mb pb) : PE Γ (m2 f ma mb) (pa.bind fun a => pb.bind fun b => P.op (f a b)) := fun e k =>
  (ha e k).bind fun a v e1 ⟨k1, r1⟩ => (hb e1 k1).bind fun b w e2 ⟨k2, r2⟩ => by
    rw [r1.lookh k2, r2.look k2]
    exact sim_lift (β := Unit) fun v h => ⟨k2, (g _ _ _ h).ve⟩
theorem p1 {f : D → Option Val} {ma : M Val} {pa : P D} (g : Gd1 f) (ha : PL Γ ma pa) : PE Γ (m1 f ma) (pa.bind fun a => P.op (f a)) := fun e k =>
  (ha e k).bind fun a v e1 ⟨k1, r1⟩ => by
    rw [r1.look k1]
    exact sim_lift (β := Unit) fun v h => ⟨k1, (g _ _ h).ve⟩
theorem pB {m : M Val} {p : P D} (h : PE Γ m p) : PB Γ (mB m) (p.bind P.tb) := fun e k =>
  (h e k).bind fun d v e1 ⟨k1, r1⟩ => by
    cases d with
    | bl b => rw [r1.bl]; exact ⟨b, e1, rfl, k1, rfl⟩
    | _ => trivial
theorem pTru {m : M Val} {p : P D} (h : PL Γ m p) : PB Γ (mTru m) (p.bind fun d => P.of (dTru d)) := fun e k =>
  (h e k).bind fun d v e1 ⟨k1, r1⟩ => by
    rw [r1.look k1]
    show Sim (M.lift (dTru d) e1) _ _
    cases dTru d with
    | none => trivial
    | some b => exact ⟨b, e1, rfl, k1, rfl⟩
theorem pNot {m : M Bool} {p : P Bool} (h : PB Γ m p) : PB Γ (mNot m) (p.bind fun b => .ok !b) := fun e k =>
  (h e k).bind fun b v e1 ⟨k1, r1⟩ => by subst r1; exact ⟨_, _, rfl, k1, rfl⟩
theorem pAnd {m n : M Bool} {p q : P Bool} (h : PB Γ m p) (h' : PB Γ n q) : PB Γ (mAnd m n) (p.bind fun b => if b then q else .ok false) := fun e k =>
  (h e k).bind fun b v e1 ⟨k1, r1⟩ => by
    subst r1
    cases v with
    | true => exact h' e1 k1
    | false => exact ⟨_, _, rfl, k1, rfl⟩
theorem pOr {m n : M Bool} {p q : P Bool} (h : PB Γ m p) (h' : PB Γ n q) : PB Γ (mOr m n) (p.bind fun b => if b then .ok true else q) := fun e k =>
  (h e k).bind fun b v e1 ⟨k1, r1⟩ => by
    subst r1
    cases v with
    | false => exact h' e1 k1
    | true => exact ⟨_, _, rfl, k1, rfl⟩
theorem pBv {m : M Bool} {p : P Bool} (h : PB Γ m p) : PE Γ (mBv m) (p.bind fun b => .ok (.bl b)) := fun e k =>
  (h e k).bind fun b v e1 ⟨k1, r1⟩ => by subst r1; exact ⟨_, _, rfl, k1, .inl rfl⟩
theorem pAndV {m n : M Val} {p q : P D} (h : PE Γ m p) (h' : PE Γ n q) : PE Γ (mAndV m n) ((p.bind P.tb).bind fun b => if b then q else .ok (.bl false)) := fun e k =>
  (pB h e k).bind fun b v e1 ⟨k1, r1⟩ => by
    subst r1
    cases v with
    | true => exact h' e1 k1
    | false => exact ⟨_, _, rfl, k1, .inl rfl⟩
theorem pOrV {m n : M Val} {p q : P D} (h : PE Γ m p) (h' : PE Γ n q) : PE Γ (mOrV m n) ((p.bind P.tb).bind fun b => if b then .ok (.bl true) else q) := fun e k =>
  (pB h e k).bind fun b v e1 ⟨k1, r1⟩ => by
    subst r1
    cases v with
    | false => exact h' e1 k1
    | true => exact ⟨_, _, rfl, k1, .inl rfl⟩
theorem pIf {c : M Bool} {m n : M Val} {pc : P Bool} {p q : P D} (hc : PB Γ c pc) (h : PE Γ m p) (h' : PE Γ n q) : PE Γ (mIf c m n) (pc.bind fun b => if b then p else q) := fun e k =>
  (hc e k).bind fun b v e1 ⟨k1, r1⟩ => by
    subst r1
    cases v with
    | true => exact h e1 k1
    | false => exact h' e1 k1
theorem pChain {f g : D → D → Option Val} {ma mb mc : M Val} {pa pb pc : P D} (gf : Gd2 f) (gg : Gd2 g) (ha : PL Γ ma pa) (hb : PL Γ mb pb) (hc : PL Γ mc pc) :
    PE Γ (mChain f g ma mb mc) (pa.bind fun a => pb.bind fun b => (P.op (f a b)).bind fun t => (P.tb t).bind fun k => if k then pc.bind fun c => P.op (g b c) else .ok (.bl false)) := fun e k =>
  (ha e k).bind fun a v e1 ⟨k1, r1⟩ => (hb e1 k1).bind fun b w e2 ⟨k2, r2⟩ => by
    show Sim (M.bind (M.bind (fun e => M.lift _ e) _) _ e2) _ _
    have hx : Sim ((M.bind (fun e => M.lift (match look e (hold v), look e (hold w) with
      | some d1, some d2 => f d1 d2
      | _, _ => none) e) fun a e => match a with
        | .sh (.bl b) => .ok b e
        | _ => .no) e2 : R Bool) ((P.op (f a b)).bind P.tb) fun d v e' => e' = e2 ∧ v = d := by
      refine Sim.bind (K := fun d v e' => e' = e2 ∧ VE Γ v d) ?_ fun d u e3 ⟨h1, h2⟩ => ?_
      · show Sim (M.lift _ e2) _ _
        rw [r1.lookh k2, r2.lookh k2]
        exact sim_lift (β := Unit) fun v h => ⟨rfl, (gf _ _ _ h).ve⟩
      · subst h1
        cases d with
        | bl b => rw [h2.bl]; exact ⟨b, _, rfl, rfl, rfl⟩
        | _ => trivial
    have := Sim.bind (f := fun k => if k then M.bind mc (fun c e => M.lift (match look e (hold w), look e c with
      | some d1, some d2 => g d1 d2
      | _, _ => none) e) else mC (.bl false)) (q := fun k => if k then pc.bind fun c => P.op (g b c) else .ok (.bl false)) (K' := fun d v e' => EnvOk e' Γ ∧ VE Γ v d) hx fun t u e3 ⟨h1, h2⟩ => by
        subst h1; subst h2
        cases u with
        | false => exact ⟨_, _, rfl, k2, .inl rfl⟩
        | true =>
          refine Sim.bind (hc _ k2) fun c x e4 ⟨k4, r4⟩ => ?_
          rw [r2.lookh k4, r4.look k4]
          exact sim_lift (β := Unit) fun v h => ⟨k4, (gg _ _ _ h).ve⟩
    rw [P.bind_bind] at this
    exact this
/-! arguments -/
theorem paNil : PA Γ mNil (.ok []) := fun e k => ⟨[], e, rfl, k, trivial⟩
theorem paCons {m : M Val} {n : M (List Val)} {p : P D} {q : P (List D)} (h : PE Γ m p) (h' : PA Γ n q) : PA Γ (mCons m n) (p.bind fun d => q.bind fun ds => .ok (d :: ds)) := fun e k =>
  (h e k).bind fun d v e1 ⟨k1, r1⟩ => (h' e1 k1).bind fun ds vs e2 ⟨k2, r2⟩ => ⟨_, _, rfl, k2, r1, r2⟩
theorem plNil : PAL Γ mNil (.ok []) := fun e k => ⟨[], e, rfl, k, trivial⟩
theorem plCons {m : M Val} {n : M (List Val)} {p : P D} {q : P (List D)} (h : PL Γ m p) (h' : PAL Γ n q) : PAL Γ (mCons m n) (p.bind fun d => q.bind fun ds => .ok (d :: ds)) := fun e k =>
  (h e k).bind fun d v e1 ⟨k1, r1⟩ => (h' e1 k1).bind fun ds vs e2 ⟨k2, r2⟩ => ⟨_, _, rfl, k2, r1, r2⟩
def P.tup (ds : List D) : P D := if ds.length ≤ 1000 then .ok (.tup ds) else .no
def P.lst (ds : List D) : P D := if ds.length ≤ 1000 then .ok (.lst ds) else .no
theorem pTup {n : M (List Val)} {q : P (List D)} (h : PA Γ n q) : PE Γ (mTup n) (q.bind P.tup) := fun e k =>
  (h e k).bind fun ds vs e1 ⟨k1, r1⟩ => by
    obtain ⟨e2, h2, k2⟩ := r1.esc k1
    rw [h2]
    unfold P.tup
    by_cases c : ds.length ≤ 1000
    · simp only [if_pos c]; exact ⟨_, _, rfl, k2, .inl rfl⟩
    · simp only [if_neg c]; trivial
theorem pLst {n : M (List Val)} {q : P (List D)} (h : PA Γ n q) : PE Γ (mLst n) (q.bind P.lst) := fun e k =>
  (h e k).bind fun ds vs e1 ⟨k1, r1⟩ => by
    obtain ⟨e2, h2, k2⟩ := r1.esc k1
    rw [h2]
    unfold P.lst
    by_cases c : ds.length ≤ 1000
    · simp only [if_pos c]; exact ⟨_, _, rfl, k2, .inr (.inl ⟨rfl, rfl⟩)⟩
    · simp only [if_neg c]; trivial
theorem pCB {f : List D → Option Val} {n : M (List Val)} {q : P (List D)} (g : GdB f) (h : PAL Γ n q) : PE Γ (mCB f n) (q.bind fun ds => P.op (f ds)) := fun e k =>
  (h e k).bind fun ds vs e1 ⟨k1, r1⟩ => by
    rw [r1.looks k1]
    exact sim_lift (β := Unit) fun v h => ⟨k1, (g _ _ h).ve⟩
def P.int (d : D) : P Int := match d with
  | .int i => .ok i
  | _ => .no
@[simp] theorem P.int_int (i : Int) : P.int (.int i) = .ok i := nr rfl
def PO (Γ : List Sl) (m : Option (M Val)) (p : P (Option Int)) : Prop := ∀ e, EnvOk e Γ → Sim (mPart m e) p fun d v e' => EnvOk e' Γ ∧ v = d
theorem poN : PO Γ none (.ok none) := fun e k => ⟨_, _, rfl, k, rfl⟩
theorem poS {m : M Val} {p : P D} (h : PE Γ m p) : PO Γ (some m) (p.bind fun d => (P.int d).bind fun i => .ok (some i)) := fun e k =>
  (h e k).bind fun d v e1 ⟨k1, r1⟩ => by
    cases d with
    | int b => rw [r1.int]; exact ⟨_, e1, rfl, k1, rfl⟩
    | _ => trivial
theorem pSl {f : D → Option Int → Option Int → Option Val} {m : M Val} {lo hi : Option (M Val)} {p : P D} {l h : P (Option Int)} (g : ∀ d l h v, f d l h = some v → GV v) (hm : PL Γ m p) (hl : PO Γ lo l) (hh : PO Γ hi h) :
    PE Γ (mSl f m lo hi) (p.bind fun d => l.bind fun l => h.bind fun h => P.op (f d l h)) := fun e k =>
  (hm e k).bind fun d v e1 ⟨k1, r1⟩ => (hl e1 k1).bind fun l' _ e2 ⟨k2, r2⟩ => (hh e2 k2).bind fun h' _ e3 ⟨k3, r3⟩ => by
    subst r2; subst r3
    rw [r1.lookh k3]
    exact sim_lift (β := Unit) fun v h => ⟨k3, (g _ _ _ _ h).ve⟩
def P.dct (d : D) : P Unit := if d.isDct = true then .ok () else .no
@[simp] theorem P.dct_dct (t : Bool) (l : List (D × D)) : P.dct (.dct t l) = .ok () := nr rfl
theorem pGet2 {ma mb mc : M Val} {pa pb pc : P D} (ha : PL Γ ma pa) (hb : PL Γ mb pb) (hc : PE Γ mc pc) :
    PE Γ (mGet2 ma mb mc) (pa.bind fun a => (P.dct a).bind fun _ => pb.bind fun b => pc.bind fun c => P.of (fGet2 a b c)) := fun e k => by
  refine (ha e k).bind fun a v e1 ⟨k1, r1⟩ => ?_
  rw [r1.lookh k1]
  unfold P.dct
  by_cases z : a.isDct = true
  · rw [if_pos z, if_pos (show ((some a).map D.isDct).getD false = true from z)]
    refine (hb e1 k1).bind fun b w e2 ⟨k2, r2⟩ => (hc e2 k2).bind fun c x e3 ⟨k3, r3⟩ => ?_
    obtain ⟨e4, h4, k4⟩ := r3.esc k3
    rw [r1.lookh k3, r2.lookh k3, h4]
    cases q : fGet2 a b c with
    | none => trivial
    | some o => simp only [q]; exact ⟨_, _, rfl, k4, .inl rfl⟩
  · rw [if_neg z]; trivial
end
end VS

/-! VU1: expressions that draw (the cells of some names change), calls, comprehensions. -/
namespace VS
open PySem PySem.Spec PyProof.Rows L2
/-- a value by a name's cell that is not touched by what draws -/
def VQ (Γ : List Sl) (v : Val) (d : D) : Prop := VE Γ v d ∨ ∃ i, v = .bw i ∧ Γ[i]? = some (.o d)
theorem VQ.r {Γ : List Sl} {v : Val} {d : D} (h : VQ Γ v d) : VR Γ v d := by
  rcases h with h | ⟨i, h1, h2⟩
  · exact .inl h
  · exact .inr ⟨i, h1, .inl h2⟩
def PQ (Γ : List Sl) (m : M Val) (p : P D) : Prop := ∀ e, EnvOk e Γ → Sim (m e) p fun d v e' => EnvOk e' Γ ∧ VQ Γ v d
theorem PE.q {Γ : List Sl} {m : M Val} {p : P D} (h : PE Γ m p) : PQ Γ m p := fun e k => (h e k).imp fun _ _ _ z => ⟨z.1, .inl z.2⟩
theorem PQ.l {Γ : List Sl} {m : M Val} {p : P D} (h : PQ Γ m p) : PL Γ m p := fun e k => (h e k).imp fun _ _ _ z => ⟨z.1, z.2.r⟩
theorem qVo {Γ : List Sl} (i : Nat) {d : D} (g : Γ[i]? = some (.o d) := by rfl) : PQ Γ (mVar i) (.ok d) := fun e k => by
  obtain ⟨c, hc, rfl, h⟩ := k.get g
  exact ⟨.bw i, e, by simp [mVar, hc], k, .inr ⟨i, rfl, g⟩⟩
section
variable {S : Type} {Γ : S → List Sl} {s : S}
def FE (Γ : S → List Sl) (s : S) (m : M Val) (p : P (D × S)) : Prop := ∀ e, EnvOk e (Γ s) → Sim (m e) p fun a v e' => EnvOk e' (Γ a.2) ∧ VE (Γ a.2) v a.1
def FQ (Γ : S → List Sl) (s : S) (m : M Val) (p : P (D × S)) : Prop := ∀ e, EnvOk e (Γ s) → Sim (m e) p fun a v e' => EnvOk e' (Γ a.2) ∧ VQ (Γ a.2) v a.1
def FB (Γ : S → List Sl) (s : S) (m : M Bool) (p : P (Bool × S)) : Prop := ∀ e, EnvOk e (Γ s) → Sim (m e) p fun a v e' => EnvOk e' (Γ a.2) ∧ v = a.1
def FA (Γ : S → List Sl) (s : S) (m : M (List Val)) (p : P (List D × S)) : Prop := ∀ e, EnvOk e (Γ s) → Sim (m e) p fun a v e' => EnvOk e' (Γ a.2) ∧ VEs (Γ a.2) v a.1
def FI (Γ : S → List Sl) (s : S) (m : M (List D)) (p : P (List D × S)) : Prop := ∀ e, EnvOk e (Γ s) → Sim (m e) p fun a v e' => EnvOk e' (Γ a.2) ∧ v = a.1
/-- the cells that change are no shared ones, no own ones that are looked at -/
def Stb (Γ : S → List Sl) : Prop := ∀ s s' (i : Nat) d, ((Γ s)[i]? = some (.v d) → (Γ s')[i]? = some (.v d)) ∧ ((Γ s)[i]? = some (.o d) → (Γ s')[i]? = some (.o d))
def StbV (Γ : S → List Sl) : Prop := ∀ s s' (i : Nat) d, ((Γ s)[i]? = some (.v d) → (Γ s')[i]? = some (.v d))
theorem Stb.v (h : Stb Γ) : StbV Γ := fun s s' i d => (h s s' i d).1
theorem stb_l {Γ : List Sl} (i : Nat) : Stb fun h : D => Γ.set i (.l h) := fun s s' j d => by
  by_cases z : i = j
  · subst z
    by_cases hi : i < Γ.length
    · rw [List.getElem?_set_self hi]; exact ⟨fun h => (by cases h), fun h => (by cases h)⟩
    · have : ∀ x, (Γ.set i x)[i]? = none := fun x => by rw [List.getElem?_eq_none_iff, List.length_set]; omega
      simp only [this]; exact ⟨fun h => (by cases h), fun h => (by cases h)⟩
  · rw [List.getElem?_set_ne z, List.getElem?_set_ne z]; exact ⟨id, id⟩
theorem stb_h {Γ : List Sl} (i : Nat) : Stb fun h : D => Γ.set i (.h h) := fun s s' j d => by
  by_cases z : i = j
  · subst z
    by_cases hi : i < Γ.length
    · rw [List.getElem?_set_self hi]; exact ⟨fun h => (by cases h), fun h => (by cases h)⟩
    · have : ∀ x, (Γ.set i x)[i]? = none := fun x => by rw [List.getElem?_eq_none_iff, List.length_set]; omega
      simp only [this]; exact ⟨fun h => (by cases h), fun h => (by cases h)⟩
  · rw [List.getElem?_set_ne z, List.getElem?_set_ne z]; exact ⟨id, id⟩
theorem VE.st (h : StbV Γ) {s s' : S} {v : Val} {d : D} (k : VE (Γ s) v d) : VE (Γ s') v d := by
  rcases k with k | k | ⟨o, i, k1, k2⟩
  · exact .inl k
  · exact .inr (.inl k)
  · exact .inr (.inr ⟨o, i, k1, h s s' i d k2⟩)
theorem VQ.st (h : Stb Γ) {s s' : S} {v : Val} {d : D} (k : VQ (Γ s) v d) : VQ (Γ s') v d := by
  rcases k with k | ⟨i, k1, k2⟩
  · exact .inl (k.st h.v)
  · exact .inr ⟨i, k1, (h s s' i d).2 k2⟩
theorem VEs.st (h : StbV Γ) {s s' : S} : ∀ {v : List Val} {d : List D}, VEs (Γ s) v d → VEs (Γ s') v d
  | [], [], _ => trivial
  | v :: vs, d :: ds, k => ⟨k.1.st h, VEs.st h k.2⟩
  | [], _ :: _, k => k.elim
  | _ :: _, [], k => k.elim
theorem PE.f {m : M Val} {p : P D} (h : PE (Γ s) m p) : FE Γ s m (p.map fun d => (d, s)) := fun e k => (h e k).map fun _ _ _ z => z
theorem PQ.f {m : M Val} {p : P D} (h : PQ (Γ s) m p) : FQ Γ s m (p.map fun d => (d, s)) := fun e k => (h e k).map fun _ _ _ z => z
theorem PB.f {m : M Bool} {p : P Bool} (h : PB (Γ s) m p) : FB Γ s m (p.map fun d => (d, s)) := fun e k => (h e k).map fun _ _ _ z => z
theorem PA.f {m : M (List Val)} {p : P (List D)} (h : PA (Γ s) m p) : FA Γ s m (p.map fun d => (d, s)) := fun e k => (h e k).map fun _ _ _ z => z
theorem PI_.f {m : M (List D)} {p : P (List D)} (h : PI_ (Γ s) m p) : FI Γ s m (p.map fun d => (d, s)) := fun e k => (h e k).map fun _ _ _ z => z
theorem FE.q {m : M Val} {p : P (D × S)} (h : FE Γ s m p) : FQ Γ s m p := fun e k => (h e k).imp fun _ _ _ z => ⟨z.1, .inl z.2⟩
theorem f2 {f : D → D → Option Val} {ma mb : M Val} {pa : P (D × S)} {pb : D × S → P (D × S)} (st : Stb Γ) (g : Gd2 f) (ha : FQ Γ s ma pa) (hb : ∀ a, FQ Γ a.2 mb (pb a)) :
    FE Γ s (m2 f ma mb) (pa.bind fun a => (pb a).bind fun b => (P.op (f a.1 b.1)).map fun d => (d, b.2)) := fun e k =>
  (ha e k).bind fun a v e1 ⟨k1, r1⟩ => (hb a e1 k1).bind fun b w e2 ⟨k2, r2⟩ => by
    have r1' : VQ (Γ b.2) v a.1 := r1.st st
    rw [r1'.r.lookh k2, r2.r.look k2]
    exact Sim.map (sim_lift (β := Unit) (K := fun d v e' => EnvOk e' (Γ b.2) ∧ VE (Γ b.2) v d) fun v h => ⟨k2, (g _ _ _ h).ve⟩) fun _ _ _ z => z
theorem f1 {f : D → Option Val} {ma : M Val} {pa : P (D × S)} (g : Gd1 f) (ha : FQ Γ s ma pa) : FE Γ s (m1 f ma) (pa.bind fun a => (P.op (f a.1)).map fun d => (d, a.2)) := fun e k =>
  (ha e k).bind fun a v e1 ⟨k1, r1⟩ => by
    rw [r1.r.look k1]
    exact Sim.map (sim_lift (β := Unit) (K := fun d v e' => EnvOk e' (Γ a.2) ∧ VE (Γ a.2) v d) fun v h => ⟨k1, (g _ _ h).ve⟩) fun _ _ _ z => z
theorem fB {m : M Val} {p : P (D × S)} (h : FE Γ s m p) : FB Γ s (mB m) (p.bind fun a => (P.tb a.1).map fun b => (b, a.2)) := fun e k =>
  (h e k).bind fun d v e1 ⟨k1, r1⟩ => by
    obtain ⟨d, s'⟩ := d
    cases d with
    | bl b => rw [r1.bl]; exact ⟨b, e1, rfl, k1, rfl⟩
    | _ => trivial
theorem fTru {m : M Val} {p : P (D × S)} (h : FQ Γ s m p) : FB Γ s (mTru m) (p.bind fun a => (P.of (dTru a.1)).map fun b => (b, a.2)) := fun e k =>
  (h e k).bind fun d v e1 ⟨k1, r1⟩ => by
    rw [r1.r.look k1]
    show Sim (M.lift (dTru d.1) e1) _ _
    cases dTru d.1 with
    | none => trivial
    | some b => exact ⟨b, e1, rfl, k1, rfl⟩
theorem fNot {m : M Bool} {p : P (Bool × S)} (h : FB Γ s m p) : FB Γ s (mNot m) (p.bind fun b => .ok (!b.1, b.2)) := fun e k =>
  (h e k).bind fun b v e1 ⟨k1, r1⟩ => by subst r1; exact ⟨_, _, rfl, k1, rfl⟩
theorem fAnd {m n : M Bool} {p : P (Bool × S)} {q : Bool × S → P (Bool × S)} (h : FB Γ s m p) (h' : ∀ a, FB Γ a.2 n (q a)) : FB Γ s (mAnd m n) (p.bind fun b => if b.1 then q b else .ok (false, b.2)) := fun e k =>
  (h e k).bind fun b v e1 ⟨k1, r1⟩ => by
    obtain ⟨b, s'⟩ := b
    cases r1
    cases b with
    | true => exact h' (true, s') e1 k1
    | false => exact ⟨_, _, rfl, k1, rfl⟩
theorem fOr {m n : M Bool} {p : P (Bool × S)} {q : Bool × S → P (Bool × S)} (h : FB Γ s m p) (h' : ∀ a, FB Γ a.2 n (q a)) : FB Γ s (mOr m n) (p.bind fun b => if b.1 then .ok (true, b.2) else q b) := fun e k =>
  (h e k).bind fun b v e1 ⟨k1, r1⟩ => by
    obtain ⟨b, s'⟩ := b
    cases r1
    cases b with
    | false => exact h' (false, s') e1 k1
    | true => exact ⟨_, _, rfl, k1, rfl⟩
theorem fBv {m : M Bool} {p : P (Bool × S)} (h : FB Γ s m p) : FE Γ s (mBv m) (p.bind fun b => .ok (.bl b.1, b.2)) := fun e k =>
  (h e k).bind fun b v e1 ⟨k1, r1⟩ => by subst r1; exact ⟨_, _, rfl, k1, .inl rfl⟩
theorem fAndV {m n : M Val} {p : P (D × S)} {q : Bool × S → P (D × S)} (h : FE Γ s m p) (h' : ∀ a, FE Γ a.2 n (q a)) : FE Γ s (mAndV m n) ((p.bind fun a => (P.tb a.1).map fun b => (b, a.2)).bind fun b => if b.1 then q b else .ok (.bl false, b.2)) := fun e k =>
  (fB h e k).bind fun b v e1 ⟨k1, r1⟩ => by
    obtain ⟨b, s'⟩ := b
    cases r1
    cases b with
    | true => exact h' (true, s') e1 k1
    | false => exact ⟨_, _, rfl, k1, .inl rfl⟩
theorem fOrV {m n : M Val} {p : P (D × S)} {q : Bool × S → P (D × S)} (h : FE Γ s m p) (h' : ∀ a, FE Γ a.2 n (q a)) : FE Γ s (mOrV m n) ((p.bind fun a => (P.tb a.1).map fun b => (b, a.2)).bind fun b => if b.1 then .ok (.bl true, b.2) else q b) := fun e k =>
  (fB h e k).bind fun b v e1 ⟨k1, r1⟩ => by
    obtain ⟨b, s'⟩ := b
    cases r1
    cases b with
    | false => exact h' (false, s') e1 k1
    | true => exact ⟨_, _, rfl, k1, .inl rfl⟩
theorem fIf {c : M Bool} {m n : M Val} {pc : P (Bool × S)} {p q : Bool × S → P (D × S)} (hc : FB Γ s c pc) (h : ∀ a, FE Γ a.2 m (p a)) (h' : ∀ a, FE Γ a.2 n (q a)) : FE Γ s (mIf c m n) (pc.bind fun b => if b.1 then p b else q b) := fun e k =>
  (hc e k).bind fun b v e1 ⟨k1, r1⟩ => by
    obtain ⟨b, s'⟩ := b
    cases r1
    cases b with
    | true => exact h (true, s') e1 k1
    | false => exact h' (false, s') e1 k1
theorem faNil : FA Γ s mNil (.ok ([], s)) := fun e k => ⟨[], e, rfl, k, trivial⟩
theorem faCons {m : M Val} {n : M (List Val)} {p : P (D × S)} {q : D × S → P (List D × S)} (st : StbV Γ) (h : FE Γ s m p) (h' : ∀ a, FA Γ a.2 n (q a)) : FA Γ s (mCons m n) (p.bind fun d => (q d).bind fun ds => .ok (d.1 :: ds.1, ds.2)) := fun e k =>
  (h e k).bind fun d v e1 ⟨k1, r1⟩ => (h' d e1 k1).bind fun ds vs e2 ⟨k2, r2⟩ => ⟨_, _, rfl, k2, r1.st st, r2⟩
/-- one argument -/
theorem faOne {m : M Val} {p : P (D × S)} (h : FE Γ s m p) : FA Γ s (mCons m mNil) (p.bind fun d => .ok ([d.1], d.2)) := fun e k =>
  (h e k).bind fun d v e1 ⟨k1, r1⟩ => ⟨_, _, rfl, k1, r1, trivial⟩
theorem fTup {n : M (List Val)} {q : P (List D × S)} (h : FA Γ s n q) : FE Γ s (mTup n) (q.bind fun a => (P.tup a.1).map fun d => (d, a.2)) := fun e k =>
  (h e k).bind fun a vs e1 ⟨k1, r1⟩ => by
    obtain ⟨e2, h2, k2⟩ := r1.esc k1
    rw [h2]
    unfold P.tup
    by_cases c : a.1.length ≤ 1000
    · simp only [if_pos c]; exact ⟨_, _, rfl, k2, .inl rfl⟩
    · simp only [if_neg c]; trivial
theorem fLst {n : M (List Val)} {q : P (List D × S)} (h : FA Γ s n q) : FE Γ s (mLst n) (q.bind fun a => (P.lst a.1).map fun d => (d, a.2)) := fun e k =>
  (h e k).bind fun a vs e1 ⟨k1, r1⟩ => by
    obtain ⟨e2, h2, k2⟩ := r1.esc k1
    rw [h2]
    unfold P.lst
    by_cases c : a.1.length ≤ 1000
    · simp only [if_pos c]; exact ⟨_, _, rfl, k2, .inr (.inl ⟨rfl, rfl⟩)⟩
    · simp only [if_neg c]; trivial
/-- a built-in of one argument -/
theorem fCB1 {f : List D → Option Val} {m : M Val} {q : P (D × S)} (g : GdB f) (h : FQ Γ s m q) : FE Γ s (mCB f (mCons m mNil)) (q.bind fun a => (P.op (f [a.1])).map fun d => (d, a.2)) := fun e k => by
  have := (h e k).bind (f := fun a => M.bind mNil fun as => M.ret (a :: as)) (q := fun a => .ok ([a.1], a.2)) (K' := fun a vs e' => EnvOk e' (Γ a.2) ∧ VRs (Γ a.2) vs a.1) fun a v e1 ⟨k1, r1⟩ => ⟨[v], e1, rfl, k1, r1.r, trivial⟩
  have z := this.bind (f := fun as e => M.lift ((looks e as).bind f) e) (q := fun a => (P.op (f a.1)).map fun d => (d, a.2)) (K' := fun a v e' => EnvOk e' (Γ a.2) ∧ VE (Γ a.2) v a.1) fun a vs e1 ⟨k1, r1⟩ => by
    rw [r1.looks k1]
    exact Sim.map (sim_lift (β := Unit) (K := fun d v e' => EnvOk e' (Γ a.2) ∧ VE (Γ a.2) v d) fun v h => ⟨k1, (g _ _ h).ve⟩) fun _ _ _ z => z
  rw [P.bind_bind] at z
  exact z
theorem fCB {f : List D → Option Val} {n : M (List Val)} {q : P (List D × S)} (g : GdB f) (h : FA Γ s n q) : FE Γ s (mCB f n) (q.bind fun a => (P.op (f a.1)).map fun d => (d, a.2)) := fun e k =>
  (h e k).bind fun a vs e1 ⟨k1, r1⟩ => by
    have r2 : VRs (Γ a.2) vs a.1 := by
      have : ∀ {vs : List Val} {ds : List D}, VEs (Γ a.2) vs ds → VRs (Γ a.2) vs ds := by
        intro vs
        induction vs with
        | nil => intro ds h; cases ds <;> exact h
        | cons v vs ih => intro ds h; cases ds with
          | nil => exact h
          | cons d ds => exact ⟨h.1.r, ih h.2⟩
      exact this r1
    rw [r2.looks k1]
    exact Sim.map (sim_lift (β := Unit) (K := fun d v e' => EnvOk e' (Γ a.2) ∧ VE (Γ a.2) v d) fun v h => ⟨k1, (g _ _ h).ve⟩) fun _ _ _ z => z
def FO (Γ : S → List Sl) (s : S) (m : Option (M Val)) (p : P (Option Int × S)) : Prop := ∀ e, EnvOk e (Γ s) → Sim (mPart m e) p fun d v e' => EnvOk e' (Γ d.2) ∧ v = d.1
theorem PO.f {m : Option (M Val)} {p : P (Option Int)} (h : PO (Γ s) m p) : FO Γ s m (p.map fun d => (d, s)) := fun e k => (h e k).map fun _ _ _ z => z
theorem foS {m : M Val} {p : P (D × S)} (h : FE Γ s m p) : FO Γ s (some m) (p.bind fun d => (P.int d.1).bind fun i => .ok (some i, d.2)) := fun e k =>
  (h e k).bind fun d v e1 ⟨k1, r1⟩ => by
    obtain ⟨d, s'⟩ := d
    cases d with
    | int b => rw [r1.int]; exact ⟨_, e1, rfl, k1, rfl⟩
    | _ => trivial
theorem fSlE {f : D → Option Int → Option Int → Option Val} {m : M Val} {lo hi : Option (M Val)} {p : P (D × S)} {l : D × S → P (Option Int × S)} {h : Option Int × S → P (Option Int × S)} (st : Stb Γ) (g : ∀ d l h v, f d l h = some v → GV v) (hm : FQ Γ s m p) (hl : ∀ a, FO Γ a.2 lo (l a)) (hh : ∀ a, FO Γ a.2 hi (h a)) :
    FE Γ s (mSl f m lo hi) (p.bind fun d => (l d).bind fun l => (h l).bind fun h => (P.op (f d.1 l.1 h.1)).map fun x => (x, h.2)) := fun e k =>
  (hm e k).bind fun d v e1 ⟨k1, r1⟩ => (hl d e1 k1).bind fun l' _ e2 ⟨k2, r2⟩ => (hh l' e2 k2).bind fun h' _ e3 ⟨k3, r3⟩ => by
    subst r2; subst r3
    have r1' : VQ (Γ h'.2) v d.1 := r1.st st
    rw [r1'.r.lookh k3]
    exact Sim.map (sim_lift (β := Unit) (K := fun d v e' => EnvOk e' (Γ h'.2) ∧ VE (Γ h'.2) v d) fun v h => ⟨k3, (g _ _ _ _ h).ve⟩) fun _ _ _ z => z
/-! ### calls -/
def GW (own : Bool) (w : Val) (d : D) : Prop := if own = true then w = .ow d else (w = .sh d ∨ (w = .ow d ∧ d.obj = true))
def Call0 (own : Bool) (F : List D → FR) (G : List D → P D) : Prop := ∀ ds, match G ds with
  | .ok d => ∃ w l, F ds = .ok w l ∧ GW own w d
  | .ex x => ∃ l, F ds = .ex x l
  | .no => True
def Call1 (own : Bool) (F : List D → FR) (G : D → List D → P (D × D)) : Prop := ∀ h ds, match G h ds with
  | .ok a => ∃ w, F (h :: ds) = .ok w a.2 ∧ GW own w a.1
  | .ex x => ∃ l, F (h :: ds) = .ex x l
  | .no => True
theorem pCall0 {Γ : List Sl} {F : List D → FR} {G : List D → P D} {n : M (List Val)} {q : P (List D)} (c : Call0 false F G) (h : PA Γ n q) : PE Γ (mCall0 F n) (q.bind G) := fun e k =>
  (h e k).bind fun ds vs e1 ⟨k1, r1⟩ => by
    obtain ⟨e2, h2, k2⟩ := r1.esc k1
    have := c ds
    rw [h2]
    simp only
    cases q : G ds with
    | ok d =>
      rw [q] at this
      obtain ⟨w, l, h3, h4⟩ := this
      rw [h3]
      exact ⟨w, e2, rfl, k2, by rcases h4 with rfl | ⟨rfl, h⟩; exact .inl rfl; exact .inr (.inl ⟨rfl, h⟩)⟩
    | ex x =>
      rw [q] at this
      obtain ⟨l, h3⟩ := this
      rw [h3]
      exact ⟨e2, rfl⟩
    | no => trivial
theorem fCall0 {F : List D → FR} {G : List D → P D} {n : M (List Val)} {q : P (List D × S)} (c : Call0 false F G) (h : FA Γ s n q) : FE Γ s (mCall0 F n) (q.bind fun a => (G a.1).map fun d => (d, a.2)) := fun e k =>
  (h e k).bind fun a vs e1 ⟨k1, r1⟩ => by
    obtain ⟨e2, h2, k2⟩ := r1.esc k1
    have := c a.1
    rw [h2]
    simp only
    cases q : G a.1 with
    | ok d =>
      rw [q] at this
      obtain ⟨w, l, h3, h4⟩ := this
      rw [h3]
      exact ⟨w, e2, rfl, k2, by rcases h4 with rfl | ⟨rfl, h⟩; exact .inl rfl; exact .inr (.inl ⟨rfl, h⟩)⟩
    | ex x =>
      rw [q] at this
      obtain ⟨l, h3⟩ := this
      rw [h3]
      exact ⟨e2, rfl⟩
    | no => trivial
/-- a cell that is drawn from -/
structure Cel (Γ : S → List Sl) (i : Nat) (c : D → Sl) (get : S → D) (put : S → D → S) : Prop where
  get : ∀ s, (Γ s)[i]? = some (c (get s))
  put : ∀ s d, (Γ s).set i (c d) = Γ (put s d)
theorem fCall1 {F : List D → FR} {G : D → List D → P (D × D)} {n : M (List Val)} {q : P (List D × S)} {i : Nat} {get : S → D} {put : S → D → S} (b : Bool) (cl : Cel Γ i (if b = true then .l else .h) get put) (c : Call1 false F G) (h : FA Γ s n q) :
    FE Γ s (mCall1 F (mCons (mVar i) n)) (q.bind fun a => (G (get a.2) a.1).map fun y => (y.1, put a.2 y.2)) := fun e k => by
  have hv : mVar i e = .ok (.bw i) e := by
    obtain ⟨c, hc, q⟩ := k.get (cl.get s)
    cases b <;> cases q <;> simp [mVar, hc]
  show Sim (M.bind (mCons (mVar i) n) _ e) _ _
  have hb : mCons (mVar i) n e = M.bind n (fun as => M.ret (.bw i :: as)) e := by
    show M.bind _ _ _ = _
    unfold M.bind; rw [hv]
  unfold M.bind
  rw [hb]
  have z := (h e k).bind (f := fun as => M.ret (.bw i :: as)) (q := fun a => .ok a) (K' := fun a vs e' => ∃ us, vs = .bw i :: us ∧ EnvOk e' (Γ a.2) ∧ VEs (Γ a.2) us a.1) fun a vs e1 ⟨k1, r1⟩ => ⟨_, e1, rfl, vs, rfl, k1, r1⟩
  rw [show q.bind (fun a => P.ok a) = q by cases q <;> rfl] at z
  cases q with
  | no => trivial
  | ex x => obtain ⟨e', h1⟩ := z; rw [h1]; exact ⟨e', rfl⟩
  | ok a =>
    obtain ⟨vs, e1, h1, us, rfl, k1, r1⟩ := z
    rw [h1]
    show Sim _ ((G (get a.2) a.1).map _) _
    simp only
    obtain ⟨e2, h2, k2⟩ := r1.esc k1
    rw [h2]
    simp only
    have g := k2.get (cl.get a.2)
    have := c (get a.2) a.1
    obtain ⟨cc, hc, w⟩ := g
    cases b with
    | true =>
      cases (show cc = .ln _ from w)
      rw [hc]
      simp only
      cases q : G (get a.2) a.1 with
      | no => trivial
      | ex x => rw [q] at this; obtain ⟨l, h3⟩ := this; rw [h3]; exact ⟨_, rfl⟩
      | ok y =>
        rw [q] at this
        obtain ⟨w, h3, h4⟩ := this
        rw [h3]
        refine ⟨w, _, rfl, ?_, by rcases h4 with rfl | ⟨rfl, h⟩; exact .inl rfl; exact .inr (.inl ⟨rfl, h⟩)⟩
        rw [← cl.put]
        exact k2.set (show SlOk (.ln y.2) (.l y.2) from rfl)
    | false =>
      cases (show cc = .ow _ from w)
      rw [hc]
      simp only
      cases q : G (get a.2) a.1 with
      | no => trivial
      | ex x => rw [q] at this; obtain ⟨l, h3⟩ := this; rw [h3]; exact ⟨_, rfl⟩
      | ok y =>
        rw [q] at this
        obtain ⟨w, h3, h4⟩ := this
        rw [h3]
        refine ⟨w, _, rfl, ?_, by rcases h4 with rfl | ⟨rfl, h⟩; exact .inl rfl; exact .inr (.inl ⟨rfl, h⟩)⟩
        rw [← cl.put]
        exact k2.set (show SlOk (.ow y.2) (.h y.2) from rfl)
def P.isl (d : D) : P Unit := match d with
  | .lst _ => .ok ()
  | _ => .no
@[simp] theorem P.isl_lst (xs : List D) : P.isl (.lst xs) = .ok () := nr rfl
def P.mut (f : List D → List D → Option (D × List D)) (d : D) (ds : List D) : P (D × D) := match d with
  | .lst xs => (match f xs ds with
    | some (a, ys) => .ok (a, .lst ys)
    | none => .no)
  | _ => .no
/-- a list changed in place, what is handed in drawn, perhaps from that list -/
theorem fMut {f : List D → List D → Option (D × List D)} {n : M (List Val)} {q : P (List D × S)} {i : Nat} {get : S → D} {put : S → D → S} (cl : Cel Γ i .o get put) (h : FA Γ s n q) :
    FE Γ s (mMut i f n) ((P.isl (get s)).bind fun _ => q.bind fun a => (P.mut f (get a.2) a.1).map fun y => (y.1, put a.2 y.2)) := fun e k => by
  obtain ⟨c, hc, rfl, ho⟩ := k.get (cl.get s)
  unfold mMut
  rw [hc]
  cases z : get s with
  | lst xs =>
    show Sim (M.bind n _ e) (q.bind _) _
    refine (h e k).bind fun a vs e1 ⟨k1, r1⟩ => ?_
    obtain ⟨e2, h2, k2⟩ := r1.esc k1
    rw [h2]
    simp only
    obtain ⟨c, hc, rfl, ho⟩ := k2.get (cl.get a.2)
    rw [hc]
    cases z2 : get a.2 with
    | lst ys =>
      show Sim (match f ys a.1 with | some (a, ys) => _ | none => _) ((match f ys a.1 with | some (a, ys) => _ | none => _ : P (D × D)).map _) _
      cases z3 : f ys a.1 with
      | none => trivial
      | some t =>
        simp only [relent, hc]
        refine ⟨.sh t.1, _, rfl, ?_, .inl rfl⟩
        rw [← cl.put]
        exact k2.set ⟨rfl, rfl⟩
    | _ => trivial
  | _ => trivial
theorem fMut0 {f : List D → List D → Option (D × List D)} {i : Nat} {get : S → D} {put : S → D → S} (cl : Cel Γ i .o get put) :
    FE Γ s (mMut0 i f) ((P.mut f (get s) []).map fun y => (y.1, put s y.2)) := fun e k => by
  obtain ⟨c, hc, rfl, ho⟩ := k.get (cl.get s)
  unfold mMut0
  rw [hc]
  cases z : get s with
  | lst xs =>
    show Sim (match f xs [] with | some (a, ys) => _ | none => _) ((match f xs [] with | some (a, ys) => _ | none => _ : P (D × D)).map _) _
    cases z3 : f xs [] with
    | none => trivial
    | some t =>
      simp only [relent, hc]
      refine ⟨.sh t.1, _, rfl, ?_, .inl rfl⟩
      rw [← cl.put]
      exact k.set ⟨rfl, rfl⟩
  | _ => trivial
end
end VS

/-! VU2: targets, comprehensions. -/
namespace VS
open PySem PySem.Spec PyProof.Rows L2
def Sl.nl : Sl → Prop
  | .l _ => False
  | _ => True
theorem putC_ok {e : Env} {Γ : List Sl} (k : EnvOk e Γ) {i : Nat} {s0 s : Sl} {c : Cell} (g : Γ[i]? = some s0) (n : s0.nl) (h : SlOk c s) : ∃ e', putC e i c = some e' ∧ EnvOk e' (Γ.set i s) := by
  obtain ⟨c0, hc, q⟩ := k.get g
  have : ∀ d, c0 ≠ .ln d := fun d z => by
    subst z
    cases s0 with
    | u => cases q
    | s _ => cases q
    | v _ => rcases q with q | ⟨q, _⟩ <;> cases q
    | o _ => cases q.1
    | h _ => cases q
    | l _ => exact n
  refine ⟨e.set i c, ?_, k.set h⟩
  unfold putC
  rw [hc]
  cases c0 with
  | ln d => exact absurd rfl (this d)
  | _ => rfl
/-! ### targets -/
def TJ {α : Type} (Γ : List Sl) (g : D → Env → Option Env) (t : D → Option α) (Γ' : α → List Sl) : Prop := ∀ d e, EnvOk e Γ → ∀ a, t d = some a → ∃ e', g d e = some e' ∧ EnvOk e' (Γ' a)
def TJs {α : Type} (Γ : List Sl) (g : List D → Env → Option Env) (t : List D → Option α) (Γ' : α → List Sl) : Prop := ∀ d e, EnvOk e Γ → ∀ a, t d = some a → ∃ e', g d e = some e' ∧ EnvOk e' (Γ' a)
def nilO : List D → Option Unit
  | [] => some ()
  | _ => none
def consO {α β : Type} (t : D → Option α) (ts : List D → Option β) : List D → Option (α × β)
  | [] => none
  | d :: ds => (t d).bind fun a => (ts ds).map fun b => (a, b)
def tupO {α : Type} (ts : List D → Option α) : D → Option α
  | .tup ds => ts ds
  | .lst ds => ts ds
  | _ => none
@[simp] theorem nilO_nil : nilO [] = some () := nr rfl
@[simp] theorem consO_cons {α β : Type} (t : D → Option α) (ts : List D → Option β) (d : D) (ds : List D) : consO t ts (d :: ds) = (t d).bind fun a => (ts ds).map fun b => (a, b) := nr rfl
@[simp] theorem tupO_tup {α : Type} (ts : List D → Option α) (ds : List D) : tupO ts (.tup ds) = ts ds := nr rfl
@[simp] theorem tupO_lst {α : Type} (ts : List D → Option α) (ds : List D) : tupO ts (.lst ds) = ts ds := nr rfl
theorem tN {Γ : List Sl} (i : Nat) {s0 : Sl} (g : Γ[i]? = some s0 := by rfl) (n : s0.nl := by trivial) : TJ Γ (gN i) some (fun d => Γ.set i (.s d)) := fun d e k a h => by
  cases h
  exact putC_ok k g n rfl
theorem tsNil {Γ : List Sl} : TJs Γ gsNil nilO (fun _ => Γ) := fun d e k a h => by
  cases d with
  | nil => exact ⟨e, rfl, k⟩
  | cons _ _ => cases h
theorem tsCons {α β : Type} {Γ : List Sl} {g : D → Env → Option Env} {t : D → Option α} {Γ1 : α → List Sl} {gs : List D → Env → Option Env} {ts : List D → Option β} {Γ2 : α → β → List Sl} (h1 : TJ Γ g t Γ1) (h2 : ∀ a, TJs (Γ1 a) gs ts (Γ2 a)) :
    TJs Γ (gsCons g gs) (consO t ts) (fun a => Γ2 a.1 a.2) := fun d e k a h => by
  cases d with
  | nil => cases h
  | cons d ds =>
    rw [consO_cons] at h
    cases q : t d with
    | none => rw [q] at h; cases h
    | some x =>
      cases q2 : ts ds with
      | none => rw [q, q2] at h; cases h
      | some y =>
        rw [q, q2] at h
        cases h
        obtain ⟨e1, r1, k1⟩ := h1 d e k x q
        obtain ⟨e2, r2, k2⟩ := h2 x ds e1 k1 y q2
        exact ⟨e2, by simp [gsCons, r1, r2], k2⟩
theorem tT {α : Type} {Γ : List Sl} {gs : List D → Env → Option Env} {ts : List D → Option α} {Γ' : α → List Sl} (h : TJs Γ gs ts Γ') : TJ Γ (gT gs) (tupO ts) Γ' := fun d e k a q => by
  cases d with
  | tup ds => exact h ds e k a q
  | lst ds => exact h ds e k a q
  | _ => cases q
/-! ### what is walked -/
section
variable {Γ : List Sl}
def P.seq (d : D) : P (List D) := match d with
  | .lst ds => .ok ds
  | .tup ds => .ok ds
  | .fl ds => .ok ds
  | _ => .no
@[simp] theorem P.seq_lst (ds : List D) : P.seq (.lst ds) = .ok ds := nr rfl
@[simp] theorem P.seq_tup (ds : List D) : P.seq (.tup ds) = .ok ds := nr rfl
@[simp] theorem P.seq_fl (ds : List D) : P.seq (.fl ds) = .ok ds := nr rfl
theorem iSeq {m : M Val} {p : P D} (h : PE Γ m p) : PI_ Γ (mSeq m) (p.bind P.seq) := fun e k =>
  (h e k).bind fun d v e1 ⟨k1, r1⟩ => by
    obtain ⟨e2, h2, k2⟩ := r1.esc k1
    rw [h2]
    cases d with
    | lst ds => exact ⟨_, _, rfl, k2, rfl⟩
    | tup ds => exact ⟨_, _, rfl, k2, rfl⟩
    | fl ds => exact ⟨_, _, rfl, k2, rfl⟩
    | _ => trivial
theorem iSeqF {S : Type} {Γ : S → List Sl} {s : S} {m : M Val} {p : P (D × S)} (h : FE Γ s m p) : FI Γ s (mSeq m) (p.bind fun a => (P.seq a.1).map fun ds => (ds, a.2)) := fun e k =>
  (h e k).bind fun d v e1 ⟨k1, r1⟩ => by
    obtain ⟨e2, h2, k2⟩ := r1.esc k1
    rw [h2]
    obtain ⟨d, s'⟩ := d
    cases d with
    | lst ds => exact ⟨_, _, rfl, k2, rfl⟩
    | tup ds => exact ⟨_, _, rfl, k2, rfl⟩
    | fl ds => exact ⟨_, _, rfl, k2, rfl⟩
    | _ => trivial
theorem VE.ints : ∀ {vs : List Val} {is : List Int}, VEs Γ vs (is.map .int) → asInts vs = some is
  | [], [], _ => rfl
  | v :: vs, i :: is, h => by rw [h.1.int, asInts, VE.ints h.2]; rfl
  | [], _ :: _, h => h.elim
  | _ :: _, [], h => h.elim
noncomputable def P.range (ds : List D) : P (List D) := match ds with
  | [.int j] => if dec (-(2 ^ 62) ≤ j ∧ j < 2 ^ 62) = true then .ok (intsD 0 j.toNat) else .no
  | [.int i, .int j] => if dec ((-(2 ^ 62) ≤ i ∧ i < 2 ^ 62) ∧ -(2 ^ 62) ≤ j ∧ j < 2 ^ 62) = true then .ok (intsD i (j - i).toNat) else .no
  | _ => .no
theorem range1 {j : Int} (h : -1000000000000 ≤ j ∧ j ≤ 1000000000000) : P.range [.int j] = .ok (intsD 0 j.toNat) := by
  show (if _ then _ else _) = _
  rw [if_pos (dec_true (by have : (2 : Int) ^ 62 = 4611686018427387904 := by decide
                           omega))]
theorem range2 {i j : Int} (h : (-1000000000000 ≤ i ∧ i ≤ 1000000000000) ∧ -1000000000000 ≤ j ∧ j ≤ 1000000000000) : P.range [.int i, .int j] = .ok (intsD i (j - i).toNat) := by
  show (if _ then _ else _) = _
  rw [if_pos (dec_true (by have : (2 : Int) ^ 62 = 4611686018427387904 := by decide
                           omega))]
theorem sim_r1 {e : Env} {vs : List Val} {ds : List D} (hv : VEs Γ vs ds) {K : List D → List D → Env → Prop} (k : ∀ xs, K xs xs e) (h1 : ds.length = 1) :
    Sim ((match asInts vs with
  | some [j] => if dec (-(2 ^ 62) ≤ j ∧ j < 2 ^ 62) = true then .ok (intsD 0 j.toNat) e else .no
  | _ => .no : R (List D))) (P.range ds) K := by
  match ds, vs, h1, hv with
  | [d], v :: vs, _, hv =>
    cases d with
    | int j =>
      have : asInts (v :: vs) = some [j] := VE.ints (is := [j]) hv
      rw [this]
      unfold P.range
      by_cases c : dec (-(2 ^ 62) ≤ j ∧ j < 2 ^ 62) = true
      · simp only [if_pos c]; exact ⟨_, _, rfl, k _⟩
      · simp only [if_neg c]; trivial
    | _ => trivial
theorem sim_r2 {e : Env} {vs : List Val} {ds : List D} (hv : VEs Γ vs ds) {K : List D → List D → Env → Prop} (k : ∀ xs, K xs xs e) (h1 : ds.length = 2) :
    Sim ((match asInts vs with
  | some [i, j] => if dec ((-(2 ^ 62) ≤ i ∧ i < 2 ^ 62) ∧ -(2 ^ 62) ≤ j ∧ j < 2 ^ 62) = true then .ok (intsD i (j - i).toNat) e else .no
  | _ => .no : R (List D))) (P.range ds) K := by
  match ds, vs, h1, hv with
  | [d, d'], v :: vs, _, hv =>
    cases d with
    | int i =>
      cases d' with
      | int j =>
        have : asInts (v :: vs) = some [i, j] := VE.ints (is := [i, j]) hv
        rw [this]
        unfold P.range
        by_cases c : dec ((-(2 ^ 62) ≤ i ∧ i < 2 ^ 62) ∧ -(2 ^ 62) ≤ j ∧ j < 2 ^ 62) = true
        · simp only [if_pos c]; exact ⟨_, _, rfl, k _⟩
        · simp only [if_neg c]; trivial
      | _ => trivial
    | _ => trivial
theorem iR1 {m : M Val} {p : P D} (h : PE Γ m p) : PI_ Γ (mR1 (mCons m mNil)) (p.bind fun d => P.range [d]) := fun e k => by
  have := (paCons h paNil e k).bind (f := fun as e => match asInts as with
  | some [j] => if dec (-(2 ^ 62) ≤ j ∧ j < 2 ^ 62) = true then .ok (intsD 0 j.toNat) e else .no
  | _ => .no) (q := fun ds : List D => if ds.length = 1 then P.range ds else .no) (K' := fun a b e' => EnvOk e' Γ ∧ b = a) fun ds vs e1 ⟨k1, r1⟩ => by
    by_cases c : ds.length = 1
    · rw [if_pos c]; exact sim_r1 r1 (fun xs => ⟨k1, rfl⟩) c
    · rw [if_neg c]; trivial
  rw [show ((p.bind fun d => (P.ok []).bind fun ds => P.ok (d :: ds)).bind fun ds => if ds.length = 1 then P.range ds else .no) = p.bind fun d => P.range [d] by cases p <;> rfl] at this
  exact this
theorem iR2 {m n : M Val} {p q : P D} (h : PE Γ m p) (h' : PE Γ n q) : PI_ Γ (mR2 (mCons m (mCons n mNil))) (p.bind fun d => q.bind fun d' => P.range [d, d']) := fun e k => by
  have := (paCons h (paCons h' paNil) e k).bind (f := fun as e => match asInts as with
  | some [i, j] => if dec ((-(2 ^ 62) ≤ i ∧ i < 2 ^ 62) ∧ -(2 ^ 62) ≤ j ∧ j < 2 ^ 62) = true then .ok (intsD i (j - i).toNat) e else .no
  | _ => .no) (q := fun ds : List D => if ds.length = 2 then P.range ds else .no) (K' := fun a b e' => EnvOk e' Γ ∧ b = a) fun ds vs e1 ⟨k1, r1⟩ => by
    by_cases c : ds.length = 2
    · rw [if_pos c]; exact sim_r2 r1 (fun xs => ⟨k1, rfl⟩) c
    · rw [if_neg c]; trivial
  rw [show ((p.bind fun d => (q.bind fun d => (P.ok []).bind fun ds => P.ok (d :: ds)).bind fun ds => P.ok (d :: ds)).bind fun ds => if ds.length = 2 then P.range ds else .no) = p.bind fun d => q.bind fun d' => P.range [d, d'] by cases p <;> cases q <;> rfl] at this
  exact this
theorem iR1F {S : Type} {Γ : S → List Sl} {s : S} {m : M Val} {p : P (D × S)} (h : FE Γ s m p) : FI Γ s (mR1 (mCons m mNil)) (p.bind fun d => (P.range [d.1]).map fun x => (x, d.2)) := fun e k => by
  have := (faOne h e k).bind (f := fun as e => match asInts as with
  | some [j] => if dec (-(2 ^ 62) ≤ j ∧ j < 2 ^ 62) = true then .ok (intsD 0 j.toNat) e else .no
  | _ => .no) (q := fun ds : List D × S => if ds.1.length = 1 then (P.range ds.1).map fun x => (x, ds.2) else .no) (K' := fun a b e' => EnvOk e' (Γ a.2) ∧ b = a.1) fun ds vs e1 ⟨k1, r1⟩ => by
    by_cases c : ds.1.length = 1
    · rw [if_pos c]; exact (sim_r1 r1 (K := fun a b e' => EnvOk e' (Γ ds.2) ∧ b = a) (fun xs => ⟨k1, rfl⟩) c).map fun _ _ _ z => z
    · rw [if_neg c]; trivial
  rw [show ((p.bind fun d => P.ok ([d.1], d.2)).bind fun ds => if ds.1.length = 1 then (P.range ds.1).map fun x => (x, ds.2) else .no) = p.bind fun d => (P.range [d.1]).map fun x => (x, d.2) by cases p <;> rfl] at this
  exact this
def P.enum (d : D) : P (List D) := match d with
  | .lst ds => .ok (enumD ds)
  | .fl ds => .ok (enumD ds)
  | .tup ds => .ok (enumD ds)
  | _ => .no
@[simp] theorem P.enum_lst (ds : List D) : P.enum (.lst ds) = .ok (enumD ds) := nr rfl
@[simp] theorem P.enum_tup (ds : List D) : P.enum (.tup ds) = .ok (enumD ds) := nr rfl
theorem iEn {m : M Val} {p : P D} (h : PE Γ m p) : PI_ Γ (mEn (mCons m mNil)) (p.bind P.enum) := fun e k => by
  refine Sim.bind (m := mCons m mNil) (K := fun d vs e' => EnvOk e' Γ ∧ VEs Γ vs [d]) ?_ fun d vs e1 ⟨k1, r1⟩ => ?_
  · have := (h e k).bind (f := fun a => M.bind mNil fun as => M.ret (a :: as)) (q := fun d => .ok d) (K' := fun d vs e' => EnvOk e' Γ ∧ VEs Γ vs [d]) fun d v e1 ⟨k1, r1⟩ => ⟨[v], e1, rfl, k1, r1, trivial⟩
    rw [show (p.bind fun d => P.ok d) = p by cases p <;> rfl] at this
    exact this
  · obtain ⟨e2, h2, k2⟩ := r1.esc k1
    simp only [h2]
    cases d with
    | lst ds => exact ⟨_, _, rfl, k2, rfl⟩
    | tup ds => exact ⟨_, _, rfl, k2, rfl⟩
    | fl ds => exact ⟨_, _, rfl, k2, rfl⟩
    | _ => trivial
def P.zip (d d' : D) : P (List D) := match d, d' with
  | .lst xs, .lst ys => .ok (zipD xs ys)
  | .tup xs, .tup ys => .ok (zipD xs ys)
  | _, _ => .no
@[simp] theorem P.zip_lst (xs ys : List D) : P.zip (.lst xs) (.lst ys) = .ok (zipD xs ys) := nr rfl
@[simp] theorem P.zip_tup (xs ys : List D) : P.zip (.tup xs) (.tup ys) = .ok (zipD xs ys) := nr rfl
theorem iZip {m n : M Val} {p q : P D} (h : PE Γ m p) (h' : PE Γ n q) : PI_ Γ (mZip (mCons m (mCons n mNil))) (p.bind fun d => q.bind fun d' => P.zip d d') := fun e k => by
  have a := (h e k).bind (f := fun a => M.bind (mCons n mNil) fun as => M.ret (a :: as)) (q := fun d => q.bind fun d' => .ok (d, d')) (K' := fun (d : D × D) vs e' => EnvOk e' Γ ∧ VEs Γ vs [d.1, d.2]) fun d v e1 ⟨k1, r1⟩ => by
    have b := (h' e1 k1).bind (f := fun a => M.bind mNil fun as => M.ret (a :: as)) (q := fun d' => .ok d') (K' := fun d' vs e' => EnvOk e' Γ ∧ VEs Γ vs [d']) fun d v e1 ⟨k1, r1⟩ => ⟨[v], e1, rfl, k1, r1, trivial⟩
    have c := b.bind (f := fun as => M.ret (v :: as)) (q := fun d' => .ok (d, d')) (K' := fun (d : D × D) vs e' => EnvOk e' Γ ∧ VEs Γ vs [d.1, d.2]) fun d' vs e1 ⟨k1, r2⟩ => ⟨_, e1, rfl, k1, r1, r2⟩
    rw [show (q.bind fun d' => P.ok d') = q by cases q <;> rfl] at c
    exact c
  have := a.bind (f := fun as e => match escs e as with
  | some ([.lst xs, .lst ys], e') => .ok (zipD xs ys) e'
  | some ([.tup xs, .tup ys], e') => .ok (zipD xs ys) e'
  | _ => .no) (q := fun ds => P.zip ds.1 ds.2) (K' := fun a b e' => EnvOk e' Γ ∧ b = a) fun ds vs e1 ⟨k1, r1⟩ => by
    obtain ⟨e2, h2, k2⟩ := r1.esc k1
    simp only [h2]
    obtain ⟨d, d'⟩ := ds
    cases d with
    | lst xs => cases d' with
      | lst ys => exact ⟨_, _, rfl, k2, rfl⟩
      | _ => trivial
    | tup xs => cases d' with
      | tup ys => exact ⟨_, _, rfl, k2, rfl⟩
      | _ => trivial
    | _ => trivial
  simp only [P.bind_bind, P.ok_bind] at this
  exact this
def P.any (d : D) : P (List D) := match d with
  | .dct _ l => .ok (l.map (·.1))
  | .lst ds => .ok ds
  | .tup ds => .ok ds
  | .fl ds => .ok ds
  | _ => .no
@[simp] theorem P.any_lst (ds : List D) : P.any (.lst ds) = .ok ds := nr rfl
@[simp] theorem P.any_tup (ds : List D) : P.any (.tup ds) = .ok ds := nr rfl
@[simp] theorem P.any_fl (ds : List D) : P.any (.fl ds) = .ok ds := nr rfl
@[simp] theorem P.any_dct (t : Bool) (l : List (D × D)) : P.any (.dct t l) = .ok (l.map (·.1)) := nr rfl
theorem iAny0 (i : Nat) {d : D} (hv : PE Γ (mVar i) (.ok d)) (hc : ∀ e, EnvOk e Γ → cellD e[i]? = some d) (he : ∀ e, EnvOk e Γ → ∃ e', esc e (.bw i) = some (d, e') ∧ EnvOk e' Γ) : PI_ Γ (mAny i) (P.any d) := fun e k => by
  unfold mAny
  rw [hc e k]
  cases d with
  | dct t l =>
    obtain ⟨e', h1, h2⟩ := he e k
    show Sim (mKeys i e) _ _
    unfold mKeys
    rw [h1]
    exact ⟨_, _, rfl, h2, rfl⟩
  | lst ds => exact iSeq hv e k
  | tup ds => exact iSeq hv e k
  | fl ds => exact iSeq hv e k
  | _ => trivial
theorem iAnyS (i : Nat) {d : D} (g : Γ[i]? = some (.s d) := by rfl) : PI_ Γ (mAny i) (P.any d) := iAny0 i (pVs i g) (fun e k => by
  obtain ⟨c, hc, q⟩ := k.get g
  cases q
  rw [hc]; rfl) fun e k => by
  obtain ⟨c, hc, q⟩ := k.get g
  cases q
  exact ⟨e, by simp [esc, hc], k⟩
theorem iAnyV (i : Nat) {d : D} (g : Γ[i]? = some (.v d) := by rfl) : PI_ Γ (mAny i) (P.any d) := iAny0 i (pVv i g) (fun e k => by
  obtain ⟨c, hc, q⟩ := k.get g
  rcases q with rfl | ⟨rfl, _⟩ <;> rw [hc] <;> rfl) fun e k => by
  obtain ⟨c, hc, q⟩ := k.get g
  rcases q with rfl | ⟨rfl, _⟩
  · exact ⟨e, by simp [esc, hc], k⟩
  · exact ⟨e.set i (.sh d), by simp [esc, hc], k.set_same g (.inl rfl)⟩
end
/-! ### comprehensions -/
def wipeG (Γ : List Sl) : List Nat → List Sl
  | [] => Γ
  | v :: vs => (wipeG Γ vs).set v .u
theorem wipe_ok {e : Env} {Γ : List Sl} (k : EnvOk e Γ) : ∀ vs, EnvOk (wipeE e vs) (wipeG Γ vs)
  | [] => k
  | v :: vs => (wipe_ok k vs).set (s := .u) rfl
/-- the comprehension's own names: nothing is known of them ahead, or they are shared -/
def OwnOk (Γ : List Sl) (vs : List Nat) : Prop := ∀ v ∈ vs, Γ[v]? = some .u ∨ ∃ d, Γ[v]? = some (.s d)
theorem ownNil {Γ : List Sl} : OwnOk Γ [] := fun v h => (nomatch h)
theorem ownU {Γ : List Sl} {v : Nat} {vs : List Nat} (h : OwnOk Γ vs) (g : Γ[v]? = some .u := by rfl) : OwnOk Γ (v :: vs) := fun w m => by
  rcases List.mem_cons.mp m with rfl | m
  · exact .inl g
  · exact h w m
theorem ownS {Γ : List Sl} {v : Nat} {vs : List Nat} (h : OwnOk Γ vs) {d : D} (g : Γ[v]? = some (.s d) := by rfl) : OwnOk Γ (v :: vs) := fun w m => by
  rcases List.mem_cons.mp m with rfl | m
  · exact .inr ⟨d, g⟩
  · exact h w m
theorem wipeG_len (Γ : List Sl) : ∀ vs, (wipeG Γ vs).length = Γ.length
  | [] => rfl
  | v :: vs => by rw [wipeG, List.length_set, wipeG_len Γ vs]
theorem wipeG_ne {Γ : List Sl} {i : Nat} : ∀ {vs : List Nat}, i ∉ vs → (wipeG Γ vs)[i]? = Γ[i]?
  | [], _ => rfl
  | v :: vs, h => by
    rw [wipeG, List.getElem?_set_ne (fun z : v = i => h (by rw [← z]; exact List.mem_cons_self)), wipeG_ne fun z => h (List.mem_cons_of_mem _ z)]
theorem back_lenU (e0 e : Env) : ∀ vs, (back e0 e vs).length = e.length
  | [] => rfl
  | v :: vs => by rw [back, List.length_set, back_lenU e0 e vs]
theorem back_ne {e0 e : Env} {i : Nat} : ∀ {vs : List Nat}, i ∉ vs → (back e0 e vs)[i]? = e[i]?
  | [], _ => rfl
  | v :: vs, h => by
    rw [back, List.getElem?_set_ne (fun z : v = i => h (by rw [← z]; exact List.mem_cons_self)), back_ne fun z => h (List.mem_cons_of_mem _ z)]
theorem back_at {e0 e : Env} {i : Nat} (hi : i < e.length) : ∀ {vs : List Nat}, i ∈ vs → (back e0 e vs)[i]? = some (match e0[i]? with
    | some (.sh d) => .sh d
    | _ => .un)
  | v :: vs, h => by
    rw [back]
    by_cases z : v = i
    · subst z
      rw [List.getElem?_set_self (by rw [back_lenU]; exact hi)]
      all_goals rfl
    · rw [List.getElem?_set_ne z]
      rcases List.mem_cons.mp h with h | h
      · exact absurd h.symm z
      · exact back_at hi h
theorem back_ok {e0 e : Env} {Γ Γ' : List Sl} {vs : List Nat} (k0 : EnvOk e0 Γ) (k : EnvOk e (wipeG Γ' vs)) (o : OwnOk Γ vs) (hs : ∀ v ∈ vs, Γ'[v]? = Γ[v]?) : EnvOk (back e0 e vs) Γ' where
  len := by rw [back_lenU, k.len, wipeG_len]
  at_ := fun i c s q1 q2 => by
    have hi : i < e.length := by have := (List.getElem?_eq_some_iff.mp q1).1; rwa [back_lenU] at this
    by_cases m : i ∈ vs
    · rw [back_at hi m] at q1
      cases q1
      rw [hs i m] at q2
      rcases o i m with g | ⟨d, g⟩
      · rw [g] at q2; cases q2
        split <;> rfl
      · rw [g] at q2; cases q2
        obtain ⟨c, hc, z⟩ := k0.get g
        cases z
        rw [hc]
        rfl
    · rw [back_ne m] at q1
      exact k.at_ i c s q1 (by rw [wipeG_ne m]; exact q2)
section
variable {Γ : List Sl}
def P.lcL (φ : D → P (Option D)) : List D → List D → P (List D)
  | [], acc => .ok acc
  | d :: ds, acc => match φ d with
    | .ok (some x) => if acc.length < 1000000 then P.lcL φ ds (acc ++ [x]) else .no
    | .ok none => P.lcL φ ds acc
    | _ => .no
def P.lc (φ : D → P (Option D)) (ds : List D) : P D := (P.lcL φ ds []).bind fun xs => .ok (.lst xs)
/-- one turn -/
def LB (Γw : List Sl) (vs : List Nat) (g : D → Env → Option Env) (mt : M Bool) (me : M Val) (φ : D → P (Option D)) : Prop := ∀ d e, EnvOk e Γw → match φ d with
  | .ok (some x) => ∃ e1 e2 a e3 e4, g d e = some e1 ∧ mt e1 = .ok true e2 ∧ me e2 = .ok a e3 ∧ esc e3 a = some (x, e4) ∧ EnvOk (wipeE e4 vs) Γw
  | .ok none => ∃ e1 e2, g d e = some e1 ∧ mt e1 = .ok false e2 ∧ EnvOk (wipeE e2 vs) Γw
  | _ => True
theorem lb {α : Type} {Γw : List Sl} {vs : List Nat} {g : D → Env → Option Env} {mt : M Bool} {me : M Val} {t : D → Option α} {Γ1 : α → List Sl} {pt : α → P Bool} {pe : α → P D}
    (h1 : TJ Γw g t Γ1) (h2 : ∀ a, PB (Γ1 a) mt (pt a)) (h3 : ∀ a, PE (Γ1 a) me (pe a)) (hw : ∀ a, wipeG (Γ1 a) vs = Γw) : LB Γw vs g mt me (fun d => (P.of (t d)).bind fun a => (pt a).bind fun b => if b then (pe a).bind fun x => .ok (some x) else .ok none) := fun d e k => by
  dsimp only
  cases q : t d with
  | none => simp [P.of]
  | some a =>
    obtain ⟨e1, r1, k1⟩ := h1 d e k a q
    simp only [P.of, P.ok_bind]
    have z2 := h2 a e1 k1
    cases q2 : pt a with
    | no => simp
    | ex x => simp
    | ok b =>
      rw [q2] at z2
      obtain ⟨b', e2, r2, k2, rfl⟩ := z2
      cases b' with
      | false =>
        simp
        exact ⟨e1, r1, e2, r2, by have := wipe_ok k2 vs; rwa [hw] at this⟩
      | true =>
        simp only [P.ok_bind, if_true]
        have z3 := h3 a e2 k2
        cases q3 : pe a with
        | no => simp
        | ex x => simp
        | ok x =>
          rw [q3] at z3
          obtain ⟨v, e3, r3, k3, r4⟩ := z3
          obtain ⟨e4, h4, k4⟩ := r4.esc k3
          simp only [P.ok_bind]
          exact ⟨e1, e2, v, e3, e4, r1, r2, r3, h4, by have := wipe_ok k4 vs; rwa [hw] at this⟩
theorem lcL_sim {Γw : List Sl} {vs : List Nat} {g : D → Env → Option Env} {mt : M Bool} {me : M Val} {φ : D → P (Option D)} (h : LB Γw vs g mt me φ) : ∀ (ds acc : List D) (e : Env), EnvOk e Γw → ∀ xs, P.lcL φ ds acc = .ok xs → ∃ e', lcL vs g mt me ds acc e = some (xs, e') ∧ EnvOk e' Γw
  | [], acc, e, k, xs, q => by cases q; exact ⟨e, rfl, k⟩
  | d :: ds, acc, e, k, xs, q => by
    have z := h d e k
    rw [P.lcL] at q
    cases q1 : φ d with
    | no => rw [q1] at q; cases q
    | ex x => rw [q1] at q; cases q
    | ok o =>
      rw [q1] at q z
      cases o with
      | none =>
        obtain ⟨e1, e2, r1, r2, k2⟩ := z
        obtain ⟨e', h1, h2⟩ := lcL_sim h ds acc _ k2 xs q
        exact ⟨e', by simp [lcL, r1, r2, h1], h2⟩
      | some x =>
        obtain ⟨e1, e2, a, e3, e4, r1, r2, r3, r4, k2⟩ := z
        by_cases c : acc.length < 1000000
        · simp only [if_pos c] at q
          obtain ⟨e', h1, h2⟩ := lcL_sim h ds _ _ k2 xs q
          exact ⟨e', by simp [lcL, r1, r2, r3, r4, c, h1], h2⟩
        · simp only [if_neg c] at q; cases q
theorem lc_noex {φ : D → P (Option D)} : ∀ (ds acc : List D) x, P.lcL φ ds acc ≠ .ex x
  | [], acc, x => by rw [P.lcL]; exact fun h => by cases h
  | d :: ds, acc, x => by
    rw [P.lcL]
    split
    · split
      · exact lc_noex ds _ x
      · exact fun h => by cases h
    · exact lc_noex ds _ x
    · exact fun h => by cases h
/-- a value that is its own list or dict -/
def PW (Γ : List Sl) (m : M Val) (p : P D) : Prop := ∀ e, EnvOk e Γ → Sim (m e) p fun d v e' => EnvOk e' Γ ∧ v = .ow d ∧ d.obj = true
def FW {S : Type} (Γ : S → List Sl) (s : S) (m : M Val) (p : P (D × S)) : Prop := ∀ e, EnvOk e (Γ s) → Sim (m e) p fun d v e' => EnvOk e' (Γ d.2) ∧ v = .ow d.1 ∧ d.1.obj = true
theorem PW.e {m : M Val} {p : P D} (h : PW Γ m p) : PE Γ m p := fun e k => (h e k).imp fun _ _ _ z => ⟨z.1, .inr (.inl z.2)⟩
theorem FW.e {S : Type} {Γ : S → List Sl} {s : S} {m : M Val} {p : P (D × S)} (h : FW Γ s m p) : FE Γ s m p := fun e k => (h e k).imp fun _ _ _ z => ⟨z.1, .inr (.inl z.2)⟩
theorem pLc {vs : List Nat} {mi : M (List D)} {pi : P (List D)} {g : D → Env → Option Env} {mt : M Bool} {me : M Val} {φ : D → P (Option D)} (o : OwnOk Γ vs) (hi : PI_ Γ mi pi) (h : LB (wipeG Γ vs) vs g mt me φ) : PW Γ (mLc vs mi g mt me) (pi.bind fun ds => P.lc φ ds) := fun e k =>
  (hi e k).bind fun ds ds' e1 ⟨k1, r1⟩ => by
    subst r1
    unfold P.lc
    cases q : P.lcL φ ds' [] with
    | no => trivial
    | ex x => exact absurd q (lc_noex _ _ _)
    | ok xs =>
      obtain ⟨e', h1, h2⟩ := lcL_sim h ds' [] _ (wipe_ok k1 vs) xs q
      rw [h1]
      exact ⟨_, _, rfl, back_ok k1 h2 o (fun _ _ => rfl), rfl, rfl⟩
/-! two clauses -/
def P.lc2L (ψ : D → List D → P (List D)) : List D → List D → P (List D)
  | [], acc => .ok acc
  | d :: ds, acc => match ψ d acc with
    | .ok acc' => P.lc2L ψ ds acc'
    | _ => .no
def P.lc2 (ψ : D → List D → P (List D)) (ds : List D) : P D := (P.lc2L ψ ds []).bind fun xs => .ok (.lst xs)
def LB2 (Γw : List Sl) (vs vs1 : List Nat) (g : D → Env → Option Env) (mt : M Bool) (mi1 : M (List D)) (g1 : D → Env → Option Env) (mt1 : M Bool) (me : M Val) (ψ : D → List D → P (List D)) : Prop := ∀ d acc e, EnvOk e Γw → match ψ d acc with
  | .ok acc' => ∃ e1 e2, g d e = some e1 ∧ ((mt e1 = .ok false e2 ∧ acc' = acc ∧ EnvOk (wipeE e2 vs) Γw) ∨ ∃ ds1 e3 e4, mt e1 = .ok true e2 ∧ mi1 e2 = .ok ds1 e3 ∧ lcL vs1 g1 mt1 me ds1 acc (wipeE e3 vs1) = some (acc', e4) ∧ EnvOk (wipeE e4 vs) Γw)
  | _ => True
theorem lb2 {α : Type} {Γw : List Sl} {vs vs1 : List Nat} {g : D → Env → Option Env} {mt : M Bool} {mi1 : M (List D)} {g1 : D → Env → Option Env} {mt1 : M Bool} {me : M Val} {t : D → Option α} {Γ1 : α → List Sl} {pt : α → P Bool} {pi : α → P (List D)} {φ : α → D → P (Option D)}
    (h1 : TJ Γw g t Γ1) (h2 : ∀ a, PB (Γ1 a) mt (pt a)) (h3 : ∀ a, PI_ (Γ1 a) mi1 (pi a)) (h4 : ∀ a, LB (wipeG (Γ1 a) vs1) vs1 g1 mt1 me (φ a)) (hw : ∀ a, wipeG (wipeG (Γ1 a) vs1) vs = Γw) (hw2 : ∀ a, wipeG (Γ1 a) vs = Γw) :
    LB2 Γw vs vs1 g mt mi1 g1 mt1 me (fun d acc => (P.of (t d)).bind fun a => (pt a).bind fun b => if b then (pi a).bind fun ds => P.lcL (φ a) ds acc else .ok acc) := fun d acc e k => by
  dsimp only
  cases q : t d with
  | none => simp [P.of]
  | some a =>
    obtain ⟨e1, r1, k1⟩ := h1 d e k a q
    simp only [P.of, P.ok_bind]
    have z2 := h2 a e1 k1
    cases q2 : pt a with
    | no => simp
    | ex x => simp
    | ok b =>
      rw [q2] at z2
      obtain ⟨b', e2, r2, k2, rfl⟩ := z2
      cases b' with
      | false =>
        simp only [P.ok_bind]
        exact ⟨e1, e2, r1, .inl ⟨r2, rfl, by have := wipe_ok k2 vs; rwa [hw2] at this⟩⟩
      | true =>
        simp only [P.ok_bind, if_true]
        have z3 := h3 a e2 k2
        cases q3 : pi a with
        | no => simp
        | ex x => simp
        | ok ds =>
          rw [q3] at z3
          obtain ⟨ds1, e3, r3, k3, rfl⟩ := z3
          simp only [P.ok_bind]
          cases q4 : P.lcL (φ a) ds1 acc with
          | no => trivial
          | ex x => trivial
          | ok xs =>
            obtain ⟨e4, h5, k4⟩ := lcL_sim (h4 a) ds1 acc _ (wipe_ok k3 vs1) xs q4
            exact ⟨e1, e2, r1, .inr ⟨ds1, e3, e4, r2, r3, h5, by have := wipe_ok k4 vs; rwa [hw] at this⟩⟩
theorem lc2L_sim {Γw : List Sl} {vs vs1 : List Nat} {g : D → Env → Option Env} {mt : M Bool} {mi1 : M (List D)} {g1 : D → Env → Option Env} {mt1 : M Bool} {me : M Val} {ψ : D → List D → P (List D)} (h : LB2 Γw vs vs1 g mt mi1 g1 mt1 me ψ) : ∀ (ds acc : List D) (e : Env), EnvOk e Γw → ∀ xs, P.lc2L ψ ds acc = .ok xs → ∃ e', lc2L vs vs1 g mt mi1 g1 mt1 me ds acc e = some (xs, e') ∧ EnvOk e' Γw
  | [], acc, e, k, xs, q => by cases q; exact ⟨e, rfl, k⟩
  | d :: ds, acc, e, k, xs, q => by
    have z := h d acc e k
    rw [P.lc2L] at q
    cases q1 : ψ d acc with
    | no => rw [q1] at q; cases q
    | ex x => rw [q1] at q; cases q
    | ok acc' =>
      rw [q1] at q z
      obtain ⟨e1, e2, r1, z⟩ := z
      rcases z with ⟨r2, rfl, k2⟩ | ⟨ds1, e3, e4, r2, r3, r4, k2⟩
      · obtain ⟨e', h1, h2⟩ := lc2L_sim h ds _ _ k2 xs q
        exact ⟨e', by simp [lc2L, r1, r2, h1], h2⟩
      · obtain ⟨e', h1, h2⟩ := lc2L_sim h ds _ _ k2 xs q
        exact ⟨e', by simp [lc2L, r1, r2, r3, r4, h1], h2⟩
theorem lc2_noex {ψ : D → List D → P (List D)} : ∀ (ds acc : List D) x, P.lc2L ψ ds acc ≠ .ex x
  | [], acc, x => by rw [P.lc2L]; exact fun h => by cases h
  | d :: ds, acc, x => by
    rw [P.lc2L]
    split
    · exact lc2_noex ds _ x
    · exact fun h => by cases h
theorem pLc2 {vs vs1 : List Nat} {mi : M (List D)} {pi : P (List D)} {g : D → Env → Option Env} {mt : M Bool} {mi1 : M (List D)} {g1 : D → Env → Option Env} {mt1 : M Bool} {me : M Val} {ψ : D → List D → P (List D)} (o : OwnOk Γ vs) (hi : PI_ Γ mi pi) (h : LB2 (wipeG Γ vs) vs vs1 g mt mi1 g1 mt1 me ψ) : PW Γ (mLc2 vs vs1 mi g mt mi1 g1 mt1 me) (pi.bind fun ds => P.lc2 ψ ds) := fun e k =>
  (hi e k).bind fun ds ds' e1 ⟨k1, r1⟩ => by
    subst r1
    unfold P.lc2
    cases q : P.lc2L ψ ds' [] with
    | no => trivial
    | ex x => exact absurd q (lc2_noex _ _ _)
    | ok xs =>
      obtain ⟨e', h1, h2⟩ := lc2L_sim h ds' [] _ (wipe_ok k1 vs) xs q
      rw [h1]
      exact ⟨_, _, rfl, back_ok k1 h2 o (fun _ _ => rfl), rfl, rfl⟩
/-! dicts -/
def P.dcL (t : Bool) (φ : D → P (Option (D × D))) : List D → List (D × D) → P (List (D × D))
  | [], acc => .ok acc
  | d :: ds, acc => match φ d with
    | .ok (some x) => if acc.length < 1000000 then (match putD2 t acc x.1 x.2 with
      | some acc' => P.dcL t φ ds acc'
      | none => .no) else .no
    | .ok none => P.dcL t φ ds acc
    | _ => .no
def P.dc (t : Bool) (φ : D → P (Option (D × D))) (ds : List D) : P D := (P.dcL t φ ds []).bind fun xs => .ok (.dct t xs)
def LD (Γw : List Sl) (vs : List Nat) (g : D → Env → Option Env) (mt : M Bool) (mk me : M Val) (φ : D → P (Option (D × D))) : Prop := ∀ d e, EnvOk e Γw → match φ d with
  | .ok (some x) => ∃ e1 e2 b e3 e4 a e5 e6, g d e = some e1 ∧ mt e1 = .ok true e2 ∧ mk e2 = .ok b e3 ∧ esc e3 b = some (x.1, e4) ∧ me e4 = .ok a e5 ∧ esc e5 a = some (x.2, e6) ∧ EnvOk (wipeE e6 vs) Γw
  | .ok none => ∃ e1 e2, g d e = some e1 ∧ mt e1 = .ok false e2 ∧ EnvOk (wipeE e2 vs) Γw
  | _ => True
theorem ld {α : Type} {Γw : List Sl} {vs : List Nat} {g : D → Env → Option Env} {mt : M Bool} {mk me : M Val} {t : D → Option α} {Γ1 : α → List Sl} {pt : α → P Bool} {pk pe : α → P D}
    (h1 : TJ Γw g t Γ1) (h2 : ∀ a, PB (Γ1 a) mt (pt a)) (hk : ∀ a, PE (Γ1 a) mk (pk a)) (h3 : ∀ a, PE (Γ1 a) me (pe a)) (hw : ∀ a, wipeG (Γ1 a) vs = Γw) : LD Γw vs g mt mk me (fun d => (P.of (t d)).bind fun a => (pt a).bind fun b => if b then (pk a).bind fun k => (pe a).bind fun x => .ok (some (k, x)) else .ok none) := fun d e k => by
  dsimp only
  cases q : t d with
  | none => simp [P.of]
  | some a =>
    obtain ⟨e1, r1, k1⟩ := h1 d e k a q
    simp only [P.of, P.ok_bind]
    have z2 := h2 a e1 k1
    cases q2 : pt a with
    | no => simp
    | ex x => simp
    | ok b =>
      rw [q2] at z2
      obtain ⟨b', e2, r2, k2, rfl⟩ := z2
      cases b' with
      | false =>
        simp
        exact ⟨e1, r1, e2, r2, by have := wipe_ok k2 vs; rwa [hw] at this⟩
      | true =>
        simp only [P.ok_bind, if_true]
        have z3 := hk a e2 k2
        cases q3 : pk a with
        | no => simp
        | ex x => simp
        | ok y =>
          rw [q3] at z3
          obtain ⟨v, e3, r3, k3, r4⟩ := z3
          obtain ⟨e4, h4, k4⟩ := r4.esc k3
          simp only [P.ok_bind]
          have z5 := h3 a e4 k4
          cases q5 : pe a with
          | no => simp
          | ex x => simp
          | ok x =>
            rw [q5] at z5
            obtain ⟨w, e5, r5, k5, r6⟩ := z5
            obtain ⟨e6, h6, k6⟩ := r6.esc k5
            simp only [P.ok_bind]
            exact ⟨e1, e2, v, e3, e4, w, e5, e6, r1, r2, r3, h4, r5, h6, by have := wipe_ok k6 vs; rwa [hw] at this⟩
theorem dcL_sim {t : Bool} {Γw : List Sl} {vs : List Nat} {g : D → Env → Option Env} {mt : M Bool} {mk me : M Val} {φ : D → P (Option (D × D))} (h : LD Γw vs g mt mk me φ) : ∀ (ds : List D) (acc : List (D × D)) (e : Env), EnvOk e Γw → ∀ xs, P.dcL t φ ds acc = .ok xs → ∃ e', dcL t vs g mt mk me ds acc e = some (xs, e') ∧ EnvOk e' Γw
  | [], acc, e, k, xs, q => by cases q; exact ⟨e, rfl, k⟩
  | d :: ds, acc, e, k, xs, q => by
    have z := h d e k
    rw [P.dcL] at q
    cases q1 : φ d with
    | no => rw [q1] at q; cases q
    | ex x => rw [q1] at q; cases q
    | ok o =>
      rw [q1] at q z
      cases o with
      | none =>
        obtain ⟨e1, e2, r1, r2, k2⟩ := z
        obtain ⟨e', h1, h2⟩ := dcL_sim h ds acc _ k2 xs q
        exact ⟨e', by simp [dcL, r1, r2, h1], h2⟩
      | some x =>
        obtain ⟨e1, e2, b, e3, e4, a, e5, e6, r1, r2, r3, r4, r5, r6, k2⟩ := z
        by_cases c : acc.length < 1000000
        · simp only [if_pos c] at q
          cases q7 : putD2 t acc x.1 x.2 with
          | none => rw [q7] at q; cases q
          | some acc' =>
            rw [q7] at q
            obtain ⟨e', h1, h2⟩ := dcL_sim h ds _ _ k2 xs q
            exact ⟨e', by simp [dcL, r1, r2, r3, r4, r5, r6, c, q7, h1], h2⟩
        · simp only [if_neg c] at q; cases q
theorem dc_noex {t : Bool} {φ : D → P (Option (D × D))} : ∀ (ds : List D) acc x, P.dcL t φ ds acc ≠ .ex x
  | [], acc, x => by rw [P.dcL]; exact fun h => by cases h
  | d :: ds, acc, x => by
    rw [P.dcL]
    split
    · split
      · split
        · exact dc_noex ds _ x
        · exact fun h => by cases h
      · exact fun h => by cases h
    · exact dc_noex ds _ x
    · exact fun h => by cases h
theorem pDc {t : Bool} {vs : List Nat} {mi : M (List D)} {pi : P (List D)} {g : D → Env → Option Env} {mt : M Bool} {mk me : M Val} {φ : D → P (Option (D × D))} (o : OwnOk Γ vs) (hi : PI_ Γ mi pi) (h : LD (wipeG Γ vs) vs g mt mk me φ) : PW Γ (mDc t vs mi g mt mk me) (pi.bind fun ds => P.dc t φ ds) := fun e k =>
  (hi e k).bind fun ds ds' e1 ⟨k1, r1⟩ => by
    subst r1
    unfold P.dc
    cases q : P.dcL t φ ds' [] with
    | no => trivial
    | ex x => exact absurd q (dc_noex _ _ _)
    | ok xs =>
      obtain ⟨e', h1, h2⟩ := dcL_sim h ds' [] _ (wipe_ok k1 vs) xs q
      rw [h1]
      exact ⟨_, _, rfl, back_ok k1 h2 o (fun _ _ => rfl), rfl, rfl⟩
theorem wNewD {t : Bool} : PW Γ (mNewD t) (.ok (.dct t [])) := fun e k => ⟨_, _, rfl, k, rfl, rfl⟩
theorem wLst {n : M (List Val)} {q : P (List D)} (h : PA Γ n q) : PW Γ (mLst n) (q.bind P.lst) := fun e k =>
  (h e k).bind fun ds vs e1 ⟨k1, r1⟩ => by
    obtain ⟨e2, h2, k2⟩ := r1.esc k1
    rw [h2]
    unfold P.lst
    by_cases c : ds.length ≤ 1000
    · simp only [if_pos c]; exact ⟨_, _, rfl, k2, rfl, rfl⟩
    · simp only [if_neg c]; trivial
def GdO (f : List D → Option Val) : Prop := ∀ a v, f a = some v → ∃ d, v = .ow d ∧ d.obj = true
theorem wCB {f : List D → Option Val} {n : M (List Val)} {q : P (List D)} (g : GdO f) (h : PAL Γ n q) : PW Γ (mCB f n) (q.bind fun ds => P.op (f ds)) := fun e k =>
  (h e k).bind fun ds vs e1 ⟨k1, r1⟩ => by
    rw [r1.looks k1]
    refine sim_lift (β := Unit) fun v h => ⟨k1, ?_⟩
    obtain ⟨d, rfl, o⟩ := g _ _ h
    exact ⟨rfl, o⟩
end
/-! comprehensions that draw -/
section
variable {S : Type} {Γ : S → List Sl} {s : S}
def P.lcS (φ : S → D → P (Option D × S)) : List D → List D → S → P (List D × S)
  | [], acc, s => .ok (acc, s)
  | d :: ds, acc, s => match φ s d with
    | .ok (some x, s') => if acc.length < 1000000 then P.lcS φ ds (acc ++ [x]) s' else .no
    | .ok (none, s') => P.lcS φ ds acc s'
    | _ => .no
def P.lcF (φ : S → D → P (Option D × S)) (ds : List D) (s : S) : P (D × S) := (P.lcS φ ds [] s).bind fun xs => .ok (.lst xs.1, xs.2)
def LBF (Γw : S → List Sl) (vs : List Nat) (g : D → Env → Option Env) (mt : M Bool) (me : M Val) (φ : S → D → P (Option D × S)) : Prop := ∀ s d e, EnvOk e (Γw s) → match φ s d with
  | .ok (some x, s') => ∃ e1 e2 a e3 e4, g d e = some e1 ∧ mt e1 = .ok true e2 ∧ me e2 = .ok a e3 ∧ esc e3 a = some (x, e4) ∧ EnvOk (wipeE e4 vs) (Γw s')
  | .ok (none, s') => ∃ e1 e2, g d e = some e1 ∧ mt e1 = .ok false e2 ∧ EnvOk (wipeE e2 vs) (Γw s')
  | _ => True
theorem lbF {α : Type} {Γw : S → List Sl} {vs : List Nat} {g : D → Env → Option Env} {mt : M Bool} {me : M Val} {t : D → Option α} {Γ1 : α → S → List Sl} {pt : S → α → P (Bool × S)} {pe : S → α → P (D × S)}
    (h1 : ∀ s, TJ (Γw s) g t (fun a => Γ1 a s)) (h2 : ∀ s a, FB (Γ1 a) s mt (pt s a)) (h3 : ∀ s a, FE (Γ1 a) s me (pe s a)) (hw : ∀ a s, wipeG (Γ1 a s) vs = Γw s) : LBF Γw vs g mt me (fun s d => (P.of (t d)).bind fun a => (pt s a).bind fun b => if b.1 then (pe b.2 a).bind fun x => .ok (some x.1, x.2) else .ok (none, b.2)) := fun s d e k => by
  dsimp only
  cases q : t d with
  | none => simp [P.of]
  | some a =>
    obtain ⟨e1, r1, k1⟩ := h1 s d e k a q
    simp only [P.of, P.ok_bind]
    have z2 := h2 s a e1 k1
    cases q2 : pt s a with
    | no => simp
    | ex x => simp
    | ok b =>
      rw [q2] at z2
      obtain ⟨b', e2, r2, k2, rfl⟩ := z2
      obtain ⟨b, s2⟩ := b
      cases b with
      | false =>
        simp
        exact ⟨e1, r1, e2, r2, by have := wipe_ok k2 vs; rwa [hw] at this⟩
      | true =>
        simp only [P.ok_bind, if_true]
        have z3 := h3 s2 a e2 k2
        cases q3 : pe s2 a with
        | no => simp
        | ex x => simp
        | ok x =>
          rw [q3] at z3
          obtain ⟨v, e3, r3, k3, r4⟩ := z3
          obtain ⟨e4, h4, k4⟩ := r4.esc k3
          simp only [P.ok_bind]
          exact ⟨e1, e2, v, e3, e4, r1, r2, r3, h4, by have := wipe_ok k4 vs; rwa [hw] at this⟩
theorem lcS_sim {Γw : S → List Sl} {vs : List Nat} {g : D → Env → Option Env} {mt : M Bool} {me : M Val} {φ : S → D → P (Option D × S)} (h : LBF Γw vs g mt me φ) : ∀ (ds acc : List D) (s : S) (e : Env), EnvOk e (Γw s) → ∀ xs, P.lcS φ ds acc s = .ok xs → ∃ e', lcL vs g mt me ds acc e = some (xs.1, e') ∧ EnvOk e' (Γw xs.2)
  | [], acc, s, e, k, xs, q => by cases q; exact ⟨e, rfl, k⟩
  | d :: ds, acc, s, e, k, xs, q => by
    have z := h s d e k
    rw [P.lcS] at q
    cases q1 : φ s d with
    | no => rw [q1] at q; cases q
    | ex x => rw [q1] at q; cases q
    | ok o =>
      rw [q1] at q z
      obtain ⟨o, s2⟩ := o
      cases o with
      | none =>
        obtain ⟨e1, e2, r1, r2, k2⟩ := z
        obtain ⟨e', h1, h2⟩ := lcS_sim h ds acc s2 _ k2 xs q
        exact ⟨e', by simp [lcL, r1, r2, h1], h2⟩
      | some x =>
        obtain ⟨e1, e2, a, e3, e4, r1, r2, r3, r4, k2⟩ := z
        by_cases c : acc.length < 1000000
        · simp only [if_pos c] at q
          obtain ⟨e', h1, h2⟩ := lcS_sim h ds _ s2 _ k2 xs q
          exact ⟨e', by simp [lcL, r1, r2, r3, r4, c, h1], h2⟩
        · simp only [if_neg c] at q; cases q
theorem lcS_noex {φ : S → D → P (Option D × S)} : ∀ (ds acc : List D) s x, P.lcS φ ds acc s ≠ .ex x
  | [], acc, s, x => by rw [P.lcS]; exact fun h => by cases h
  | d :: ds, acc, s, x => by
    rw [P.lcS]
    split
    · split
      · exact lcS_noex ds _ _ x
      · exact fun h => by cases h
    · exact lcS_noex ds _ _ x
    · exact fun h => by cases h
theorem fLc {vs : List Nat} {mi : M (List D)} {pi : P (List D × S)} {g : D → Env → Option Env} {mt : M Bool} {me : M Val} {φ : S → D → P (Option D × S)} (o : ∀ s, OwnOk (Γ s) vs) (ho : ∀ s s', ∀ v ∈ vs, (Γ s')[v]? = (Γ s)[v]?) (hi : FI Γ s mi pi) (h : LBF (fun s => wipeG (Γ s) vs) vs g mt me φ) : FW Γ s (mLc vs mi g mt me) (pi.bind fun ds => P.lcF φ ds.1 ds.2) := fun e k =>
  (hi e k).bind fun ds ds' e1 ⟨k1, r1⟩ => by
    subst r1
    unfold P.lcF
    cases q : P.lcS φ ds.1 [] ds.2 with
    | no => trivial
    | ex x => exact absurd q (lcS_noex _ _ _ _)
    | ok xs =>
      obtain ⟨e', h1, h2⟩ := lcS_sim h ds.1 [] ds.2 _ (wipe_ok k1 vs) xs q
      rw [h1]
      exact ⟨_, _, rfl, back_ok k1 h2 (o _) (fun v m => ho _ _ v m), rfl, rfl⟩
theorem PW.f {m : M Val} {p : P D} (h : PW (Γ s) m p) : FW Γ s m (p.map fun d => (d, s)) := fun e k => (h e k).map fun _ _ _ z => z
theorem wLstF {n : M (List Val)} {q : P (List D × S)} (h : FA Γ s n q) : FW Γ s (mLst n) (q.bind fun a => (P.lst a.1).map fun d => (d, a.2)) := fun e k =>
  (h e k).bind fun a vs e1 ⟨k1, r1⟩ => by
    obtain ⟨e2, h2, k2⟩ := r1.esc k1
    rw [h2]
    unfold P.lst
    by_cases c : a.1.length ≤ 1000
    · simp only [if_pos c]; exact ⟨_, _, rfl, k2, rfl, rfl⟩
    · simp only [if_neg c]; trivial
end
end VS

/-! VU3: statements, loops, defs. -/
namespace VS
open PySem PySem.Spec PyProof.Rows L2
def T {ζ : Type} (Z : R Flw → ζ → Prop) (Γ : List Sl) (m : M Flw) (p : P ζ) : Prop := ∀ e, EnvOk e Γ → match p with
  | .ok z => Z (m e) z
  | .ex x => ∃ e', m e = .ex x e'
  | .no => True
def Znx {α : Type} (Γ' : α → List Sl) : R Flw → α → Prop := fun r a => ∃ e', r = .ok .nx e' ∧ EnvOk e' (Γ' a)
abbrev SJ {α : Type} (Γ : List Sl) (m : M Flw) (p : P α) (Γ' : α → List Sl) : Prop := T (Znx Γ') Γ m p
section
variable {α β ζ : Type} {Γ : List Sl}
theorem T.wk {Z : R Flw → ζ → Prop} {Γ' : List Sl} {m : M Flw} {p : P ζ} (w : Wk Γ Γ') (h : T Z Γ' m p) : T Z Γ m p := fun e k => h e (k.wk w)
/-- by what the code gives -/
theorem T.of_sim {γ : Type} {Z : R Flw → ζ → Prop} {m : M γ} {f : γ → M Flw} {p : P α} {q : α → P ζ} {K : α → γ → Env → Prop} (h : ∀ e, EnvOk e Γ → Sim (m e) p K)
    (k : ∀ a b e', K a b e' → match q a with
      | .ok z => Z (f b e') z
      | .ex x => ∃ e2, f b e' = .ex x e2
      | .no => True) : T Z Γ (M.bind m f) (p.bind q) := fun e ke => by
  have := h e ke
  cases p with
  | no => trivial
  | ex x =>
    obtain ⟨e', h1⟩ := this
    exact ⟨e', by unfold M.bind; rw [h1]⟩
  | ok a =>
    obtain ⟨b, e', h1, h2⟩ := this
    have := k a b e' h2
    unfold M.bind
    rw [h1]
    exact this
theorem bind_ok (p : P α) : (p.bind fun a => .ok a) = p := by cases p <;> rfl
theorem SJ.of_sim {γ : Type} {m : M γ} {f : γ → M Flw} {p : P α} {K : α → γ → Env → Prop} {Γ' : α → List Sl} (h : ∀ e, EnvOk e Γ → Sim (m e) p K) (k : ∀ a b e', K a b e' → ∃ e2, f b e' = .ok .nx e2 ∧ EnvOk e2 (Γ' a)) : SJ Γ (M.bind m f) p Γ' := by
  have := T.of_sim (Z := Znx Γ') (f := f) (q := fun a => .ok a) h fun a b e' z => k a b e' z
  rwa [bind_ok] at this
/-! in a row -/
theorem t_seq {Z : R Flw → ζ → Prop} {m n : M Flw} {p : P α} {q : α → P ζ} {Γ' : α → List Sl} (h : SJ Γ m p Γ') (k : ∀ a, T Z (Γ' a) n (q a)) : T Z Γ (sSeq m n) (p.bind q) := fun e ke => by
  have := h e ke
  cases p with
  | no => trivial
  | ex x =>
    obtain ⟨e', h1⟩ := this
    exact ⟨e', by unfold sSeq M.bind; rw [h1]⟩
  | ok a =>
    obtain ⟨e', h1, h2⟩ := this
    have := k a e' h2
    unfold sSeq M.bind
    rw [h1]
    exact this
theorem t_last {Z : R Flw → ζ → Prop} {m : M Flw} {p : P α} {q : α → P ζ} {Γ' : α → List Sl} (h : SJ Γ m p Γ') (k : ∀ a, T Z (Γ' a) sNx (q a)) : T Z Γ m (p.bind q) := fun e ke => by
  have := h e ke
  cases p with
  | no => trivial
  | ex x => exact this
  | ok a =>
    obtain ⟨e', h1, h2⟩ := this
    have := k a e' h2
    rw [P.ok_bind]
    rw [h1]
    exact this
theorem t_assoc {Z : R Flw → ζ → Prop} {a b c : M Flw} {p : P ζ} (h : T Z Γ (sSeq a (sSeq b c)) p) : T Z Γ (sSeq (sSeq a b) c) p := fun e k => by
  have : sSeq (sSeq a b) c e = sSeq a (sSeq b c) e := by
    unfold sSeq M.bind
    cases a e with
    | ok f e' => cases f <;> rfl
    | _ => rfl
  rw [this]
  exact h e k
theorem t_skip {Z : R Flw → ζ → Prop} {a : M Flw} {p : P ζ} (h : T Z Γ a p) : T Z Γ (sSeq sNx a) p := h
theorem t_if {Z : R Flw → ζ → Prop} {c : M Bool} {m n : M Flw} {pc : P Bool} {p q : P ζ} (hc : PB Γ c pc) (h1 : T Z Γ m p) (h2 : T Z Γ n q) : T Z Γ (sIf c m n) (pc.bind fun b => if b then p else q) :=
  T.of_sim hc fun a b e' z => by
    obtain ⟨k, rfl⟩ := z
    cases b with
    | true => exact h1 e' k
    | false => exact h2 e' k
theorem t_ifF {S : Type} {Γ : S → List Sl} {s : S} {Z : R Flw → ζ → Prop} {c : M Bool} {m n : M Flw} {pc : P (Bool × S)} {p q : Bool × S → P ζ} (hc : FB Γ s c pc) (h1 : ∀ a, T Z (Γ a.2) m (p a)) (h2 : ∀ a, T Z (Γ a.2) n (q a)) : T Z (Γ s) (sIf c m n) (pc.bind fun b => if b.1 then p b else q b) :=
  T.of_sim hc fun a b e' z => by
    obtain ⟨b', s'⟩ := a
    obtain ⟨k, z⟩ := z
    subst z
    cases b with
    | true => exact h1 (true, s') e' k
    | false => exact h2 (false, s') e' k
/-- what follows is done behind either way -/
theorem t_push {Z : R Flw → ζ → Prop} {c : M Bool} {m n r : M Flw} {p : P ζ} (h : T Z Γ (sIf c (sSeq m r) (sSeq n r)) p) : T Z Γ (sSeq (sIf c m n) r) p := fun e k => by
  have : sSeq (sIf c m n) r e = sIf c (sSeq m r) (sSeq n r) e := by
    unfold sSeq sIf M.bind
    cases c e with
    | ok f e' => cases f <;> rfl
    | _ => rfl
  rw [this]
  exact h e k
theorem t_cutR {Z : R Flw → ζ → Prop} {m : M Val} {r : M Flw} {p : P ζ} (h : T Z Γ (sRet m) p) : T Z Γ (sSeq (sRet m) r) p := fun e k => by
  have : sSeq (sRet m) r e = sRet m e := by
    unfold sSeq sRet M.bind M.ret
    cases m e <;> rfl
  rw [this]
  exact h e k
theorem t_cutN {Z : R Flw → ζ → Prop} {r : M Flw} {p : P ζ} (h : T Z Γ sRetN p) : T Z Γ (sSeq sRetN r) p := h
theorem t_cutX {Z : R Flw → ζ → Prop} {x : Exn} {r : M Flw} {p : P ζ} (h : T Z Γ (sRaise x) p) : T Z Γ (sSeq (sRaise x) r) p := h
theorem t_cutB {Z : R Flw → ζ → Prop} {r : M Flw} {p : P ζ} (h : T Z Γ sBk p) : T Z Γ (sSeq sBk r) p := h
theorem t_cutC {Z : R Flw → ζ → Prop} {r : M Flw} {p : P ζ} (h : T Z Γ sCt p) : T Z Γ (sSeq sCt r) p := h
theorem t_raise {Z : R Flw → ζ → Prop} (x : Exn) : T Z Γ (sRaise x) (.ex x) := fun e k => ⟨e, rfl⟩
/-! statements -/
theorem s_ex {m : M Val} {p : P D} (h : PL Γ m p) : SJ Γ (sEx m) p (fun _ => Γ) := SJ.of_sim h fun a b e' z => ⟨e', rfl, z.1⟩
theorem s_exF {S : Type} {Γ : S → List Sl} {s : S} {m : M Val} {p : P (D × S)} (h : FE Γ s m p) : SJ (Γ s) (sEx m) p (fun a => Γ a.2) := SJ.of_sim h fun a b e' z => ⟨e', rfl, z.1⟩
theorem s_set {i : Nat} {m : M Val} {p : P D} (h : PE Γ m p) {s0 : Sl} (g : Γ[i]? = some s0 := by rfl) (n : s0.nl := by trivial) : SJ Γ (sSet i m) p (fun d => Γ.set i (.v d)) :=
  SJ.of_sim h fun d v e ⟨k, r⟩ => by
    rcases r with rfl | ⟨rfl, ho⟩ | ⟨ho, j, rfl, q⟩
    · obtain ⟨e2, h2, k2⟩ := putC_ok k g n (s := .v d) (c := .sh d) (.inl rfl)
      exact ⟨e2, by simp [setC, unbw, Val.cell, h2], k2⟩
    · obtain ⟨e2, h2, k2⟩ := putC_ok k g n (s := .v d) (c := .ow d) (.inr ⟨rfl, ho⟩)
      exact ⟨e2, by simp [setC, unbw, Val.cell, h2], k2⟩
    · obtain ⟨e1, h1, k1⟩ := VE.esc (v := .bw j) (.inr (.inr ⟨ho, j, rfl, q⟩)) k
      obtain ⟨e2, h2, k2⟩ := putC_ok k1 g n (s := .v d) (c := .sh d) (.inl rfl)
      exact ⟨e2, by simp [setC, unbw, Val.cell, h1, h2], k2⟩
theorem s_setF {S : Type} {Γ : S → List Sl} {s : S} {i : Nat} {m : M Val} {p : P (D × S)} (h : FE Γ s m p) (g : ∀ s, ∃ s0, (Γ s)[i]? = some s0 ∧ s0.nl) : SJ (Γ s) (sSet i m) p (fun d => (Γ d.2).set i (.v d.1)) :=
  SJ.of_sim h fun d v e ⟨k, r⟩ => by
    obtain ⟨s0, g, n⟩ := g d.2
    rcases r with rfl | ⟨rfl, ho⟩ | ⟨ho, j, rfl, q⟩
    · obtain ⟨e2, h2, k2⟩ := putC_ok k g n (s := .v d.1) (c := .sh d.1) (.inl rfl)
      exact ⟨e2, by simp [setC, unbw, Val.cell, h2], k2⟩
    · obtain ⟨e2, h2, k2⟩ := putC_ok k g n (s := .v d.1) (c := .ow d.1) (.inr ⟨rfl, ho⟩)
      exact ⟨e2, by simp [setC, unbw, Val.cell, h2], k2⟩
    · obtain ⟨e1, h1, k1⟩ := VE.esc (v := .bw j) (.inr (.inr ⟨ho, j, rfl, q⟩)) k
      obtain ⟨e2, h2, k2⟩ := putC_ok k1 g n (s := .v d.1) (c := .sh d.1) (.inl rfl)
      exact ⟨e2, by simp [setC, unbw, Val.cell, h1, h2], k2⟩
theorem s_setO {i : Nat} {m : M Val} {p : P D} (h : PW Γ m p) {s0 : Sl} (g : Γ[i]? = some s0 := by rfl) (n : s0.nl := by trivial) : SJ Γ (sSet i m) p (fun d => Γ.set i (.o d)) :=
  SJ.of_sim h fun d v e ⟨k, r, ho⟩ => by
    subst r
    obtain ⟨e2, h2, k2⟩ := putC_ok k g n (s := .o d) (c := .ow d) ⟨rfl, ho⟩
    exact ⟨e2, by simp [setC, unbw, Val.cell, h2], k2⟩
theorem s_setOF {S : Type} {Γ : S → List Sl} {s : S} {i : Nat} {m : M Val} {p : P (D × S)} (h : FW Γ s m p) (g : ∀ s, ∃ s0, (Γ s)[i]? = some s0 ∧ s0.nl) : SJ (Γ s) (sSet i m) p (fun d => (Γ d.2).set i (.o d.1)) :=
  SJ.of_sim h fun d v e ⟨k, r, ho⟩ => by
    obtain ⟨s0, g, n⟩ := g d.2
    subst r
    obtain ⟨e2, h2, k2⟩ := putC_ok k g n (s := .o d.1) (c := .ow d.1) ⟨rfl, ho⟩
    exact ⟨e2, by simp [setC, unbw, Val.cell, h2], k2⟩
/-- a name gets its own list from a def -/
theorem s_setH {i : Nat} {F : List D → FR} {G : List D → P D} {n : M (List Val)} {q : P (List D)} (c : Call0 true F G) (h : PA Γ n q) {s0 : Sl} (g : Γ[i]? = some s0 := by rfl) (nl : s0.nl := by trivial) : SJ Γ (sSet i (mCall0 F n)) (q.bind G) (fun d => Γ.set i (.h d)) := by
  refine SJ.of_sim (K := fun d v e' => EnvOk e' Γ ∧ v = .ow d) (fun e k => ?_) fun d v e ⟨k, r⟩ => ?_
  · refine (h e k).bind fun ds vs e1 ⟨k1, r1⟩ => ?_
    obtain ⟨e2, h2, k2⟩ := r1.esc k1
    have := c ds
    rw [h2]
    simp only
    cases q : G ds with
    | ok d =>
      rw [q] at this
      obtain ⟨w, l, h3, h4⟩ := this
      rw [h3]
      exact ⟨w, e2, rfl, k2, h4⟩
    | ex x =>
      rw [q] at this
      obtain ⟨l, h3⟩ := this
      rw [h3]
      exact ⟨e2, rfl⟩
    | no => trivial
  · subst r
    obtain ⟨e2, h2, k2⟩ := putC_ok k g nl (s := .h d) (c := .ow d) rfl
    exact ⟨e2, by simp [setC, unbw, Val.cell, h2], k2⟩
theorem s_unp {g : D → Env → Option Env} {m : M Val} {p : P D} {t : D → Option α} {Γ' : α → List Sl} (h : PE Γ m p) (hg : TJ Γ g t Γ') : SJ Γ (sUnp g m) (p.bind fun d => P.of (t d)) Γ' :=
  T.of_sim h fun d v e ⟨k, r⟩ => by
    obtain ⟨e1, h1, k1⟩ := r.esc k
    cases q : t d with
    | none => simp [P.of]
    | some a =>
      obtain ⟨e2, h2, k2⟩ := hg d e1 k1 a q
      exact ⟨e2, by simp [h1, h2], k2⟩
theorem s_unpF {S : Type} {Γ : S → List Sl} {s : S} {g : D → Env → Option Env} {m : M Val} {p : P (D × S)} {t : D → Option α} {Γ' : α → S → List Sl} (h : FE Γ s m p) (hg : ∀ s, TJ (Γ s) g t (fun a => Γ' a s)) : SJ (Γ s) (sUnp g m) (p.bind fun d => (P.of (t d.1)).map fun a => (a, d.2)) (fun a => Γ' a.1 a.2) :=
  T.of_sim h fun d v e ⟨k, r⟩ => by
    obtain ⟨e1, h1, k1⟩ := r.esc k
    cases q : t d.1 with
    | none => simp [P.of]
    | some a =>
      obtain ⟨e2, h2, k2⟩ := hg d.2 d.1 e1 k1 a q
      exact ⟨e2, by simp [h1, h2], k2⟩
/-- two names at once -/
theorem s_par2 {i j : Nat} {m n : M Val} {p q : P D} (h : PE Γ m p) (h' : PE Γ n q) (gi : ∃ s0, Γ[i]? = some s0 ∧ s0.nl := by exact ⟨_, rfl, trivial⟩) (gj : ∀ x : D, ∃ s0, (Γ.set i (.v x))[j]? = some s0 ∧ s0.nl := by exact fun _ => ⟨_, rfl, trivial⟩) :
    SJ Γ (sPar [i, j] (mCons m (mCons n mNil))) (p.bind fun a => q.bind fun b => .ok (a, b)) (fun t => (Γ.set i (.v t.1)).set j (.v t.2)) := by
  have a := fun e k => (h e k).bind (f := fun a => M.bind (mCons n mNil) fun as => M.ret (a :: as)) (q := fun d => q.bind fun d' => .ok (d, d')) (K' := fun (d : D × D) vs e' => EnvOk e' Γ ∧ VEs Γ vs [d.1, d.2]) fun d v e1 ⟨k1, r1⟩ => by
    have b := (h' e1 k1).bind (f := fun a => M.bind mNil fun as => M.ret (a :: as)) (q := fun d' => .ok d') (K' := fun d' vs e' => EnvOk e' Γ ∧ VEs Γ vs [d']) fun d v e1 ⟨k1, r1⟩ => ⟨[v], e1, rfl, k1, r1, trivial⟩
    have c := b.bind (f := fun as => M.ret (v :: as)) (q := fun d' => .ok (d, d')) (K' := fun (d : D × D) vs e' => EnvOk e' Γ ∧ VEs Γ vs [d.1, d.2]) fun d' vs e1 ⟨k1, r2⟩ => ⟨_, e1, rfl, k1, r1, r2⟩
    rw [show (q.bind fun d' => P.ok d') = q by cases q <;> rfl] at c
    exact c
  refine SJ.of_sim a fun d vs e ⟨k, r⟩ => ?_
  obtain ⟨d, d'⟩ := d
  match vs, r with
  | [v, w], r =>
    obtain ⟨r1, r2, _⟩ := r
    have fx : ∀ {v : Val} {d : D} {e : Env}, EnvOk e Γ → VE Γ v d → ∃ u e', unbw e v = some (u, e') ∧ EnvOk e' Γ ∧ SlOk u.cell (.v d) := by
      intro v d e k r
      rcases r with rfl | ⟨rfl, ho⟩ | ⟨ho, j, rfl, q⟩
      · exact ⟨_, e, rfl, k, .inl rfl⟩
      · exact ⟨_, e, rfl, k, .inr ⟨rfl, ho⟩⟩
      · obtain ⟨e1, h1, k1⟩ := VE.esc (v := .bw j) (.inr (.inr ⟨ho, j, rfl, q⟩)) k
        exact ⟨.sh d, e1, by simp [unbw, h1], k1, .inl rfl⟩
    obtain ⟨u, e1, h1, k1, s1⟩ := fx k r1
    obtain ⟨u2, e2, h2, k2, s2⟩ := fx k1 r2
    obtain ⟨s0, g, n⟩ := gi
    obtain ⟨e3, h3, k3⟩ := putC_ok k2 g n s1
    obtain ⟨s0, g, n⟩ := gj d
    obtain ⟨e4, h4, k4⟩ := putC_ok k3 g n s2
    exact ⟨e4, by simp [unbws, h1, h2, putCs, h3, h4], k4⟩
theorem s_parOO {i j : Nat} {m n : M Val} {p q : P D} (h : PW Γ m p) (h' : PW Γ n q) (gi : ∃ s0, Γ[i]? = some s0 ∧ s0.nl := by exact ⟨_, rfl, trivial⟩) (gj : ∀ x : D, ∃ s0, (Γ.set i (.o x))[j]? = some s0 ∧ s0.nl := by exact fun _ => ⟨_, rfl, trivial⟩) :
    SJ Γ (sPar [i, j] (mCons m (mCons n mNil))) (p.bind fun a => q.bind fun b => .ok (a, b)) (fun t => (Γ.set i (.o t.1)).set j (.o t.2)) := by
  have a := fun e k => (h e k).bind (f := fun a => M.bind (mCons n mNil) fun as => M.ret (a :: as)) (q := fun d => q.bind fun d' => .ok (d, d')) (K' := fun (d : D × D) vs e' => EnvOk e' Γ ∧ vs = [.ow d.1, .ow d.2] ∧ d.1.obj = true ∧ d.2.obj = true) fun d v e1 ⟨k1, r1, o1⟩ => by
    have b := (h' e1 k1).bind (f := fun a => M.bind mNil fun as => M.ret (a :: as)) (q := fun d' => .ok d') (K' := fun d' vs e' => EnvOk e' Γ ∧ vs = [.ow d'] ∧ d'.obj = true) fun d v e1 ⟨k1, r1, o1⟩ => ⟨[v], e1, rfl, k1, by rw [r1], o1⟩
    have c := b.bind (f := fun as => M.ret (v :: as)) (q := fun d' => .ok (d, d')) (K' := fun (d : D × D) vs e' => EnvOk e' Γ ∧ vs = [.ow d.1, .ow d.2] ∧ d.1.obj = true ∧ d.2.obj = true) fun d' vs e1 ⟨k1, r2, o2⟩ => ⟨_, e1, rfl, k1, by rw [r1, r2], o1, o2⟩
    rw [show (q.bind fun d' => P.ok d') = q by cases q <;> rfl] at c
    exact c
  refine SJ.of_sim a fun d vs e ⟨k, r, o1, o2⟩ => ?_
  subst r
  obtain ⟨s0, g, n⟩ := gi
  obtain ⟨e3, h3, k3⟩ := putC_ok k g n (s := .o d.1) (c := .ow d.1) ⟨rfl, o1⟩
  obtain ⟨s0, g, n⟩ := gj d.1
  obtain ⟨e4, h4, k4⟩ := putC_ok k3 g n (s := .o d.2) (c := .ow d.2) ⟨rfl, o2⟩
  exact ⟨e4, by simp [unbws, unbw, putCs, Val.cell, h3, h4], k4⟩
/-- a list changed in place -/
theorem s_mut {f : List D → List D → Option (D × List D)} {n : M (List Val)} {q : P (List D)} {i : Nat} {d : D} (g : Γ[i]? = some (.o d)) (h : PA Γ n q) : SJ Γ (sEx (mMut i f n)) ((P.isl d).bind fun _ => q.bind fun a => P.mut f d a) (fun y => Γ.set i (.o y.2)) := by
  refine SJ.of_sim (K := fun y v e' => EnvOk e' (Γ.set i (.o y.2))) (fun e k => ?_) fun d v e k => ⟨e, rfl, k⟩
  obtain ⟨c, hc, rfl, ho⟩ := k.get g
  unfold mMut
  rw [hc]
  cases d with
  | lst xs =>
    show Sim (M.bind n _ e) (q.bind _) _
    refine (h e k).bind fun a vs e1 ⟨k1, r1⟩ => ?_
    obtain ⟨e2, h2, k2⟩ := r1.esc k1
    rw [h2]
    simp only
    obtain ⟨c, hc, rfl, ho⟩ := k2.get g
    rw [hc]
    show Sim (match f xs a with | some (a, ys) => _ | none => _) (match f xs a with | some (a, ys) => _ | none => _) _
    cases z3 : f xs a with
    | none => trivial
    | some t =>
      simp only [relent, hc]
      exact ⟨.sh t.1, _, rfl, k2.set ⟨rfl, rfl⟩⟩
  | _ => trivial
theorem s_mutF {S : Type} {Γ : S → List Sl} {s : S} {f : List D → List D → Option (D × List D)} {n : M (List Val)} {q : P (List D × S)} {i : Nat} {d : D} (g : ∀ s, (Γ s)[i]? = some (.o d)) (h : FA Γ s n q) : SJ (Γ s) (sEx (mMut i f n)) ((P.isl d).bind fun _ => q.bind fun a => (P.mut f d a.1).map fun y => (y.2, a.2)) (fun y => (Γ y.2).set i (.o y.1)) := by
  refine SJ.of_sim (K := fun y v e' => EnvOk e' ((Γ y.2).set i (.o y.1))) (fun e k => ?_) fun d v e k => ⟨e, rfl, k⟩
  obtain ⟨c, hc, rfl, ho⟩ := k.get (g s)
  unfold mMut
  rw [hc]
  cases d with
  | lst xs =>
    show Sim (M.bind n _ e) (q.bind _) _
    refine (h e k).bind fun a vs e1 ⟨k1, r1⟩ => ?_
    obtain ⟨e2, h2, k2⟩ := r1.esc k1
    rw [h2]
    simp only
    obtain ⟨c, hc, rfl, ho⟩ := k2.get (g a.2)
    rw [hc]
    show Sim (match f xs a.1 with | some (a, ys) => _ | none => _) ((match f xs a.1 with | some (a, ys) => _ | none => _ : P (D × D)).map _) _
    cases z3 : f xs a.1 with
    | none => trivial
    | some t =>
      simp only [relent, hc]
      exact ⟨.sh t.1, _, rfl, k2.set ⟨rfl, rfl⟩⟩
  | _ => trivial
theorem stD_obj {c k v c' : D} (h : stD c k v = some c') : c'.obj = true := by
  unfold stD at h
  split at h
  · cases q : ixN _ _ with
    | none => rw [q] at h; cases h
    | some j => rw [q] at h; cases h; rfl
  · split at h
    · cases q : keyK _ with
      | none => rw [q] at h; cases h
      | some j => rw [q] at h; cases h; rfl
    · cases h
  · split at h
    · cases q : keyT _ with
      | none => rw [q] at h; cases h
      | some j => rw [q] at h; cases h; rfl
    · cases h
  · cases h
def slc : Fin 3 → D → Sl
  | 0, d => .o d
  | 1, d => .h d
  | 2, d => .l d
/-- x[k] = v; c: how the name holds its list or dict -/
theorem s_store {i : Nat} {d : D} {mk mv : M Val} {pk pv : P D} (c : Fin 3) (g : Γ[i]? = some (slc c d)) (hk : PE Γ mk pk) (hv : PE Γ mv pv) :
    SJ Γ (sStore i mk mv) (pv.bind fun v => pk.bind fun k => P.of (stD d k v)) (fun d' => Γ.set i (slc c d')) := by
  have own : ∀ e, EnvOk e Γ → ownD e[i]? = some d := fun e k => by
    match c, g with
    | 0, g => obtain ⟨c, hc, rfl, _⟩ := k.get g; rw [hc]; rfl
    | 1, g => obtain ⟨c, hc, q⟩ := k.get g; cases q; rw [hc]; rfl
    | 2, g => obtain ⟨c, hc, q⟩ := k.get g; cases q; rw [hc]; rfl
  refine T.of_sim hv fun v b e ⟨k, r⟩ => ?_
  obtain ⟨e1, h1, k1⟩ := r.esc k
  rw [h1]
  simp only
  rw [own e1 k1]
  simp only [Option.isSome_some, if_true]
  have z := T.of_sim (Γ := Γ) (Z := Znx fun d' => Γ.set i (slc c d')) (f := stTo i v) (q := fun k => P.of (stD d k v)) hk (fun kd b e ⟨k, r⟩ => by
    obtain ⟨e2, h2, k2⟩ := r.esc k
    cases q : stD d kd v with
    | none => simp [P.of]
    | some d' =>
      simp only [P.of]
      unfold stTo
      rw [h2]
      simp only
      rw [own e2 k2]
      simp only [q]
      match c, g with
      | 0, g =>
        obtain ⟨c, hc, rfl, _⟩ := k2.get g
        simp only [relent, hc]
        exact ⟨_, rfl, k2.set ⟨rfl, stD_obj q⟩⟩
      | 1, g =>
        obtain ⟨c, hc, q⟩ := k2.get g
        cases q
        simp only [relent, hc]
        exact ⟨_, rfl, k2.set (s := .h d') rfl⟩
      | 2, g =>
        obtain ⟨c, hc, q⟩ := k2.get g
        cases q
        simp only [relent, hc]
        exact ⟨_, rfl, k2.set (s := .l d') rfl⟩) e1 k1
  exact z
/-- x += e of whole numbers -/
theorem s_aug {c : Int → Int → Bool} {o : Int → Int → Int} {i : Nat} {d : D} {m : M Val} {p : P D} (g : Γ[i]? = some (.v d) ∨ Γ[i]? = some (.s d)) (h : PL Γ m p) : SJ Γ (sAug i (fI c o) m) ((P.int d).bind fun _ => p.bind fun b => P.op (fI c o d b)) (fun d' => Γ.set i (.v d')) := fun e k => by
  cases d with
  | int n =>
    have hc : e[i]? = some (.sh (.int n)) := by
      rcases g with g | g
      · obtain ⟨c, hc, q⟩ := k.get g
        rcases q with rfl | ⟨rfl, q⟩
        · exact hc
        · cases q
      · obtain ⟨c, hc, q⟩ := k.get g
        cases q; exact hc
    rw [P.int_int, P.ok_bind]
    have := T.of_sim (Γ := Γ) (Z := Znx fun d' => Γ.set i (.v d')) (f := fun b e1 => match look e1 b with
    | some d2 => match fI c o (.int n) d2 with
      | some (.sh z) => match putC e1 i (.sh z) with
        | some e2 => .ok .nx e2
        | none => .no
      | _ => .no
    | none => .no) (q := fun b => P.op (fI c o (.int n) b)) h (fun b v e1 ⟨k1, r1⟩ => by
      rw [r1.look k1]
      cases q : fI c o (.int n) b with
      | none => trivial
      | some w =>
        obtain ⟨z, rfl⟩ : ∃ z, w = .sh z := by
          unfold fI at q
          split at q
          · split at q
            · cases q; exact ⟨_, rfl⟩
            · cases q
          · cases q
        have : ∃ s0, Γ[i]? = some s0 ∧ s0.nl := by
          rcases g with g | g
          · exact ⟨_, g, trivial⟩
          · exact ⟨_, g, trivial⟩
        obtain ⟨s0, g0, n0⟩ := this
        obtain ⟨e2, h2, k2⟩ := putC_ok k1 g0 n0 (s := .v z) (c := .sh z) (.inl rfl)
        simp only [h2, q]
        exact ⟨e2, rfl, k2⟩) e k
    unfold sAug
    rw [hc]
    exact this
  | _ => trivial
end
/-! ### loops -/
section
variable {S ρ α : Type}
def P.for (φ : S → D → P S) : S → List D → P S
  | s, [] => .ok s
  | s, d :: ds => (φ s d).bind fun s' => P.for φ s' ds
inductive Fl (S ρ : Type) where
  | nx (s : S) | bk (s : S) | rt (r : ρ)
inductive J (S ρ : Type) where
  | go (s : S) | rt (r : ρ)
def P.forJ (φ : S → D → P (Fl S ρ)) : S → List D → P (J S ρ)
  | s, [] => .ok (.go s)
  | s, d :: ds => (φ s d).bind fun f => match f with
    | .nx s' => P.forJ φ s' ds
    | .bk s' => .ok (.go s')
    | .rt r => .ok (.rt r)
def Zl (Γi : S → List Sl) (Z : R Flw → ρ → Prop) : R Flw → Fl S ρ → Prop := fun r f => match f with
  | .nx s => ∃ e', (r = .ok .nx e' ∨ r = .ok .ct e') ∧ EnvOk e' (Γi s)
  | .bk s => ∃ e', r = .ok .bk e' ∧ EnvOk e' (Γi s)
  | .rt z => (∃ a e', r = .ok (.rt a) e') ∧ Z r z
def Zj (Γi : S → List Sl) (Z : R Flw → ρ → Prop) : R Flw → J S ρ → Prop := fun r f => match f with
  | .go s => ∃ e', r = .ok .nx e' ∧ EnvOk e' (Γi s)
  | .rt z => (∃ a e', r = .ok (.rt a) e') ∧ Z r z
theorem forL_sim {Γi : S → List Sl} {g : D → Env → Option Env} {b : M Flw} {t : D → Option α} {Γt : α → S → List Sl} {φ : S → α → P S} (hg : ∀ s, TJ (Γi s) g t (fun a => Γt a s)) (hb : ∀ s a, T (Znx Γi) (Γt a s) b (φ s a)) :
    ∀ (ds : List D) (s : S), T (Znx Γi) (Γi s) (forL g b ds) (P.for (fun s d => (P.of (t d)).bind fun a => φ s a) s ds)
  | [], s => fun e k => ⟨e, rfl, k⟩
  | d :: ds, s => fun e k => by
    rw [P.for]
    cases q : t d with
    | none => simp [P.of]
    | some a =>
      obtain ⟨e1, h1, k1⟩ := hg s d e k a q
      have z := hb s a e1 k1
      simp only [P.of, P.ok_bind, forL, h1]
      cases q2 : φ s a with
      | no => trivial
      | ex x => rw [q2] at z; obtain ⟨e2, h2⟩ := z; exact ⟨e2, by rw [h2]⟩
      | ok s' =>
        rw [q2] at z
        obtain ⟨e2, h2, k2⟩ := z
        rw [h2]
        exact forL_sim hg hb ds s' e2 k2
theorem s_for {Γ : List Sl} {Γi : S → List Sl} {s0 : S} {mi : M (List D)} {pi : P (List D)} {g : D → Env → Option Env} {b : M Flw} {t : D → Option α} {Γt : α → S → List Sl} {φ : S → α → P S} (w : Wk Γ (Γi s0)) (hi : PI_ Γ mi pi) (hg : ∀ s, TJ (Γi s) g t (fun a => Γt a s)) (hb : ∀ s a, T (Znx Γi) (Γt a s) b (φ s a)) :
    SJ Γ (sFor mi g b) (pi.bind fun ds => P.for (fun s d => (P.of (t d)).bind fun a => φ s a) s0 ds) Γi :=
  T.of_sim hi fun ds ds' e ⟨k, r⟩ => by
    subst r
    exact forL_sim hg hb ds' s0 e (k.wk w)
theorem s_forF {S' : Type} {Γ : S' → List Sl} {s : S'} {Γi : S → List Sl} {s0 : S' → S} {mi : M (List D)} {pi : P (List D × S')} {g : D → Env → Option Env} {b : M Flw} {t : D → Option α} {Γt : α → S → List Sl} {φ : S → α → P S} (w : ∀ s, Wk (Γ s) (Γi (s0 s))) (hi : FI Γ s mi pi) (hg : ∀ s, TJ (Γi s) g t (fun a => Γt a s)) (hb : ∀ s a, T (Znx Γi) (Γt a s) b (φ s a)) :
    SJ (Γ s) (sFor mi g b) (pi.bind fun ds => P.for (fun s d => (P.of (t d)).bind fun a => φ s a) (s0 ds.2) ds.1) Γi :=
  T.of_sim hi fun ds ds' e ⟨k, r⟩ => by
    subst r
    exact forL_sim hg hb ds.1 (s0 ds.2) e (k.wk (w _))
theorem forJ_sim {Z : R Flw → ρ → Prop} {Γi : S → List Sl} {g : D → Env → Option Env} {b : M Flw} {t : D → Option α} {Γt : α → S → List Sl} {φ : S → α → P (Fl S ρ)} (hg : ∀ s, TJ (Γi s) g t (fun a => Γt a s)) (hb : ∀ s a, T (Zl Γi Z) (Γt a s) b (φ s a)) :
    ∀ (ds : List D) (s : S), T (Zj Γi Z) (Γi s) (forL g b ds) (P.forJ (fun s d => (P.of (t d)).bind fun a => φ s a) s ds)
  | [], s => fun e k => ⟨e, rfl, k⟩
  | d :: ds, s => fun e k => by
    rw [P.forJ]
    cases q : t d with
    | none => simp [P.of]
    | some a =>
      obtain ⟨e1, h1, k1⟩ := hg s d e k a q
      have z := hb s a e1 k1
      simp only [P.of, P.ok_bind, forL, h1]
      cases q2 : φ s a with
      | no => trivial
      | ex x => rw [q2] at z; obtain ⟨e2, h2⟩ := z; exact ⟨e2, by rw [h2]⟩
      | ok f =>
        rw [q2] at z
        cases f with
        | nx s' =>
          obtain ⟨e2, h2, k2⟩ := z
          rcases h2 with h2 | h2
          · rw [h2]; exact forJ_sim hg hb ds s' e2 k2
          · rw [h2]; exact forJ_sim hg hb ds s' e2 k2
        | bk s' =>
          obtain ⟨e2, h2, k2⟩ := z
          rw [h2]; exact ⟨e2, rfl, k2⟩
        | rt r =>
          obtain ⟨⟨v, e2, h2⟩, h3⟩ := z
          rw [h2] at h3 ⊢
          exact ⟨⟨v, e2, rfl⟩, h3⟩
theorem t_forJ {Z : R Flw → ρ → Prop} {Γ : List Sl} {Γi : S → List Sl} {s0 : S} {mi : M (List D)} {pi : P (List D)} {g : D → Env → Option Env} {b : M Flw} {t : D → Option α} {Γt : α → S → List Sl} {φ : S → α → P (Fl S ρ)} (w : Wk Γ (Γi s0)) (hi : PI_ Γ mi pi) (hg : ∀ s, TJ (Γi s) g t (fun a => Γt a s)) (hb : ∀ s a, T (Zl Γi Z) (Γt a s) b (φ s a)) :
    T (Zj Γi Z) Γ (sFor mi g b) (pi.bind fun ds => P.forJ (fun s d => (P.of (t d)).bind fun a => φ s a) s0 ds) :=
  T.of_sim hi fun ds ds' e ⟨k, r⟩ => by
    subst r
    exact forJ_sim hg hb ds' s0 e (k.wk w)
theorem t_forJF {Z : R Flw → ρ → Prop} {S' : Type} {Γ : S' → List Sl} {s : S'} {Γi : S → List Sl} {s0 : S' → S} {mi : M (List D)} {pi : P (List D × S')} {g : D → Env → Option Env} {b : M Flw} {t : D → Option α} {Γt : α → S → List Sl} {φ : S → α → P (Fl S ρ)} (w : ∀ s, Wk (Γ s) (Γi (s0 s))) (hi : FI Γ s mi pi) (hg : ∀ s, TJ (Γi s) g t (fun a => Γt a s)) (hb : ∀ s a, T (Zl Γi Z) (Γt a s) b (φ s a)) :
    T (Zj Γi Z) (Γ s) (sFor mi g b) (pi.bind fun ds => P.forJ (fun s d => (P.of (t d)).bind fun a => φ s a) (s0 ds.2) ds.1) :=
  T.of_sim hi fun ds ds' e ⟨k, r⟩ => by
    subst r
    exact forJ_sim hg hb ds.1 (s0 ds.2) e (k.wk (w _))
/-- behind a loop that may have returned -/
theorem t_seqJ {ζ : Type} {Z0 : R Flw → ρ → Prop} {Z : R Flw → ζ → Prop} {Γ : List Sl} {Γi : S → List Sl} {m n : M Flw} {p : P (J S ρ)} {q : S → P ζ} {inj : ρ → ζ} (h : T (Zj Γi Z0) Γ m p) (k : ∀ s, T Z (Γi s) n (q s)) (hz : ∀ a e' z, Z0 (.ok (.rt a) e') z → Z (.ok (.rt a) e') (inj z)) :
    T Z Γ (sSeq m n) (p.bind fun j => match j with | .go s => q s | .rt r => .ok (inj r)) := fun e ke => by
  have := h e ke
  cases p with
  | no => trivial
  | ex x =>
    obtain ⟨e', h1⟩ := this
    exact ⟨e', by unfold sSeq M.bind; rw [h1]⟩
  | ok j =>
    cases j with
    | go s =>
      obtain ⟨e', h1, h2⟩ := this
      have := k s e' h2
      unfold sSeq M.bind
      rw [h1]
      exact this
    | rt r =>
      obtain ⟨⟨a, e', h1⟩, h2⟩ := this
      show Z (sSeq m n e) (inj r)
      unfold sSeq M.bind
      rw [h1]
      rw [h1] at h2
      exact hz a e' r h2
theorem t_lastJ {ζ : Type} {Z0 : R Flw → ρ → Prop} {Z : R Flw → ζ → Prop} {Γ : List Sl} {Γi : S → List Sl} {m : M Flw} {p : P (J S ρ)} {q : S → P ζ} {inj : ρ → ζ} (h : T (Zj Γi Z0) Γ m p) (k : ∀ s, T Z (Γi s) sNx (q s)) (hz : ∀ a e' z, Z0 (.ok (.rt a) e') z → Z (.ok (.rt a) e') (inj z)) :
    T Z Γ m (p.bind fun j => match j with | .go s => q s | .rt r => .ok (inj r)) := fun e ke => by
  have := h e ke
  cases p with
  | no => trivial
  | ex x => exact this
  | ok j =>
    cases j with
    | go s =>
      obtain ⟨e', h1, h2⟩ := this
      have := k s e' h2
      rw [P.ok_bind, h1]
      exact this
    | rt r =>
      obtain ⟨⟨a, e', h1⟩, h2⟩ := this
      show Z (m e) (inj r)
      rw [h1]
      rw [h1] at h2
      exact hz a e' r h2
theorem z_id {Z : R Flw → ρ → Prop} : ∀ a e' z, Z (.ok (.rt a) e') z → Z (.ok (.rt a) e') (id z) := fun _ _ _ h => h
theorem z_rt {Γi : S → List Sl} {Z : R Flw → ρ → Prop} : ∀ a e' z, Z (.ok (.rt a) e') z → Zl Γi Z (.ok (.rt a) e') (.rt z) := fun a e' z h => ⟨⟨a, e', rfl⟩, h⟩
/-! while -/
def P.while (c : S → P Bool) (φ : S → P S) : Nat → S → P S
  | 0, _ => .no
  | n + 1, s => (c s).bind fun k => if k then (φ s).bind fun s' => P.while c φ n s' else .ok s
def P.whileJ (c : S → P Bool) (φ : S → P (Fl S ρ)) : Nat → S → P (J S ρ)
  | 0, _ => .no
  | n + 1, s => (c s).bind fun k => if k then (φ s).bind fun f => (match f with
    | .nx s' => P.whileJ c φ n s'
    | .bk s' => .ok (.go s')
    | .rt r => .ok (.rt r)) else .ok (.go s)
theorem s_while0 {Γi : S → List Sl} {c : M Bool} {b : M Flw} {pc : S → P Bool} {φ : S → P S} (hc : ∀ s, PB (Γi s) c (pc s)) (hb : ∀ s, T (Znx Γi) (Γi s) b (φ s)) : ∀ (n : Nat) (s : S), T (Znx Γi) (Γi s) (whileN c b n) (P.while pc φ n s)
  | 0, s => fun e k => trivial
  | n + 1, s => by
    unfold whileN P.while
    refine T.of_sim (hc s) fun a b' e ⟨k, r⟩ => ?_
    subst r
    cases b' with
    | false => exact ⟨e, rfl, k⟩
    | true =>
      have z := hb s e k
      simp only [if_true]
      cases q2 : φ s with
      | no => trivial
      | ex x => rw [q2] at z; obtain ⟨e2, h2⟩ := z; exact ⟨e2, by rw [h2]⟩
      | ok s' =>
        rw [q2] at z
        obtain ⟨e2, h2, k2⟩ := z
        rw [h2]
        exact s_while0 hc hb n s' e2 k2
theorem s_while {Γ : List Sl} {Γi : S → List Sl} {s0 : S} {c : M Bool} {b : M Flw} {pc : S → P Bool} {φ : S → P S} (n : Nat) (w : Wk Γ (Γi s0)) (hc : ∀ s, PB (Γi s) c (pc s)) (hb : ∀ s, T (Znx Γi) (Γi s) b (φ s)) : SJ Γ (whileN c b n) (P.while pc φ n s0) Γi := T.wk w (s_while0 hc hb n s0)
theorem t_whileJ0 {Z : R Flw → ρ → Prop} {Γi : S → List Sl} {c : M Bool} {b : M Flw} {pc : S → P Bool} {φ : S → P (Fl S ρ)} (hc : ∀ s, PB (Γi s) c (pc s)) (hb : ∀ s, T (Zl Γi Z) (Γi s) b (φ s)) : ∀ (n : Nat) (s : S), T (Zj Γi Z) (Γi s) (whileN c b n) (P.whileJ pc φ n s)
  | 0, s => fun e k => trivial
  | n + 1, s => by
    unfold whileN P.whileJ
    refine T.of_sim (hc s) fun a b' e ⟨k, r⟩ => ?_
    subst r
    cases b' with
    | false => exact ⟨e, rfl, k⟩
    | true =>
      have z := hb s e k
      simp only [if_true]
      cases q2 : φ s with
      | no => trivial
      | ex x => rw [q2] at z; obtain ⟨e2, h2⟩ := z; exact ⟨e2, by rw [h2]⟩
      | ok f =>
        rw [q2] at z
        cases f with
        | nx s' =>
          obtain ⟨e2, h2, k2⟩ := z
          rcases h2 with h2 | h2
          · rw [h2]; exact t_whileJ0 hc hb n s' e2 k2
          · rw [h2]; exact t_whileJ0 hc hb n s' e2 k2
        | bk s' =>
          obtain ⟨e2, h2, k2⟩ := z
          rw [h2]; exact ⟨e2, rfl, k2⟩
        | rt r =>
          obtain ⟨⟨v, e2, h2⟩, h3⟩ := z
          rw [h2] at h3 ⊢
          exact ⟨⟨v, e2, rfl⟩, h3⟩
theorem t_whileJ {Z : R Flw → ρ → Prop} {Γ : List Sl} {Γi : S → List Sl} {s0 : S} {c : M Bool} {b : M Flw} {pc : S → P Bool} {φ : S → P (Fl S ρ)} (n : Nat) (w : Wk Γ (Γi s0)) (hc : ∀ s, PB (Γi s) c (pc s)) (hb : ∀ s, T (Zl Γi Z) (Γi s) b (φ s)) : T (Zj Γi Z) Γ (whileN c b n) (P.whileJ pc φ n s0) := T.wk w (t_whileJ0 hc hb n s0)
/-! ends -/
theorem t_nx {Γ : List Sl} {Γi : S → List Sl} {s : S} (w : Wk Γ (Γi s)) : T (Znx Γi) Γ sNx (.ok s) := fun e k => ⟨e, rfl, k.wk w⟩
theorem t_nxL {Z : R Flw → ρ → Prop} {Γ : List Sl} {Γi : S → List Sl} {s : S} (w : Wk Γ (Γi s)) : T (Zl Γi Z) Γ sNx (.ok (.nx s)) := fun e k => ⟨e, .inl rfl, k.wk w⟩
theorem t_ctL {Z : R Flw → ρ → Prop} {Γ : List Sl} {Γi : S → List Sl} {s : S} (w : Wk Γ (Γi s)) : T (Zl Γi Z) Γ sCt (.ok (.nx s)) := fun e k => ⟨e, .inr rfl, k.wk w⟩
theorem t_bkL {Z : R Flw → ρ → Prop} {Γ : List Sl} {Γi : S → List Sl} {s : S} (w : Wk Γ (Γi s)) : T (Zl Γi Z) Γ sBk (.ok (.bk s)) := fun e k => ⟨e, rfl, k.wk w⟩
theorem t_retL {Z : R Flw → ρ → Prop} {Γ : List Sl} {Γi : S → List Sl} {m : M Val} {p : P ρ} (hz : ∀ r z, Z r z → ∃ f e', r = .ok f e') (h : T Z Γ (sRet m) p) : T (Zl Γi Z) Γ (sRet m) (p.bind fun r => .ok (.rt r)) := fun e k => by
  have := h e k
  cases p with
  | no => trivial
  | ex x => exact this
  | ok z =>
    refine ⟨?_, this⟩
    obtain ⟨f, e', q⟩ := hz _ _ this
    unfold sRet M.bind M.ret at q ⊢
    cases q2 : m e with
    | ok a e2 => exact ⟨_, _, rfl⟩
    | ex x e2 => rw [q2] at q; cases q
    | no => rw [q2] at q; cases q
end
/-! ### defs -/
section
def Zf0 (own : Bool) : R Flw → D → Prop := fun r d => (∃ v e' w, r = .ok (.rt v) e' ∧ outV e' v = some w ∧ GW own w d) ∨ (d = .non ∧ own = false ∧ ∃ e', r = .ok .nx e')
def Zf1 : R Flw → D × D → Prop := fun r d => (∃ v e' w, r = .ok (.rt v) e' ∧ outV e' v = some w ∧ GW false w d.1 ∧ lentD e' = some d.2) ∨ (d.1 = .non ∧ ∃ e', r = .ok .nx e' ∧ lentD e' = some d.2)
theorem zf0 {own : Bool} : ∀ r z, Zf0 own r z → ∃ f e', r = .ok f e' := fun r z h => by
  rcases h with ⟨v, e', w, h, _⟩ | ⟨_, _, e', h⟩
  · exact ⟨_, _, h⟩
  · exact ⟨_, _, h⟩
theorem zf1 : ∀ r z, Zf1 r z → ∃ f e', r = .ok f e' := fun r z h => by
  rcases h with ⟨v, e', w, h, _⟩ | ⟨_, e', h, _⟩
  · exact ⟨_, _, h⟩
  · exact ⟨_, _, h⟩
theorem VE.out {Γ : List Sl} {e : Env} {v : Val} {d : D} (h : VE Γ v d) (k : EnvOk e Γ) : ∃ w, outV e v = some w ∧ GW false w d := by
  rcases h with rfl | ⟨rfl, ho⟩ | ⟨ho, i, rfl, g⟩
  · exact ⟨_, rfl, .inl rfl⟩
  · exact ⟨_, rfl, .inr ⟨rfl, ho⟩⟩
  · obtain ⟨c, hc, q⟩ := k.get g
    rcases q with rfl | ⟨rfl, _⟩
    · exact ⟨.sh d, by simp [outV, hc], .inl rfl⟩
    · exact ⟨.ow d, by simp [outV, hc], .inr ⟨rfl, ho⟩⟩
theorem lent_ok {Γ : List Sl} {e : Env} {l : D} (k : EnvOk e Γ) (g : Γ[0]? = some (.l l)) : lentD e = some l := by
  obtain ⟨c, hc, q⟩ := k.get g
  cases q
  unfold lentD
  rw [hc]
variable {Γ : List Sl}
theorem t_ret0 {m : M Val} {p : P D} (h : PE Γ m p) : T (Zf0 false) Γ (sRet m) p := by
  have := T.of_sim (Z := Zf0 false) (f := fun a => M.ret (.rt a)) (q := fun d => .ok d) h fun d v e ⟨k, r⟩ => by
    obtain ⟨w, h1, h2⟩ := r.out k
    exact .inl ⟨v, e, w, rfl, h1, h2⟩
  rwa [bind_ok] at this
theorem t_ret0F {S : Type} {Γ : S → List Sl} {s : S} {m : M Val} {p : P (D × S)} (h : FE Γ s m p) : T (Zf0 false) (Γ s) (sRet m) (p.bind fun a => .ok a.1) :=
  T.of_sim (Z := Zf0 false) (f := fun a => M.ret (.rt a)) h fun d v e ⟨k, r⟩ => by
    obtain ⟨w, h1, h2⟩ := r.out k
    exact .inl ⟨v, e, w, rfl, h1, h2⟩
/-- a name's own list or dict is given back -/
theorem t_retOv {i : Nat} {d : D} (g : Γ[i]? = some (.o d) := by rfl) : T (Zf0 false) Γ (sRet (mVar i)) (.ok d) := fun e k => by
  obtain ⟨c, hc, rfl, h⟩ := k.get g
  exact .inl ⟨.bw i, e, .ow d, by simp [sRet, mVar, hc, M.bind, M.ret], by simp [outV, hc], .inr ⟨rfl, h⟩⟩
theorem t_retOo {i : Nat} {d : D} (g : Γ[i]? = some (.o d) := by rfl) : T (Zf0 true) Γ (sRet (mVar i)) (.ok d) := fun e k => by
  obtain ⟨c, hc, rfl, h⟩ := k.get g
  exact .inl ⟨.bw i, e, .ow d, by simp [sRet, mVar, hc, M.bind, M.ret], by simp [outV, hc], rfl⟩
theorem t_retW {m : M Val} {p : P D} (h : PW Γ m p) : T (Zf0 true) Γ (sRet m) p := by
  have := T.of_sim (Z := Zf0 true) (f := fun a => M.ret (.rt a)) (q := fun d => .ok d) h fun d v e ⟨k, r, _⟩ => by
    subst r
    exact .inl ⟨_, e, .ow d, rfl, rfl, rfl⟩
  rwa [bind_ok] at this
theorem t_ret0N : T (Zf0 false) Γ sRetN (.ok .non) := fun e k => .inl ⟨_, e, _, rfl, rfl, .inl rfl⟩
theorem t_end0 : T (Zf0 false) Γ sNx (.ok .non) := fun e k => .inr ⟨rfl, rfl, e, rfl⟩
theorem t_ret1 {m : M Val} {p : P D} {l : D} (h : PE Γ m p) (g : Γ[0]? = some (.l l) := by rfl) : T Zf1 Γ (sRet m) (p.bind fun d => .ok (d, l)) :=
  T.of_sim (Z := Zf1) (f := fun a => M.ret (.rt a)) h fun d v e ⟨k, r⟩ => by
    obtain ⟨w, h1, h2⟩ := r.out k
    exact .inl ⟨v, e, w, rfl, h1, h2, lent_ok k g⟩
theorem t_ret1Ov {i : Nat} {d l : D} (g : Γ[i]? = some (.o d) := by rfl) (g0 : Γ[0]? = some (.l l) := by rfl) : T Zf1 Γ (sRet (mVar i)) (.ok (d, l)) := fun e k => by
  obtain ⟨c, hc, rfl, h⟩ := k.get g
  exact .inl ⟨.bw i, e, .ow d, by simp [sRet, mVar, hc, M.bind, M.ret], by simp [outV, hc], .inr ⟨rfl, h⟩, lent_ok k g0⟩
theorem t_ret1F {S : Type} {Γ : S → List Sl} {s : S} {get : S → D} {m : M Val} {p : P (D × S)} (h : FE Γ s m p) (g : ∀ s, (Γ s)[0]? = some (.l (get s))) : T Zf1 (Γ s) (sRet m) (p.bind fun a => .ok (a.1, get a.2)) :=
  T.of_sim (Z := Zf1) (f := fun a => M.ret (.rt a)) h fun d v e ⟨k, r⟩ => by
    obtain ⟨w, h1, h2⟩ := r.out k
    exact .inl ⟨v, e, w, rfl, h1, h2, lent_ok k (g _)⟩
theorem t_end1 {l : D} (g : Γ[0]? = some (.l l) := by rfl) : T Zf1 Γ sNx (.ok (.non, l)) := fun e k => .inr ⟨rfl, e, rfl, lent_ok k g⟩
theorem t_ret1N {l : D} (g : Γ[0]? = some (.l l) := by rfl) : T Zf1 Γ sRetN (.ok (.non, l)) := fun e k => .inl ⟨_, e, _, rfl, rfl, .inl rfl, lent_ok k g⟩
def start (ds : List D) (m : Nat) : List Sl := ds.map .s ++ List.replicate m .u
theorem start_ok (ds : List D) (m : Nat) : EnvOk (ds.map .sh ++ List.replicate m .un) (start ds m) where
  len := by simp [start]
  at_ := fun i c s h1 h2 => by
    unfold start at h2
    by_cases z : i < ds.length
    · rw [List.getElem?_append_left (by simpa using z)] at h1 h2
      rw [List.getElem?_map] at h1 h2
      cases q : ds[i]? with
      | none => rw [q] at h1; cases h1
      | some d => rw [q] at h1 h2; cases h1; cases h2; rfl
    · rw [List.getElem?_append_right (by simpa using z)] at h1 h2
      obtain ⟨_, rfl⟩ := List.getElem?_eq_some_iff.mp h1
      obtain ⟨_, rfl⟩ := List.getElem?_eq_some_iff.mp h2
      simp only [List.getElem_replicate]
      rfl
theorem start1_ok (h : D) (ds : List D) (m : Nat) : EnvOk (.ln h :: (ds.map .sh ++ List.replicate m .un)) (.l h :: start ds m) where
  len := by simp [start]
  at_ := fun i c s h1 h2 => by
    cases i with
    | zero => cases h1; cases h2; rfl
    | succ i => exact (start_ok ds m).at_ i c s h1 h2
theorem fnG0 {own : Bool} {n m : Nat} {B : M Flw} {G : List D → P D} (hn : ∀ ds, ds.length ≠ n → G ds = .no) (h : ∀ ds, ds.length = n → T (Zf0 own) (start ds m) B (G ds)) : Call0 own (run0 n m B) G := fun ds => by
  by_cases c : ds.length = n
  · have z := h ds c _ (start_ok ds m)
    unfold run0
    rw [if_pos c]
    cases q : G ds with
    | no => trivial
    | ex x => rw [q] at z; obtain ⟨e', h1⟩ := z; exact ⟨_, by rw [h1]⟩
    | ok d =>
      rw [q] at z
      rcases z with ⟨v, e', w, h1, h2, h3⟩ | ⟨rfl, rfl, e', h1⟩
      · exact ⟨w, .non, by rw [h1]; simp only [h2], h3⟩
      · exact ⟨.sh .non, .non, by rw [h1], .inl rfl⟩
  · rw [hn ds c]; trivial
def P.nox {α : Type} (p : P α) : P α := match p with
  | .ok a => .ok a
  | _ => .no
@[simp] theorem P.nox_ok {α : Type} (a : α) : P.nox (.ok a) = .ok a := nr rfl
theorem fnG1 {n m : Nat} {B : M Flw} {G : D → List D → P (D × D)} (hn : ∀ h ds, ds.length ≠ n → G h ds = .no) (h : ∀ h ds, ds.length = n → T Zf1 (.l h :: start ds m) B (G h ds)) : Call1 false (run1 (n + 1) m B) (fun h ds => (G h ds).nox) := fun l ds => by
  by_cases c : ds.length = n
  · have z := h l ds c _ (start1_ok l ds m)
    unfold run1
    simp only [if_pos (show ds.length + 1 = n + 1 by omega)]
    cases q : G l ds with
    | no => trivial
    | ex x => trivial
    | ok d =>
      rw [q] at z
      rcases z with ⟨v, e', w, h1, h2, h3, h4⟩ | ⟨h0, e', h1, h2⟩
      · exact ⟨w, by rw [h1]; simp only [h2, h4], h3⟩
      · exact ⟨.sh .non, by rw [h1]; simp only [h2], .inl (by rw [h0])⟩
  · dsimp only; rw [hn l ds c]; trivial
def f1_ {α : Type} (f : D → P α) : List D → P α
  | [a] => f a
  | _ => .no
def f2_ {α : Type} (f : D → D → P α) : List D → P α
  | [a, b] => f a b
  | _ => .no
def f3_ {α : Type} (f : D → D → D → P α) : List D → P α
  | [a, b, c] => f a b c
  | _ => .no
def f4_ {α : Type} (f : D → D → D → D → P α) : List D → P α
  | [a, b, c, d] => f a b c d
  | _ => .no
def f5_ {α : Type} (f : D → D → D → D → D → P α) : List D → P α
  | [a, b, c, d, e] => f a b c d e
  | _ => .no
def f6_ {α : Type} (f : D → D → D → D → D → D → P α) : List D → P α
  | [a, b, c, d, e, g] => f a b c d e g
  | _ => .no
def f0_ {α : Type} (f : P α) : List D → P α
  | [] => f
  | _ => .no
@[simp] theorem f0_e {α : Type} (f : P α) : f0_ f [] = f := nr rfl
@[simp] theorem f1_e {α : Type} (f : D → P α) (a : D) : f1_ f [a] = f a := nr rfl
@[simp] theorem f2_e {α : Type} (f : D → D → P α) (a b : D) : f2_ f [a, b] = f a b := nr rfl
@[simp] theorem f3_e {α : Type} (f : D → D → D → P α) (a b c : D) : f3_ f [a, b, c] = f a b c := nr rfl
@[simp] theorem f4_e {α : Type} (f : D → D → D → D → P α) (a b c d : D) : f4_ f [a, b, c, d] = f a b c d := nr rfl
@[simp] theorem f5_e {α : Type} (f : D → D → D → D → D → P α) (a b c d e : D) : f5_ f [a, b, c, d, e] = f a b c d e := nr rfl
@[simp] theorem f6_e {α : Type} (f : D → D → D → D → D → D → P α) (a b c d e g : D) : f6_ f [a, b, c, d, e, g] = f a b c d e g := nr rfl
theorem n0_ {α : Type} (f : P α) (ds : List D) (h : ds.length ≠ 0) : f0_ f ds = .no := match ds, h with
  | [], h => absurd rfl h
  | _ :: _, _ => rfl
theorem n1_ {α : Type} (f : D → P α) (ds : List D) (h : ds.length ≠ 1) : f1_ f ds = .no := match ds, h with
  | [], h => rfl
  | [_], h => absurd rfl h
  | _ :: _ :: _, _ => rfl
theorem n2_ {α : Type} (f : D → D → P α) (ds : List D) (h : ds.length ≠ 2) : f2_ f ds = .no := match ds, h with
  | [], h => rfl
  | [_], h => rfl
  | [_, _], h => absurd rfl h
  | _ :: _ :: _ :: _, _ => rfl
theorem n3_ {α : Type} (f : D → D → D → P α) (ds : List D) (h : ds.length ≠ 3) : f3_ f ds = .no := match ds, h with
  | [], h => rfl
  | [_], h => rfl
  | [_, _], h => rfl
  | [_, _, _], h => absurd rfl h
  | _ :: _ :: _ :: _ :: _, _ => rfl
theorem n4_ {α : Type} (f : D → D → D → D → P α) (ds : List D) (h : ds.length ≠ 4) : f4_ f ds = .no := match ds, h with
  | [], h => rfl
  | [_], h => rfl
  | [_, _], h => rfl
  | [_, _, _], h => rfl
  | [_, _, _, _], h => absurd rfl h
  | _ :: _ :: _ :: _ :: _ :: _, _ => rfl
theorem n5_ {α : Type} (f : D → D → D → D → D → P α) (ds : List D) (h : ds.length ≠ 5) : f5_ f ds = .no := match ds, h with
  | [], h => rfl
  | [_], h => rfl
  | [_, _], h => rfl
  | [_, _, _], h => rfl
  | [_, _, _, _], h => rfl
  | [_, _, _, _, _], h => absurd rfl h
  | _ :: _ :: _ :: _ :: _ :: _ :: _, _ => rfl
theorem n6_ {α : Type} (f : D → D → D → D → D → D → P α) (ds : List D) (h : ds.length ≠ 6) : f6_ f ds = .no := match ds, h with
  | [], h => rfl
  | [_], h => rfl
  | [_, _], h => rfl
  | [_, _, _], h => rfl
  | [_, _, _, _], h => rfl
  | [_, _, _, _, _], h => rfl
  | [_, _, _, _, _, _], h => absurd rfl h
  | _ :: _ :: _ :: _ :: _ :: _ :: _ :: _, _ => rfl
end
end VS

/-! VU4: operations whose answer is no name. -/
namespace VS
open PySem PySem.Spec PyProof.Rows L2
theorem gv_sh (d : D) : GV (.sh d) := .inl ⟨d, rfl⟩
theorem gv_map {α : Type} {o : Option α} {f : α → D} {v : Val} (h : (o.map fun a => Val.sh (f a)) = some v) : GV v := by
  cases o with
  | none => cases h
  | some a => cases h; exact gv_sh _
theorem gd_fI (c : Int → Int → Bool) (o : Int → Int → Int) : Gd2 (fI c o) := fun a b v h => by
  unfold fI at h
  split at h
  · split at h
    · cases h; exact gv_sh _
    · cases h
  · cases h
theorem gd_fC (o : Int → Int → Bool) : Gd2 (fC o) := fun a b v h => by
  unfold fC at h
  split at h
  · cases h; exact gv_sh _
  · cases h
theorem gd_fAdd : Gd2 fAdd := fun a b v h => by
  unfold fAdd at h
  split at h
  · cases h; exact gv_sh _
  · split at h
    · cases h; exact gv_sh _
    · cases h
  · split at h
    · cases h; exact .inr ⟨_, rfl, rfl⟩
    · cases h
  · split at h
    · cases h; exact gv_sh _
    · cases h
  · cases h
theorem gd_fSub : Gd2 fSub := gd_fI _ _
theorem gd_fMulI : Gd2 fMulI := gd_fI _ _
theorem gd_fDiv : Gd2 fDiv := gd_fI _ _
theorem gd_fMod : Gd2 fMod := gd_fI _ _
theorem gd_fPow : Gd2 fPow := gd_fI _ _
theorem gd_fLt : Gd2 fLt := gd_fC _
theorem gd_fLe : Gd2 fLe := gd_fC _
theorem gd_fGt : Gd2 fGt := gd_fC _
theorem gd_fGe : Gd2 fGe := gd_fC _
theorem gd_if {c : Prop} [Decidable c] {d : D} {v : Val} (h : (if c then some (Val.sh d) else none) = some v) : GV v := by
  split at h
  · cases h; exact gv_sh _
  · cases h
theorem gd_fEq : Gd2 fEq := fun a b v h => gd_if h
theorem gd_fNe : Gd2 fNe := fun a b v h => gd_if h
theorem gd_fIsN : Gd2 fIsN := fun a b v h => gd_if h
theorem gd_fNotN : Gd2 fNotN := fun a b v h => gd_if h
theorem gd_fIn : Gd2 fIn := fun a b v h => gv_map h
theorem gd_fNotIn : Gd2 fNotIn := fun a b v h => gv_map h
theorem gd_fIx : Gd2 fIx := fun a b v h => by
  unfold fIx at h
  split at h
  · unfold fIxD at h
    split at h
    · cases h; exact gv_sh _
    · cases h
  · unfold fIxS at h
    split at h
    · exact gv_map (f := id) h
    · exact gv_map (f := id) h
    · exact gv_map (f := id) h
    · split at h
      · exact gv_map h
      · cases h
    · cases h
theorem gd_fNeg : Gd1 fNeg := fun a v h => by
  unfold fNeg at h
  split at h
  · cases h; exact gv_sh _
  · cases h
theorem gd_fRev : Gd1 fRev := fun a v h => by
  unfold fRev at h
  split at h
  · cases h; exact .inr ⟨_, rfl, rfl⟩
  · cases h; exact .inr ⟨_, rfl, rfl⟩
  · cases h
theorem gd_fRevA : Gd1 fRevA := fun a v h => by
  unfold fRevA at h
  split at h
  · cases h; exact .inr ⟨_, rfl, rfl⟩
  · cases h; exact .inr ⟨_, rfl, rfl⟩
  · cases h; exact gv_sh _
  · cases h
theorem gd_fLen : GdB fLen := fun a v h => by
  unfold fLen at h
  split at h
  · exact gv_map h
  · cases h
theorem gd_fAbs : GdB fAbs := fun a v h => by
  unfold fAbs at h
  split at h
  · cases h; exact gv_sh _
  · cases h
theorem gd_fInt : GdB fInt := fun a v h => by
  unfold fInt at h
  split at h
  · cases h; exact gv_sh _
  · cases h; exact gv_sh _
  · cases h
theorem gd_fIsi : GdB fIsi := fun a v h => by
  unfold fIsi at h
  split at h
  · split at h
    · exact gv_map h
    · cases h
  · cases h
theorem gd_fRepr : GdB fRepr := fun a v h => by
  unfold fRepr at h
  split at h
  · exact gd_if h
  · cases h
theorem gd_fStr : GdB fStr := fun a v h => by
  unfold fStr at h
  split at h
  · exact gd_if h
  · cases h
theorem gdO_fSortA : GdO fSortA := fun a v h => by
  unfold fSortA at h
  split at h
  · rename_i w q
    cases h
    unfold fSortK at q
    split at q
    · rename_i l
      cases z : intKeys l with
      | none => rw [z] at q; cases q
      | some ks =>
        rw [z, Option.bind_some] at q
        split at q
        · cases q; exact ⟨_, rfl, rfl⟩
        · cases q
    · cases q
  · unfold fSort at h
    split at h
    · rename_i d _
      cases z : lstD d with
      | none => rw [z] at h; cases h
      | some ks =>
        rw [z, Option.bind_some] at h
        split at h
        · cases h; exact ⟨_, rfl, rfl⟩
        · cases h
    · cases h
theorem gdO_fSortX : GdO fSortX := fun a v h => by
  unfold fSortX at h
  split at h
  · split at h
    · cases h; exact ⟨_, rfl, rfl⟩
    · cases h
  · split at h
    · cases h; exact ⟨_, rfl, rfl⟩
    · cases h
  · cases h
theorem gdO_fSortB : GdO fSortB := fun a v h => by
  unfold fSortB at h
  split at h
  · rename_i w q
    cases h
    exact gdO_fSortX _ _ q
  · exact gdO_fSortA _ _ h
theorem gdO_fList : GdO fList := fun a v h => by
  unfold fList at h
  split at h
  · rename_i d
    cases z : seqD d with
    | none => rw [z] at h; cases h
    | some ks => rw [z] at h; cases h; exact ⟨_, rfl, rfl⟩
  · cases h
theorem GdO.b {f : List D → Option Val} (h : GdO f) : GdB f := fun a v q => .inr (h a v q)
theorem gd_fSortB : GdB fSortB := gdO_fSortB.b
theorem gd_fSortA : GdB fSortA := gdO_fSortA.b
theorem gd_fList : GdB fList := gdO_fList.b
theorem gd_fTuple : GdB fTuple := fun a v h => by
  unfold fTuple at h
  split at h
  · exact gv_map h
  · cases h
theorem gd_fMax1 : GdB fMax1 := fun a v h => gv_map h
theorem gd_fMin1 : GdB fMin1 := fun a v h => gv_map h
theorem gd_fSum : GdB fSum := fun a v h => gv_map h
theorem gd_fAny : GdB fAny := fun a v h => gv_map h
theorem gd_fAll : GdB fAll := fun a v h => gv_map h
theorem gd_fMax2 : GdB fMax2 := fun a v h => by
  unfold fMax2 at h
  split at h
  · cases h; exact gv_sh _
  · cases h
theorem gd_fMin2 : GdB fMin2 := fun a v h => by
  unfold fMin2 at h
  split at h
  · cases h; exact gv_sh _
  · cases h
theorem gd_fSl : ∀ d l h v, fSl d l h = some v → GV v := fun d l h v q => by
  unfold fSl at q
  split at q
  · cases q; exact .inr ⟨_, rfl, rfl⟩
  · cases q; exact .inr ⟨_, rfl, rfl⟩
  · cases q; exact gv_sh _
  · split at q
    · cases q; exact gv_sh _
    · cases q
  · cases q
end VS

/-! VU5: the same rules where parts are known values; several names at once. -/
namespace VS
open PySem PySem.Spec PyProof.Rows L2
section
variable {Γ : List Sl} {S : Type}
theorem p2vv {f : D → D → Option Val} {ma mb : M Val} {a b : D} (g : Gd2 f) (ha : PL Γ ma (.ok a)) (hb : PL Γ mb (.ok b)) : PE Γ (m2 f ma mb) (P.op (f a b)) := p2 g ha hb
theorem p2vp {f : D → D → Option Val} {ma mb : M Val} {a : D} {pb : P D} (g : Gd2 f) (ha : PL Γ ma (.ok a)) (hb : PL Γ mb pb) : PE Γ (m2 f ma mb) (pb.bind fun b => P.op (f a b)) := p2 g ha hb
theorem p2pv {f : D → D → Option Val} {ma mb : M Val} {pa : P D} {b : D} (g : Gd2 f) (ha : PL Γ ma pa) (hb : PL Γ mb (.ok b)) : PE Γ (m2 f ma mb) (pa.bind fun a => P.op (f a b)) := p2 g ha hb
theorem p1v {f : D → Option Val} {ma : M Val} {a : D} (g : Gd1 f) (ha : PL Γ ma (.ok a)) : PE Γ (m1 f ma) (P.op (f a)) := p1 g ha
theorem paV {m : M Val} {n : M (List Val)} {d : D} {ds : List D} (h : PE Γ m (.ok d)) (h' : PA Γ n (.ok ds)) : PA Γ (mCons m n) (.ok (d :: ds)) := paCons h h'
theorem paVp {m : M Val} {n : M (List Val)} {d : D} {q : P (List D)} (h : PE Γ m (.ok d)) (h' : PA Γ n q) : PA Γ (mCons m n) (q.bind fun ds => .ok (d :: ds)) := paCons h h'
theorem paPv {m : M Val} {n : M (List Val)} {p : P D} {ds : List D} (h : PE Γ m p) (h' : PA Γ n (.ok ds)) : PA Γ (mCons m n) (p.bind fun d => .ok (d :: ds)) := paCons h h'
theorem plV {m : M Val} {n : M (List Val)} {d : D} {ds : List D} (h : PL Γ m (.ok d)) (h' : PAL Γ n (.ok ds)) : PAL Γ (mCons m n) (.ok (d :: ds)) := plCons h h'
theorem plVp {m : M Val} {n : M (List Val)} {d : D} {q : P (List D)} (h : PL Γ m (.ok d)) (h' : PAL Γ n q) : PAL Γ (mCons m n) (q.bind fun ds => .ok (d :: ds)) := plCons h h'
theorem plPv {m : M Val} {n : M (List Val)} {p : P D} {ds : List D} (h : PL Γ m p) (h' : PAL Γ n (.ok ds)) : PAL Γ (mCons m n) (p.bind fun d => .ok (d :: ds)) := plCons h h'
theorem pTupV {n : M (List Val)} {ds : List D} (h : PA Γ n (.ok ds)) : PE Γ (mTup n) (P.tup ds) := pTup h
theorem pLstV {n : M (List Val)} {ds : List D} (h : PA Γ n (.ok ds)) : PE Γ (mLst n) (P.lst ds) := pLst h
theorem wLstV {n : M (List Val)} {ds : List D} (h : PA Γ n (.ok ds)) : PW Γ (mLst n) (P.lst ds) := wLst h
theorem pCBV {f : List D → Option Val} {n : M (List Val)} {ds : List D} (g : GdB f) (h : PAL Γ n (.ok ds)) : PE Γ (mCB f n) (P.op (f ds)) := pCB g h
theorem wCBV {f : List D → Option Val} {n : M (List Val)} {ds : List D} (g : GdO f) (h : PAL Γ n (.ok ds)) : PW Γ (mCB f n) (P.op (f ds)) := wCB g h
theorem pCall0V {F : List D → FR} {G : List D → P D} {n : M (List Val)} {ds : List D} (c : Call0 false F G) (h : PA Γ n (.ok ds)) : PE Γ (mCall0 F n) (G ds) := pCall0 c h
theorem iSeqV {m : M Val} {d : D} (h : PE Γ m (.ok d)) : PI_ Γ (mSeq m) (P.seq d) := iSeq h
theorem iR1V {m : M Val} {d : D} (h : PE Γ m (.ok d)) : PI_ Γ (mR1 (mCons m mNil)) (P.range [d]) := iR1 h
theorem iEnV {m : M Val} {d : D} (h : PE Γ m (.ok d)) : PI_ Γ (mEn (mCons m mNil)) (P.enum d) := iEn h
theorem pTruV {m : M Val} {d : D} (h : PL Γ m (.ok d)) : PB Γ (mTru m) (P.of (dTru d)) := pTru h
theorem poSV {m : M Val} {d : D} (h : PE Γ m (.ok d)) : PO Γ (some m) ((P.int d).bind fun i => .ok (some i)) := poS h
theorem pTrue : PB Γ (M.ret true) (.ok true) := fun e k => ⟨_, _, rfl, k, rfl⟩
theorem fTrue {Γ : S → List Sl} {s : S} : FB Γ s (M.ret true) (.ok (true, s)) := fun e k => ⟨_, _, rfl, k, rfl⟩
theorem lb0 {α : Type} {Γw : List Sl} {vs : List Nat} {g : D → Env → Option Env} {me : M Val} {t : D → Option α} {Γ1 : α → List Sl} {pe : α → P D}
    (h1 : TJ Γw g t Γ1) (h3 : ∀ a, PE (Γ1 a) me (pe a)) (hw : ∀ a, wipeG (Γ1 a) vs = Γw) : LB Γw vs g (M.ret true) me (fun d => (P.of (t d)).bind fun a => (pe a).bind fun x => .ok (some x)) := lb h1 (fun _ => pTrue) h3 hw
theorem ld0 {α : Type} {Γw : List Sl} {vs : List Nat} {g : D → Env → Option Env} {mk me : M Val} {t : D → Option α} {Γ1 : α → List Sl} {pk pe : α → P D}
    (h1 : TJ Γw g t Γ1) (hk : ∀ a, PE (Γ1 a) mk (pk a)) (h3 : ∀ a, PE (Γ1 a) me (pe a)) (hw : ∀ a, wipeG (Γ1 a) vs = Γw) : LD Γw vs g (M.ret true) mk me (fun d => (P.of (t d)).bind fun a => (pk a).bind fun k => (pe a).bind fun x => .ok (some (k, x))) := ld h1 (fun _ => pTrue) hk h3 hw
theorem lb20 {α : Type} {Γw : List Sl} {vs vs1 : List Nat} {g : D → Env → Option Env} {mi1 : M (List D)} {g1 : D → Env → Option Env} {mt1 : M Bool} {me : M Val} {t : D → Option α} {Γ1 : α → List Sl} {pi : α → P (List D)} {φ : α → D → P (Option D)}
    (h1 : TJ Γw g t Γ1) (h3 : ∀ a, PI_ (Γ1 a) mi1 (pi a)) (h4 : ∀ a, LB (wipeG (Γ1 a) vs1) vs1 g1 mt1 me (φ a)) (hw : ∀ a, wipeG (wipeG (Γ1 a) vs1) vs = Γw) (hw2 : ∀ a, wipeG (Γ1 a) vs = Γw) :
    LB2 Γw vs vs1 g (M.ret true) mi1 g1 mt1 me (fun d acc => (P.of (t d)).bind fun a => (pi a).bind fun ds => P.lcL (φ a) ds acc) := lb2 h1 (fun _ => pTrue) h3 h4 hw hw2
theorem lbF0 {α : Type} {Γw : S → List Sl} {vs : List Nat} {g : D → Env → Option Env} {me : M Val} {t : D → Option α} {Γ1 : α → S → List Sl} {pe : S → α → P (D × S)}
    (h1 : ∀ s, TJ (Γw s) g t (fun a => Γ1 a s)) (h3 : ∀ s a, FE (Γ1 a) s me (pe s a)) (hw : ∀ a s, wipeG (Γ1 a s) vs = Γw s) : LBF Γw vs g (M.ret true) me (fun s d => (P.of (t d)).bind fun a => (pe s a).bind fun x => .ok (some x.1, x.2)) := lbF h1 (fun _ _ => fTrue) h3 hw
abbrev HoOk (Γ : S → List Sl) (vs : List Nat) : Prop := ∀ s s', ∀ v ∈ vs, (Γ s')[v]? = (Γ s)[v]?
theorem hoNil {Γ : S → List Sl} : HoOk Γ [] := fun _ _ v m => (nomatch m)
theorem hoCons {Γ : S → List Sl} {v : Nat} {vs : List Nat} (h : HoOk Γ vs) (k : ∀ s s', (Γ s')[v]? = (Γ s)[v]? := by exact fun _ _ => rfl) : HoOk Γ (v :: vs) := fun s s' w m => by
  rcases List.mem_cons.mp m with rfl | m
  · exact k s s'
  · exact h s s' w m
/-! several names at once: k: the name gets its own list -/
def slk (k : Bool) (d : D) : Sl := if k = true then .o d else .v d
def KJ (k : Bool) (Γ : List Sl) (m : M Val) (p : P D) : Prop := if k = true then PW Γ m p else PE Γ m p
def VK_ (k : Bool) (Γ : List Sl) (v : Val) (d : D) : Prop := if k = true then v = .ow d ∧ d.obj = true else VE Γ v d
theorem KJ.sim {k : Bool} {m : M Val} {p : P D} (h : KJ k Γ m p) : ∀ e, EnvOk e Γ → Sim (m e) p fun d v e' => EnvOk e' Γ ∧ VK_ k Γ v d := fun e ke => by
  cases k with
  | true => exact (show PW Γ m p from h) e ke
  | false => exact (show PE Γ m p from h) e ke
theorem VK_.unb {k : Bool} {v : Val} {d : D} {e : Env} (h : VK_ k Γ v d) (ke : EnvOk e Γ) : ∃ u e', unbw e v = some (u, e') ∧ EnvOk e' Γ ∧ SlOk u.cell (slk k d) := by
  cases k with
  | true =>
    obtain ⟨rfl, ho⟩ := (show v = .ow d ∧ d.obj = true from h)
    exact ⟨_, e, rfl, ke, ⟨rfl, ho⟩⟩
  | false =>
    rcases (show VE Γ v d from h) with rfl | ⟨rfl, ho⟩ | ⟨ho, j, rfl, q⟩
    · exact ⟨_, e, rfl, ke, .inl rfl⟩
    · exact ⟨_, e, rfl, ke, .inr ⟨rfl, ho⟩⟩
    · obtain ⟨e1, h1, k1⟩ := VE.esc (v := .bw j) (.inr (.inr ⟨ho, j, rfl, q⟩)) ke
      exact ⟨.sh d, e1, by simp [unbw, h1], k1, .inl rfl⟩
abbrev NlAt (Γ : List Sl) (i : Nat) : Prop := ∃ s0, Γ[i]? = some s0 ∧ s0.nl
theorem k2_ {k1 k2 : Bool} {i j : Nat} {m n : M Val} {p q : P D} (h : KJ k1 Γ m p) (h' : KJ k2 Γ n q) (gi : NlAt Γ i := by exact ⟨_, rfl, trivial⟩) (gj : ∀ x : D, NlAt (Γ.set i (slk k1 x)) j := by exact fun _ => ⟨_, rfl, trivial⟩) :
    SJ Γ (sPar [i, j] (mCons m (mCons n mNil))) (p.bind fun a => q.bind fun b => .ok (a, b)) (fun t => (Γ.set i (slk k1 t.1)).set j (slk k2 t.2)) := by
  have a := fun e k => (h.sim e k).bind (f := fun a => M.bind (mCons n mNil) fun as => M.ret (a :: as)) (q := fun d => q.bind fun d' => .ok (d, d')) (K' := fun (d : D × D) vs e' => EnvOk e' Γ ∧ ∃ v w, vs = [v, w] ∧ VK_ k1 Γ v d.1 ∧ VK_ k2 Γ w d.2) fun d v e1 ⟨k1, r1⟩ => by
    have b := (h'.sim e1 k1).bind (f := fun a => M.bind mNil fun as => M.ret (a :: as)) (q := fun d' => .ok d') (K' := fun d' vs e' => EnvOk e' Γ ∧ ∃ w, vs = [w] ∧ VK_ k2 Γ w d') fun d v e1 ⟨k1, r1⟩ => ⟨[v], e1, rfl, k1, v, rfl, r1⟩
    have c := b.bind (f := fun as => M.ret (v :: as)) (q := fun d' => .ok (d, d')) (K' := fun (d : D × D) vs e' => EnvOk e' Γ ∧ ∃ v w, vs = [v, w] ∧ VK_ _ Γ v d.1 ∧ VK_ k2 Γ w d.2) fun d' vs e1 ⟨k1, w, r2, r3⟩ => ⟨_, e1, rfl, k1, v, w, by rw [r2], r1, r3⟩
    rw [show (q.bind fun d' => P.ok d') = q by cases q <;> rfl] at c
    exact c
  refine SJ.of_sim a fun d vs e ⟨k, v, w, rv, r1, r2⟩ => ?_
  subst rv
  obtain ⟨u, e1, h1, k1, s1⟩ := r1.unb k
  obtain ⟨u2, e2, h2, k2, s2⟩ := r2.unb k1
  obtain ⟨s0, g, n⟩ := gi
  obtain ⟨e3, h3, k3⟩ := putC_ok k2 g n s1
  obtain ⟨s0, g, n⟩ := gj d.1
  obtain ⟨e4, h4, k4⟩ := putC_ok k3 g n s2
  exact ⟨e4, by simp [unbws, h1, h2, putCs, h3, h4], k4⟩
theorem VEs.unbs : ∀ {vs : List Val} {ds : List D} {e : Env}, VEs Γ vs ds → EnvOk e Γ → ∃ us e', unbws e vs = some (us, e') ∧ EnvOk e' Γ ∧ us.length = ds.length ∧ ∀ (i : Nat) u d, us[i]? = some u → ds[i]? = some d → SlOk u.cell (.v d)
  | [], [], e, _, k => ⟨[], e, rfl, k, rfl, fun i u d h => by simp at h⟩
  | v :: vs, d :: ds, e, h, k => by
    obtain ⟨u, e1, h1, k1, s1⟩ := VK_.unb (k := false) h.1 k
    obtain ⟨us, e2, h2, k2, l2, s2⟩ := VEs.unbs h.2 k1
    refine ⟨u :: us, e2, by simp [unbws, h1, h2], k2, by simp [l2], fun i u' d' q1 q2 => ?_⟩
    cases i with
    | zero => cases q1; cases q2; exact s1
    | succ i => exact s2 i u' d' q1 q2
  | [], _ :: _, _, h, _ => h.elim
  | _ :: _, [], _, h, _ => h.elim
def setsG : List Sl → List Nat → List D → List Sl
  | Γ, i :: is, d :: ds => setsG (Γ.set i (.v d)) is ds
  | Γ, _, _ => Γ
theorem putCsU : ∀ (is : List Nat) (us : List Val) (ds : List D) (Γ : List Sl) (e : Env), EnvOk e Γ → us.length = is.length → ds.length = is.length → (∀ (i : Nat) u d, us[i]? = some u → ds[i]? = some d → SlOk u.cell (.v d)) → (∀ i ∈ is, NlAt Γ i) → ∃ e', putCs e is us = some e' ∧ EnvOk e' (setsG Γ is ds)
  | [], [], [], Γ, e, k, _, _, _, _ => ⟨e, rfl, k⟩
  | i :: is, u :: us, d :: ds, Γ, e, k, l1, l2, h, n => by
    obtain ⟨s0, g, nl⟩ := n i List.mem_cons_self
    obtain ⟨e1, h1, k1⟩ := putC_ok k g nl (h 0 u d rfl rfl)
    obtain ⟨e2, h2, k2⟩ := putCsU is us ds (Γ.set i (.v d)) e1 k1 (by simpa using l1) (by simpa using l2) (fun j u d q1 q2 => h (j + 1) u d q1 q2) fun j m => by
      obtain ⟨s0, g, nl⟩ := n j (List.mem_cons_of_mem _ m)
      by_cases z : i = j
      · subst z
        exact ⟨.v d, by rw [List.getElem?_set_self (List.getElem?_eq_some_iff.mp g).1], trivial⟩
      · exact ⟨s0, by rw [List.getElem?_set_ne z]; exact g, nl⟩
    exact ⟨e2, by simp [putCs, h1, h2], k2⟩
  | [], _ :: _, _, _, _, _, l1, _, _, _ => by simp at l1
  | _ :: _, [], _, _, _, _, l1, _, _, _ => by simp at l1
  | [], [], _ :: _, _, _, _, _, l2, _, _ => by simp at l2
  | _ :: _, _ :: _, [], _, _, _, _, l2, _, _ => by simp at l2
theorem nlNil {Γ : List Sl} : ∀ i ∈ ([] : List Nat), NlAt Γ i := fun i m => (nomatch m)
theorem nlCons {Γ : List Sl} {i : Nat} {is : List Nat} (h : ∀ i ∈ is, NlAt Γ i) (g : NlAt Γ i := by exact ⟨_, rfl, trivial⟩) : ∀ j ∈ i :: is, NlAt Γ j := fun j m => by
  rcases List.mem_cons.mp m with rfl | m
  · exact g
  · exact h j m
theorem kN_ {is : List Nat} {n : M (List Val)} {q : P (List D)} (h : PA Γ n q) (nl : ∀ i ∈ is, NlAt Γ i) : SJ Γ (sPar is n) (q.bind fun ds => if ds.length = is.length then .ok ds else .no) (fun ds => setsG Γ is ds) :=
  T.of_sim h fun ds vs e ⟨k, r⟩ => by
    by_cases c : ds.length = is.length
    · rw [if_pos c]
      obtain ⟨us, e1, h1, k1, l1, s1⟩ := r.unbs k
      obtain ⟨e2, h2, k2⟩ := putCsU is us ds Γ e1 k1 (by omega) c s1 nl
      exact ⟨e2, by simp [h1, h2], k2⟩
    · rw [if_neg c]; trivial
theorem SJ.map {α β : Type} {m : M Flw} {p : P α} {Γ' : α → List Sl} {Γ2 : β → List Sl} {f : α → β} (h : SJ Γ m p Γ') (k : ∀ a, Γ' a = Γ2 (f a)) : SJ Γ m (p.map f) Γ2 := fun e ke => by
  have := h e ke
  cases p with
  | no => trivial
  | ex x => exact this
  | ok a => obtain ⟨e', h1, h2⟩ := this; exact ⟨e', h1, by rw [← k]; exact h2⟩
theorem k3_ {i j l : Nat} {m n o : M Val} {p q r : P D} (h : PE Γ m p) (h' : PE Γ n q) (h'' : PE Γ o r) (nl : ∀ x ∈ [i, j, l], NlAt Γ x) :
    SJ Γ (sPar [i, j, l] (mCons m (mCons n (mCons o mNil)))) (p.bind fun a => q.bind fun b => r.bind fun c => .ok (a, b, c)) (fun t => ((Γ.set i (.v t.1)).set j (.v t.2.1)).set l (.v t.2.2)) := fun e ke => by
  have := kN_ (paCons h (paCons h' (paCons h'' paNil))) nl e ke
  cases p with
  | no => trivial
  | ex x => exact this
  | ok a => cases q with
    | no => trivial
    | ex x => exact this
    | ok b => cases r with
      | no => trivial
      | ex x => exact this
      | ok c => exact this
theorem k4_ {i j l k : Nat} {m n o o' : M Val} {p q r s : P D} (h : PE Γ m p) (h' : PE Γ n q) (h'' : PE Γ o r) (h3 : PE Γ o' s) (nl : ∀ x ∈ [i, j, l, k], NlAt Γ x) :
    SJ Γ (sPar [i, j, l, k] (mCons m (mCons n (mCons o (mCons o' mNil))))) (p.bind fun a => q.bind fun b => r.bind fun c => s.bind fun d => .ok (a, b, c, d)) (fun t => (((Γ.set i (.v t.1)).set j (.v t.2.1)).set l (.v t.2.2.1)).set k (.v t.2.2.2)) := fun e ke => by
  have := kN_ (paCons h (paCons h' (paCons h'' (paCons h3 paNil)))) nl e ke
  cases p with
  | no => trivial
  | ex x => exact this
  | ok a => cases q with
    | no => trivial
    | ex x => exact this
    | ok b => cases r with
      | no => trivial
      | ex x => exact this
      | ok c => cases s with
        | no => trivial
        | ex x => exact this
        | ok d => exact this
theorem s_parF2 {Γ : S → List Sl} {s : S} {i j : Nat} {n : M (List Val)} {q : P (List D × S)} (h : FA Γ s n q) (nl : ∀ s, ∀ x ∈ [i, j], NlAt (Γ s) x) :
    SJ (Γ s) (sPar [i, j] n) (q.bind fun a => (f2_ (fun x y => .ok ((x, y), a.2)) a.1 : P ((D × D) × S))) (fun t => ((Γ t.2).set i (.v t.1.1)).set j (.v t.1.2)) :=
  T.of_sim h fun ds vs e ⟨k, r⟩ => by
    obtain ⟨ds, s'⟩ := ds
    match ds with
    | [a, b] =>
      obtain ⟨us, e1, h1, k1, l1, s1⟩ := r.unbs k
      obtain ⟨e2, h2, k2⟩ := putCsU [i, j] us [a, b] (Γ s') e1 k1 (by simpa using l1) rfl s1 (nl s')
      exact ⟨e2, by simp [h1, h2], k2⟩
    | [] => trivial
    | [_] => trivial
    | _ :: _ :: _ :: _ => trivial
end
end VS

/-! VU6: shorter forms for the generator. -/
namespace VS
open PySem PySem.Spec PyProof.Rows L2
section
variable {S ρ ζ : Type} {Γ : S → List Sl} {s : S}
theorem PE.fV {m : M Val} {d : D} (h : PE (Γ s) m (.ok d)) : FE Γ s m (.ok (d, s)) := PE.f h
theorem PQ.fV {m : M Val} {d : D} (h : PQ (Γ s) m (.ok d)) : FQ Γ s m (.ok (d, s)) := PQ.f h
theorem PA.fV {m : M (List Val)} {d : List D} (h : PA (Γ s) m (.ok d)) : FA Γ s m (.ok (d, s)) := PA.f h
theorem fCall1V {F : List D → FR} {G : D → List D → P (D × D)} {n : M (List Val)} {ds : List D} {i : Nat} {get : S → D} {put : S → D → S} (b : Bool) (cl : Cel Γ i (if b = true then .l else .h) get put) (c : Call1 false F G) (h : PA (Γ s) n (.ok ds)) :
    FE Γ s (mCall1 F (mCons (mVar i) n)) ((G (get s) ds).map fun y => (y.1, put s y.2)) := fCall1 b cl c (PA.fV h)
theorem map_id {α : Type} (p : P α) : (p.map fun y => y) = p := by cases p <;> rfl
theorem fCall1D {Γ : D → List Sl} {s : D} {F : List D → FR} {G : D → List D → P (D × D)} {n : M (List Val)} {q : P (List D × D)} {i : Nat} (b : Bool) (cl : Cel Γ i (if b = true then .l else .h) (fun s => s) (fun _ d => d)) (c : Call1 false F G) (h : FA Γ s n q) :
    FE Γ s (mCall1 F (mCons (mVar i) n)) (q.bind fun a => G a.2 a.1) := by
  have := fCall1 b cl c h
  simp only [show ∀ p : P (D × D), (p.map fun y => (y.1, y.2)) = p from fun p => by cases p <;> rfl] at this
  exact this
theorem fCall1DV {Γ : D → List Sl} {s : D} {F : List D → FR} {G : D → List D → P (D × D)} {n : M (List Val)} {ds : List D} {i : Nat} (b : Bool) (cl : Cel Γ i (if b = true then .l else .h) (fun s => s) (fun _ d => d)) (c : Call1 false F G) (h : PA (Γ s) n (.ok ds)) :
    FE Γ s (mCall1 F (mCons (mVar i) n)) (G s ds) := fCall1D b cl c (PA.fV h)
theorem s_mutV {Γ : List Sl} {f : List D → List D → Option (D × List D)} {n : M (List Val)} {ds : List D} {i : Nat} {d : D} (g : Γ[i]? = some (.o d)) (h : PA Γ n (.ok ds)) : SJ Γ (sEx (mMut i f n)) (P.mut f d ds) (fun y => Γ.set i (.o y.2)) := by
  have := s_mut (f := f) g h
  cases d with
  | lst xs => exact this
  | _ => exact fun e k => trivial
def P.j (q : S → P ζ) (inj : ρ → ζ) : J S ρ → P ζ
  | .go s => q s
  | .rt r => .ok (inj r)
@[simp] theorem P.j_go (q : S → P ζ) (inj : ρ → ζ) (s : S) : P.j q inj (.go s) = q s := nr rfl
@[simp] theorem P.j_rt (q : S → P ζ) (inj : ρ → ζ) (r : ρ) : P.j q inj (.rt r) = .ok (inj r) := nr rfl
theorem t_sJ {Z0 : R Flw → ρ → Prop} {Z : R Flw → ζ → Prop} {Γ : List Sl} {Γi : S → List Sl} {m n : M Flw} {p : P (J S ρ)} {q : S → P ζ} {inj : ρ → ζ} (hz : ∀ a e' z, Z0 (.ok (.rt a) e') z → Z (.ok (.rt a) e') (inj z)) (h : T (Zj Γi Z0) Γ m p) (k : ∀ s, T Z (Γi s) n (q s)) :
    T Z Γ (sSeq m n) (p.bind (P.j q inj)) := t_seqJ h k hz
theorem t_lJ {Z0 : R Flw → ρ → Prop} {Z : R Flw → ζ → Prop} {Γ : List Sl} {Γi : S → List Sl} {m : M Flw} {p : P (J S ρ)} {q : S → P ζ} {inj : ρ → ζ} (hz : ∀ a e' z, Z0 (.ok (.rt a) e') z → Z (.ok (.rt a) e') (inj z)) (h : T (Zj Γi Z0) Γ m p) (k : ∀ s, T Z (Γi s) sNx (q s)) :
    T Z Γ m (p.bind (P.j q inj)) := t_lastJ h k hz
theorem t_retOh {Γ : List Sl} {i : Nat} {d : D} (g : Γ[i]? = some (.h d) := by rfl) : T (Zf0 true) Γ (sRet (mVar i)) (.ok d) := fun e k => by
  obtain ⟨c, hc, q⟩ := k.get g
  cases q
  exact .inl ⟨.bw i, e, .ow d, by simp [sRet, mVar, hc, M.bind, M.ret], by simp [outV, hc], rfl⟩
end
end VS

/-! VY: a shown text tells the data; things that can be shown. -/
namespace VS
open PySem PySem.Spec PyProof.Rows L2
def letter (c : Nat) : Bool := (65 ≤ c && c ≤ 90) || (97 ≤ c && c ≤ 122)
mutual
def pl : PyData → Bool
  | .none => true
  | .bool _ => true
  | .int _ => true
  | .str x => x.cps.toList.all letter
  | .list xs => plAll xs
  | .tuple xs => plAll xs
  | .dict kvs => kvs.isEmpty
def plAll : List PyData → Bool
  | [] => true
  | x :: xs => pl x && plAll xs
end
abbrev cs (x : Str) : List Nat := x.cps.toList
theorem cs_app (a b : Str) : cs (a ++ b) = cs a ++ cs b := cps_toList_append a b
theorem cs_ext {a b : Str} (h : cs a = cs b) : a = b := by
  cases a with
  | mk x => cases b with
    | mk y =>
      have : x = y := Array.ext' h
      subst this; rfl
theorem print_letter : ∀ c < 128, letter c = true → Builtin.Str.reprChar 39 c = [c] := by decide +kernel
theorem letter_lt {c : Nat} (h : letter c = true) : c < 128 ∧ 65 ≤ c := by
  unfold letter at h
  simp at h
  omega
theorem fold_letters : ∀ (l : List Nat) (acc : Array Nat), l.all letter = true → (l.foldl (fun out c => out ++ (Builtin.Str.reprChar 39 c).toArray) acc).toList = acc.toList ++ l
  | [], acc, _ => by simp
  | c :: l, acc, h => by
    rw [List.all_cons, Bool.and_eq_true] at h
    rw [List.foldl_cons, fold_letters l _ h.2, print_letter c (letter_lt h.1).1 h.1]
    simp
theorem quote_letters {x : Str} (h : (cs x).all letter = true) : reprQuote x = 39 := by
  have : ∀ c ∈ cs x, letter c = true := List.all_eq_true.mp h
  have n : x.cps.contains 39 = false := by
    rw [← Bool.not_eq_true]
    intro z
    rw [Array.contains_iff_mem] at z
    have := this 39 (Array.mem_toList_iff.mpr z)
    exact absurd this (by decide)
  unfold reprQuote
  rw [n]; rfl
theorem repr_letters {x : Str} (h : (cs x).all letter = true) : cs (reprText x) = 39 :: (cs x ++ [39]) := by
  unfold reprText
  show (Array.push _ _).toList = _
  rw [quote_letters h, Array.toList_push, ← Array.foldl_toList, fold_letters _ _ h]
  simp
/-! whole numbers -/
def isDg (c : Nat) : Bool := 48 ≤ c && c ≤ 57
def dg (n : Nat) : List Nat := (Nat.toDigits 10 n).map Char.toNat
theorem dg_dig {n c : Nat} (h : c ∈ dg n) : isDg c = true := by
  obtain ⟨d, hd, rfl⟩ := List.mem_map.mp h
  have := Nat.isDigit_of_mem_toDigits (by decide) (by decide) hd
  unfold Char.isDigit at this
  simp at this
  have a : 48 ≤ d.val.toNat := this.1
  have b : d.val.toNat ≤ 57 := this.2
  show (decide (48 ≤ d.val.toNat) && decide (d.val.toNat ≤ 57)) = true
  rw [decide_eq_true a, decide_eq_true b]; rfl
theorem dg_ne (n : Nat) : dg n ≠ [] := fun h => Nat.toDigits_ne_nil (List.map_eq_nil_iff.mp h)
theorem toNat_inj : ∀ {a b : List Char}, a.map Char.toNat = b.map Char.toNat → a = b
  | [], [], _ => rfl
  | [], _ :: _, h => by cases h
  | _ :: _, [], h => by cases h
  | x :: xs, y :: ys, h => by
    rw [List.map_cons, List.map_cons] at h
    injection h with h1 h2
    rw [toNat_inj h2]
    congr 1
    exact Char.ext (UInt32.toNat_inj.mp h1)
theorem dg_inj {m n : Nat} (h : dg m = dg n) : m = n := by
  have := toNat_inj h
  rw [← Nat.ofDigitChars_ten_toDigits (n := m), this, Nat.ofDigitChars_ten_toDigits]
theorem cs_int (i : Int) : cs (PyData.int i).shown = if i < 0 then 45 :: dg i.natAbs else dg i.natAbs := by
  rw [PyData.shown]
  show cs (Str.ofString (toString i)) = _
  unfold cs
  rw [signs_ofString]
  show (Int.repr i).toList.map Char.toNat = _
  cases i with
  | ofNat n =>
    rw [if_neg (by simp)]
    show (Nat.repr n).toList.map Char.toNat = _
    rw [Nat.toList_repr]; rfl
  | negSucc n =>
    rw [if_pos (Int.negSucc_lt_zero n)]
    show (("-" : String) ++ Nat.repr (n + 1)).toList.map Char.toNat = _
    rw [String.toList_append, Nat.toList_repr, List.map_append]; rfl
/-- what follows a datum: nothing, or a sign that none begins or goes on with -/
def Dl (r : List Nat) : Prop := r = [] ∨ ∃ c t, r = c :: t ∧ (c = 44 ∨ c = 41 ∨ c = 93)
theorem run_inj : ∀ {a b r s : List Nat}, (∀ c ∈ a, isDg c = true) → (∀ c ∈ b, isDg c = true) → Dl r → Dl s → a ++ r = b ++ s → a = b ∧ r = s
  | [], [], r, s, _, _, _, _, h => ⟨rfl, h⟩
  | [], y :: ys, r, s, _, hb, hr, _, h => by
    exfalso
    rw [List.nil_append] at h
    have d := hb y List.mem_cons_self
    rcases hr with rfl | ⟨c, t, rfl, hc⟩
    · simp at h
    · rw [List.cons_append] at h
      injection h with h1 h2
      subst h1
      unfold isDg at d
      rcases hc with rfl | rfl | rfl <;> simp at d
  | x :: xs, [], r, s, ha, _, _, hs, h => by
    exfalso
    rw [List.nil_append] at h
    have d := ha x List.mem_cons_self
    rcases hs with rfl | ⟨c, t, rfl, hc⟩
    · simp at h
    · rw [List.cons_append] at h
      injection h with h1 h2
      subst h1
      unfold isDg at d
      rcases hc with rfl | rfl | rfl <;> simp at d
  | x :: xs, y :: ys, r, s, ha, hb, hr, hs, h => by
    rw [List.cons_append, List.cons_append] at h
    injection h with h1 h2
    obtain ⟨e1, e2⟩ := run_inj (fun c m => ha c (List.mem_cons_of_mem _ m)) (fun c m => hb c (List.mem_cons_of_mem _ m)) hr hs h2
    exact ⟨by rw [h1, e1], e2⟩
/-! the texts -/
def tailL : List PyData → List Nat
  | [] => []
  | d :: ds => 44 :: 32 :: (cs d.shown ++ tailL ds)
def seqL : List PyData → List Nat
  | [] => []
  | d :: ds => cs d.shown ++ tailL ds
theorem textFrom_cs : ∀ (ds : List PyData) (k : Nat) (acc : Str), cs (textFrom (k + 1) acc (PyData.shownAll ds)) = cs acc ++ tailL ds
  | [], k, acc => by rw [PyData.shownAll, textFrom, tailL, List.append_nil]
  | d :: ds, k, acc => by
    rw [PyData.shownAll, textFrom, textFrom_cs ds, if_pos (by omega), tailL, cs_app, cs_app]
    show cs acc ++ [44, 32] ++ cs d.shown ++ tailL ds = _
    simp
theorem cs_list (ds : List PyData) : cs (PyData.list ds).shown = 91 :: (seqL ds ++ [93]) := by
  rw [PyData.shown]
  unfold listText
  rw [cs_app]
  cases ds with
  | nil => rfl
  | cons d ds =>
    rw [PyData.shownAll, textFrom, textFrom_cs ds 0, seqL, cs_app, cs_app]
    show [91] ++ [] ++ cs d.shown ++ tailL ds ++ [93] = _
    simp
theorem join_cs : ∀ (d : PyData) (ds : List PyData), cs (Str.join ", " (PyData.shownAll (d :: ds))) = cs d.shown ++ tailL ds
  | d, [] => by rw [PyData.shownAll, PyData.shownAll, join_one, tailL, List.append_nil]
  | d, e :: ds => by
    rw [PyData.shownAll, PyData.shownAll, join_cons_cons, cs_app, cs_app, tailL]
    have := join_cs e ds
    rw [PyData.shownAll] at this
    rw [this]
    show cs d.shown ++ [44, 32] ++ _ = _
    simp
theorem shownAll_len : ∀ ds : List PyData, (PyData.shownAll ds).length = ds.length
  | [] => rfl
  | d :: ds => by rw [PyData.shownAll, List.length_cons, shownAll_len ds, List.length_cons]
def tupEnd (n : Nat) : List Nat := if n = 1 then [44, 41] else [41]
theorem cs_tuple (ds : List PyData) : cs (PyData.tuple ds).shown = 40 :: (seqL ds ++ tupEnd ds.length) := by
  rw [PyData.shown]
  unfold tupleText
  rw [cs_app, cs_app, shownAll_len]
  have e : cs ((if (ds.length == 1) = true then ",)" else ")" : String) : Str) = tupEnd ds.length := by
    unfold tupEnd
    by_cases h : ds.length = 1
    · rw [if_pos (by simpa using h), if_pos h]; rfl
    · rw [if_neg (by simpa using h), if_neg h]; rfl
  rw [e]
  cases ds with
  | nil => rfl
  | cons d ds =>
    rw [join_cs, seqL]
    show [40] ++ (cs d.shown ++ tailL ds) ++ _ = _
    simp
theorem dl_tail (ds : List PyData) {r : List Nat} (c : Nat) (t : List Nat) (hc : c = 44 ∨ c = 41 ∨ c = 93) (h : r = c :: t) : Dl (tailL ds ++ r) := by
  cases ds with
  | nil => exact .inr ⟨c, t, h, hc⟩
  | cons d ds => exact .inr ⟨44, _, rfl, .inl rfl⟩
theorem dg_ge {c : Nat} (h : isDg c = true) : 48 ≤ c ∧ c ≤ 57 := by
  unfold isDg at h
  simpa using h
/-- how a datum begins -/
def kc (c : Nat) : Nat := if c = 78 then 0 else if c = 84 then 1 else if c = 70 then 2 else if c = 39 then 4 else if c = 91 then 5 else if c = 40 then 6 else if c = 123 then 7 else 3
def kcode : PyData → Nat
  | .none => 0
  | .bool b => if b then 1 else 2
  | .int _ => 3
  | .str _ => 4
  | .list _ => 5
  | .tuple _ => 6
  | .dict _ => 7
theorem kc_dg {c : Nat} (h : isDg c = true) : kc c = 3 := by
  have := dg_ge h
  unfold kc
  repeat rw [if_neg (by omega)]
theorem first (d : PyData) (h : pl d = true) : ∃ c t, cs d.shown = c :: t ∧ kc c = kcode d ∧ c ≠ 93 ∧ c ≠ 41 ∧ c ≠ 44 := by
  cases d with
  | none => exact ⟨78, _, rfl, rfl, by decide, by decide, by decide⟩
  | bool b => cases b <;> exact ⟨_, _, rfl, rfl, by decide, by decide, by decide⟩
  | int i =>
    rw [cs_int]
    by_cases n : i < 0
    · rw [if_pos n]; exact ⟨45, _, rfl, rfl, by decide, by decide, by decide⟩
    · rw [if_neg n]
      cases q : dg i.natAbs with
      | nil => exact absurd q (dg_ne _)
      | cons c t =>
        have d := dg_dig (n := i.natAbs) (c := c) (by rw [q]; exact List.mem_cons_self)
        have := dg_ge d
        exact ⟨c, t, rfl, kc_dg d, by omega, by omega, by omega⟩
  | str x => rw [PyData.shown, repr_letters (by rw [pl] at h; exact h)]; exact ⟨39, _, rfl, rfl, by decide, by decide, by decide⟩
  | list xs => rw [cs_list]; exact ⟨91, _, rfl, rfl, by decide, by decide, by decide⟩
  | tuple xs => rw [cs_tuple]; exact ⟨40, _, rfl, rfl, by decide, by decide, by decide⟩
  | dict kvs =>
    rw [pl] at h
    cases kvs with
    | nil => exact ⟨123, _, rfl, rfl, by decide, by decide, by decide⟩
    | cons _ _ => cases h
theorem str_inj : ∀ {a b r s : List Nat}, a.all letter = true → b.all letter = true → a ++ (39 :: r) = b ++ (39 :: s) → a = b ∧ r = s
  | [], [], r, s, _, _, h => by simpa using h
  | [], y :: ys, r, s, _, hb, h => by
    rw [List.nil_append, List.cons_append] at h
    injection h with h1 _
    rw [List.all_cons, Bool.and_eq_true] at hb
    have := letter_lt hb.1
    omega
  | x :: xs, [], r, s, ha, _, h => by
    rw [List.nil_append, List.cons_append] at h
    injection h with h1 _
    rw [List.all_cons, Bool.and_eq_true] at ha
    have := letter_lt ha.1
    omega
  | x :: xs, y :: ys, r, s, ha, hb, h => by
    rw [List.cons_append, List.cons_append] at h
    injection h with h1 h2
    rw [List.all_cons, Bool.and_eq_true] at ha hb
    obtain ⟨e1, e2⟩ := str_inj ha.2 hb.2 h2
    exact ⟨by rw [h1, e1], e2⟩
theorem kind_eq {a b : PyData} {r s : List Nat} (ha : pl a = true) (hb : pl b = true) (h : cs a.shown ++ r = cs b.shown ++ s) : kcode a = kcode b := by
  obtain ⟨c, t, e1, k1, _⟩ := first a ha
  obtain ⟨c', t', e2, k2, _⟩ := first b hb
  rw [e1, e2, List.cons_append, List.cons_append] at h
  injection h with h1 _
  subst h1
  rw [← k1, k2]
/-- if two data are of other kinds, they begin otherwise -/
theorem kind_ne {a b : PyData} {r s : List Nat} (ha : pl a = true) (hb : pl b = true) (h : cs a.shown ++ r = cs b.shown ++ s) : (match a, b with
    | .none, .none => True
    | .bool x, .bool y => x = y
    | .int _, .int _ => True
    | .str _, .str _ => True
    | .list _, .list _ => True
    | .tuple _, .tuple _ => True
    | .dict _, .dict _ => True
    | _, _ => False) := by
  have k := kind_eq ha hb h
  cases a <;> cases b <;> simp only [kcode] at k ⊢ <;> first
    | omega
    | (rename_i x y; cases x <;> cases y <;> simp at k ⊢)
    | (rename_i x; cases x <;> simp at k)
    | (rename_i x y; cases x <;> simp at k)
    | (rename_i x y; cases y <;> simp at k)
mutual
theorem sh_inj : ∀ (a b : PyData) (r s : List Nat), pl a = true → pl b = true → Dl r → Dl s → cs a.shown ++ r = cs b.shown ++ s → a = b ∧ r = s
  | .none, b, r, s, ha, hb, hr, hs, h => by
    have k := kind_ne ha hb h
    cases b with
    | none => exact ⟨rfl, List.append_cancel_left h⟩
    | _ => exact k.elim
  | .bool x, b, r, s, ha, hb, hr, hs, h => by
    have k := kind_ne ha hb h
    cases b with
    | bool y =>
      have k : x = y := k
      rw [k] at h ⊢
      exact ⟨rfl, List.append_cancel_left h⟩
    | _ => exact k.elim
  | .int i, b, r, s, ha, hb, hr, hs, h => by
    have k := kind_ne ha hb h
    cases b with
    | int j =>
      rw [cs_int, cs_int] at h
      have nd : ∀ (n : Nat) (u v : List Nat), 45 :: u = dg n ++ v → False := fun n u v e => by
        cases q : dg n with
        | nil => exact dg_ne _ q
        | cons c t =>
          rw [q, List.cons_append] at e
          injection e with e1 _
          have := dg_ge (dg_dig (n := n) (c := c) (by rw [q]; exact List.mem_cons_self))
          omega
      by_cases n1 : i < 0
      · by_cases n2 : j < 0
        · rw [if_pos n1, if_pos n2, List.cons_append, List.cons_append] at h
          injection h with _ h
          obtain ⟨e1, e2⟩ := run_inj (fun c m => dg_dig m) (fun c m => dg_dig m) hr hs h
          have := dg_inj e1
          exact ⟨by congr 1; omega, e2⟩
        · rw [if_pos n1, if_neg n2, List.cons_append] at h
          exact (nd _ _ _ h).elim
      · by_cases n2 : j < 0
        · rw [if_neg n1, if_pos n2, List.cons_append] at h
          exact (nd _ _ _ h.symm).elim
        · rw [if_neg n1, if_neg n2] at h
          obtain ⟨e1, e2⟩ := run_inj (fun c m => dg_dig m) (fun c m => dg_dig m) hr hs h
          have := dg_inj e1
          exact ⟨by congr 1; omega, e2⟩
    | _ => exact k.elim
  | .str x, b, r, s, ha, hb, hr, hs, h => by
    have k := kind_ne ha hb h
    cases b with
    | str y =>
      rw [pl] at ha hb
      rw [PyData.shown, PyData.shown, repr_letters ha, repr_letters hb, List.cons_append, List.cons_append] at h
      injection h with _ h
      rw [List.append_assoc, List.append_assoc] at h
      obtain ⟨e1, e2⟩ := str_inj ha hb h
      exact ⟨by rw [cs_ext e1], e2⟩
    | _ => exact k.elim
  | .list xs, b, r, s, ha, hb, hr, hs, h => by
    have k := kind_ne ha hb h
    cases b with
    | list ys =>
      rw [pl] at ha hb
      rw [cs_list, cs_list, List.cons_append, List.cons_append] at h
      injection h with _ h
      rw [List.append_assoc, List.append_assoc] at h
      obtain ⟨e1, e2⟩ := seq_inj xs ys [93] [93] r s ha hb (.inl ⟨rfl, rfl⟩) h
      exact ⟨by rw [e1], e2⟩
    | _ => exact k.elim
  | .tuple xs, b, r, s, ha, hb, hr, hs, h => by
    have k := kind_ne ha hb h
    cases b with
    | tuple ys =>
      rw [pl] at ha hb
      rw [cs_tuple, cs_tuple, List.cons_append, List.cons_append] at h
      injection h with _ h
      rw [List.append_assoc, List.append_assoc] at h
      obtain ⟨e1, e2⟩ := seq_inj xs ys _ _ r s ha hb (.inr ⟨rfl, rfl⟩) h
      exact ⟨by rw [e1], e2⟩
    | _ => exact k.elim
  | .dict kvs, b, r, s, ha, hb, hr, hs, h => by
    have k := kind_ne ha hb h
    cases b with
    | dict kvs' =>
      rw [pl] at ha hb
      cases kvs with
      | cons _ _ => cases ha
      | nil => cases kvs' with
        | cons _ _ => cases hb
        | nil => exact ⟨rfl, List.append_cancel_left h⟩
    | _ => exact k.elim
theorem seq_inj : ∀ (xs ys : List PyData) (E E' r s : List Nat), plAll xs = true → plAll ys = true → (E = [93] ∧ E' = [93] ∨ E = tupEnd xs.length ∧ E' = tupEnd ys.length) → seqL xs ++ (E ++ r) = seqL ys ++ (E' ++ s) → xs = ys ∧ r = s
  | [], [], E, E', r, s, _, _, e, h => by
    refine ⟨rfl, ?_⟩
    rcases e with ⟨rfl, rfl⟩ | ⟨rfl, rfl⟩
    · simpa [seqL] using h
    · simpa [seqL, tupEnd] using h
  | [], y :: ys, E, E', r, s, _, hb, e, h => by
    exfalso
    rw [plAll, Bool.and_eq_true] at hb
    obtain ⟨c, t, e1, _, k1, k2, k3⟩ := first y hb.1
    rw [seqL, seqL, List.nil_append, e1] at h
    rcases e with ⟨rfl, rfl⟩ | ⟨rfl, rfl⟩
    · simp at h; omega
    · simp [tupEnd] at h; omega
  | x :: xs, [], E, E', r, s, ha, _, e, h => by
    exfalso
    rw [plAll, Bool.and_eq_true] at ha
    obtain ⟨c, t, e1, _, k1, k2, k3⟩ := first x ha.1
    rw [seqL, seqL, List.nil_append, e1] at h
    rcases e with ⟨rfl, rfl⟩ | ⟨rfl, rfl⟩
    · simp at h; omega
    · simp [tupEnd] at h; omega
  | x :: xs, y :: ys, E, E', r, s, ha, hb, e, h => by
    rw [plAll, Bool.and_eq_true] at ha hb
    rw [seqL, seqL, List.append_assoc, List.append_assoc] at h
    have d1 : ∀ (zs : List PyData) (F u : List Nat) (n : Nat), (F = [93] ∨ F = tupEnd n) → Dl (tailL zs ++ (F ++ u)) := fun zs F u n hF => by
      rcases hF with rfl | rfl
      · exact dl_tail zs 93 u (.inr (.inr rfl)) rfl
      · unfold tupEnd
        split
        · exact dl_tail zs 44 (41 :: u) (.inl rfl) rfl
        · exact dl_tail zs 41 u (.inr (.inl rfl)) rfl
    obtain ⟨e1, e2⟩ := sh_inj x y _ _ ha.1 hb.1 (d1 xs E r (xs.length + 1) (by rcases e with ⟨rfl, _⟩ | ⟨rfl, _⟩; exact .inl rfl; exact .inr rfl)) (d1 ys E' s (ys.length + 1) (by rcases e with ⟨_, rfl⟩ | ⟨_, rfl⟩; exact .inl rfl; exact .inr rfl)) h
    obtain ⟨e3, e4⟩ := tail_inj 0 xs ys E E' r s ha.2 hb.2 (by rcases e with e | ⟨rfl, rfl⟩; exact .inl e; exact .inr ⟨by rw [List.length_cons]; congr 1; omega, by rw [List.length_cons]; congr 1; omega⟩) e2
    exact ⟨by rw [e1, e3], e4⟩
theorem tail_inj : ∀ (k : Nat) (xs ys : List PyData) (E E' r s : List Nat), plAll xs = true → plAll ys = true → (E = [93] ∧ E' = [93] ∨ E = tupEnd (k + 1 + xs.length) ∧ E' = tupEnd (k + 1 + ys.length)) → tailL xs ++ (E ++ r) = tailL ys ++ (E' ++ s) → xs = ys ∧ r = s
  | k, [], [], E, E', r, s, _, _, e, h => by
    refine ⟨rfl, ?_⟩
    rcases e with ⟨rfl, rfl⟩ | ⟨rfl, rfl⟩
    · simpa [tailL] using h
    · simpa [tailL] using h
  | k, [], y :: ys, E, E', r, s, _, _, e, h => by
    exfalso
    rcases e with ⟨rfl, rfl⟩ | ⟨rfl, rfl⟩
    · simp [tailL] at h
    · unfold tupEnd at h; split at h <;> split at h <;> simp [tailL] at h
  | k, x :: xs, [], E, E', r, s, _, _, e, h => by
    exfalso
    rcases e with ⟨rfl, rfl⟩ | ⟨rfl, rfl⟩
    · simp [tailL] at h
    · unfold tupEnd at h; split at h <;> split at h <;> simp [tailL] at h
  | k, x :: xs, y :: ys, E, E', r, s, ha, hb, e, h => by
    rw [plAll, Bool.and_eq_true] at ha hb
    rw [tailL, tailL, List.cons_append, List.cons_append, List.cons_append, List.cons_append] at h
    injection h with _ h
    injection h with _ h
    rw [List.append_assoc, List.append_assoc] at h
    have d1 : ∀ (zs : List PyData) (F u : List Nat) (n : Nat), (F = [93] ∨ F = tupEnd n) → Dl (tailL zs ++ (F ++ u)) := fun zs F u n hF => by
      rcases hF with rfl | rfl
      · exact dl_tail zs 93 u (.inr (.inr rfl)) rfl
      · unfold tupEnd
        split
        · exact dl_tail zs 44 (41 :: u) (.inl rfl) rfl
        · exact dl_tail zs 41 u (.inr (.inl rfl)) rfl
    obtain ⟨e1, e2⟩ := sh_inj x y _ _ ha.1 hb.1 (d1 xs E r _ (by rcases e with ⟨rfl, _⟩ | ⟨rfl, _⟩; exact .inl rfl; exact .inr rfl)) (d1 ys E' s _ (by rcases e with ⟨_, rfl⟩ | ⟨_, rfl⟩; exact .inl rfl; exact .inr rfl)) h
    have e' : E = [93] ∧ E' = [93] ∨ E = tupEnd (k + 1 + 1 + xs.length) ∧ E' = tupEnd (k + 1 + 1 + ys.length) := by
      rcases e with e | ⟨rfl, rfl⟩
      · exact .inl e
      · exact .inr ⟨by rw [List.length_cons]; congr 1; omega, by rw [List.length_cons]; congr 1; omega⟩
    obtain ⟨e3, e4⟩ := tail_inj (k + 1) xs ys E E' r s ha.2 hb.2 e' e2
    exact ⟨by rw [e1, e3], e4⟩
end
end VS

/-! VW: what plain operations give; loops by what they keep. -/
namespace VS
open PySem PySem.Spec PyProof.Rows L2
@[simp] theorem dec_iff (p : Prop) : (dec p = true) = p := propext ⟨of_dec, dec_true⟩
@[simp] theorem dec_iff' (p : Prop) : (dec p = false) = ¬ p := propext ⟨fun h q => (by rw [dec_true q] at h; cases h), dec_false⟩
@[simp] theorem dec_True : dec True = true := dec_true trivial
@[simp] theorem dec_False : dec False = false := dec_false id
@[simp] theorem oq_add (i j : Int) : P.op (fAdd (.int i) (.int j)) = .ok (.int (i + j)) := nr rfl
@[simp] theorem oq_sub (i j : Int) : P.op (fSub (.int i) (.int j)) = .ok (.int (i - j)) := nr rfl
@[simp] theorem oq_neg (i : Int) : P.op (fNeg (.int i)) = .ok (.int (-i)) := nr rfl
theorem oq_mul {i j : Int} (h : -1000000000000000000 ≤ i ∧ i ≤ 1000000000000000000) : P.op (fMulI (.int i) (.int j)) = .ok (.int (i * j)) := by rw [fMulI_l h]; rfl
theorem oq_mul' {i j : Int} (h : -1000000000000000000 ≤ j ∧ j ≤ 1000000000000000000) : P.op (fMulI (.int i) (.int j)) = .ok (.int (i * j)) := by rw [fMulI_r h]; rfl
theorem oq_div {i j : Int} (h : 0 < j ∧ j ≤ 1000000000) : P.op (fDiv (.int i) (.int j)) = .ok (.int (i / j)) := by rw [fDiv_ok h]; rfl
theorem oq_mod {i j : Int} (h : 0 < j) : P.op (fMod (.int i) (.int j)) = .ok (.int (i % j)) := by rw [fMod_ok h]; rfl
theorem oq_pow {i j : Int} (h : (0 ≤ j ∧ j ≤ 1000000) ∧ i.natAbs < 1000000000000000000) : P.op (fPow (.int i) (.int j)) = .ok (.int (i ^ j.toNat)) := by rw [fPow_ok h]; rfl
@[simp] theorem oq_lt (i j : Int) : P.op (fLt (.int i) (.int j)) = .ok (.bl (dec (i < j))) := nr rfl
@[simp] theorem oq_le (i j : Int) : P.op (fLe (.int i) (.int j)) = .ok (.bl (dec (i ≤ j))) := nr rfl
@[simp] theorem oq_gt (i j : Int) : P.op (fGt (.int i) (.int j)) = .ok (.bl (dec (j < i))) := nr rfl
@[simp] theorem oq_ge (i j : Int) : P.op (fGe (.int i) (.int j)) = .ok (.bl (dec (j ≤ i))) := nr rfl
@[simp] theorem oq_eq (i j : Int) : P.op (fEq (.int i) (.int j)) = .ok (.bl (i == j)) := by rw [fEq_int]; rfl
@[simp] theorem oq_ne (i j : Int) : P.op (fNe (.int i) (.int j)) = .ok (.bl (!(i == j))) := by rw [fNe_int]; rfl
@[simp] theorem oq_len_tup (ds : List D) : P.op (fLen [.tup ds]) = .ok (.int ds.length) := nr rfl
@[simp] theorem oq_len_lst (ds : List D) : P.op (fLen [.lst ds]) = .ok (.int ds.length) := nr rfl
@[simp] theorem oq_len_fl (ds : List D) : P.op (fLen [.fl ds]) = .ok (.int ds.length) := nr rfl
@[simp] theorem oq_len_dct (t : Bool) (l : List (D × D)) : P.op (fLen [.dct t l]) = .ok (.int l.length) := nr rfl
@[simp] theorem oq_abs (i : Int) : P.op (fAbs [.int i]) = .ok (.int (if i < 0 then -i else i)) := nr rfl
@[simp] theorem oq_int (i : Int) : P.op (fInt [.int i]) = .ok (.int i) := nr rfl
@[simp] theorem oq_int_bl (b : Bool) : P.op (fInt [.bl b]) = .ok (.int (if b = true then 1 else 0)) := nr rfl
@[simp] theorem oq_list_lst (ds : List D) : P.op (fList [.lst ds]) = .ok (.lst ds) := nr rfl
@[simp] theorem oq_list_tup (ds : List D) : P.op (fList [.tup ds]) = .ok (.lst ds) := nr rfl
@[simp] theorem oq_tuple_lst (ds : List D) : P.op (fTuple [.lst ds]) = .ok (.tup ds) := nr rfl
@[simp] theorem oq_tuple_tup (ds : List D) : P.op (fTuple [.tup ds]) = .ok (.tup ds) := nr rfl
@[simp] theorem oq_rev_lst (ds : List D) : P.op (fRevA (.lst ds)) = .ok (.lst ds.reverse) := nr rfl
@[simp] theorem oq_rev_tup (ds : List D) : P.op (fRevA (.tup ds)) = .ok (.tup ds.reverse) := nr rfl
theorem oq_add_tup {xs ys : List D} (h : xs.length + ys.length ≤ 1000000) : P.op (fAdd (.tup xs) (.tup ys)) = .ok (.tup (xs ++ ys)) := by show P.op (if _ then _ else _) = _; rw [if_pos h]; rfl
theorem oq_add_lst {xs ys : List D} (h : xs.length + ys.length ≤ 1000000) : P.op (fAdd (.lst xs) (.lst ys)) = .ok (.lst (xs ++ ys)) := by show P.op (if _ then _ else _) = _; rw [if_pos h]; rfl
theorem P.tup_ok {ds : List D} (h : ds.length ≤ 1000) : P.tup ds = .ok (.tup ds) := by unfold P.tup; rw [if_pos h]
theorem P.lst_ok {ds : List D} (h : ds.length ≤ 1000) : P.lst ds = .ok (.lst ds) := by unfold P.lst; rw [if_pos h]
@[simp] theorem tup0 : P.tup [] = .ok (.tup []) := nr rfl
@[simp] theorem tup1 (a : D) : P.tup [a] = .ok (.tup [a]) := nr rfl
@[simp] theorem tup2 (a b : D) : P.tup [a, b] = .ok (.tup [a, b]) := nr rfl
@[simp] theorem tup3 (a b c : D) : P.tup [a, b, c] = .ok (.tup [a, b, c]) := nr rfl
@[simp] theorem tup4 (a b c d : D) : P.tup [a, b, c, d] = .ok (.tup [a, b, c, d]) := nr rfl
@[simp] theorem tup5 (a b c d e : D) : P.tup [a, b, c, d, e] = .ok (.tup [a, b, c, d, e]) := nr rfl
@[simp] theorem lst0 : P.lst [] = .ok (.lst []) := nr rfl
@[simp] theorem lst1 (a : D) : P.lst [a] = .ok (.lst [a]) := nr rfl
@[simp] theorem lst2 (a b : D) : P.lst [a, b] = .ok (.lst [a, b]) := nr rfl
@[simp] theorem lst3 (a b c : D) : P.lst [a, b, c] = .ok (.lst [a, b, c]) := nr rfl
@[simp] theorem lst4 (a b c d : D) : P.lst [a, b, c, d] = .ok (.lst [a, b, c, d]) := nr rfl
@[simp] theorem lst5 (a b c d e : D) : P.lst [a, b, c, d, e] = .ok (.lst [a, b, c, d, e]) := nr rfl
@[simp] theorem lst6 (a b c d e f : D) : P.lst [a, b, c, d, e, f] = .ok (.lst [a, b, c, d, e, f]) := nr rfl
theorem ix_tupI {ds : List D} {i : Int} {n : Nat} {d : D} (e : i = (n : Int)) (h : ds[n]? = some d) : P.op (fIx (.tup ds) (.int i)) = .ok d := by
  subst e
  show P.op ((atI ds (n : Int)).map Val.sh) = _
  rw [atI_nat' h]; rfl
@[simp] theorem ix_tup_0 (a0 : D) (r : List D) : P.op (fIx (.tup (a0 :: r)) (.int 0)) = .ok a0 := ix_tupI (n := 0) rfl rfl
@[simp] theorem ix_tup_1 (a0 a1 : D) (r : List D) : P.op (fIx (.tup (a0 :: a1 :: r)) (.int 1)) = .ok a1 := ix_tupI (n := 1) rfl rfl
@[simp] theorem ix_tup_2 (a0 a1 a2 : D) (r : List D) : P.op (fIx (.tup (a0 :: a1 :: a2 :: r)) (.int 2)) = .ok a2 := ix_tupI (n := 2) rfl rfl
@[simp] theorem ix_tup_3 (a0 a1 a2 a3 : D) (r : List D) : P.op (fIx (.tup (a0 :: a1 :: a2 :: a3 :: r)) (.int 3)) = .ok a3 := ix_tupI (n := 3) rfl rfl
@[simp] theorem ix_tup_4 (a0 a1 a2 a3 a4 : D) (r : List D) : P.op (fIx (.tup (a0 :: a1 :: a2 :: a3 :: a4 :: r)) (.int 4)) = .ok a4 := ix_tupI (n := 4) rfl rfl
@[simp] theorem ix_tup_5 (a0 a1 a2 a3 a4 a5 : D) (r : List D) : P.op (fIx (.tup (a0 :: a1 :: a2 :: a3 :: a4 :: a5 :: r)) (.int 5)) = .ok a5 := ix_tupI (n := 5) rfl rfl
theorem ix_tup {ds : List D} {i : Nat} {d : D} (h : ds[i]? = some d) : P.op (fIx (.tup ds) (.int (i : Int))) = .ok d := by
  show P.op ((atI ds (i : Int)).map Val.sh) = _
  rw [atI_nat' h]; rfl
theorem ix_tup_last {ds : List D} {d : D} (h : ds.getLast? = some d) : P.op (fIx (.tup ds) (.int (-1))) = .ok d := by
  show P.op ((atI ds (-1)).map Val.sh) = _
  rw [atI_last h]; rfl
theorem ix_tup_map {α : Type} {f : α → D} {xs : List α} {i : Nat} (h : i < xs.length) : P.op (fIx (.tup (xs.map f)) (.int (i : Int))) = .ok (f xs[i]) := ix_tup (by rw [List.getElem?_map, List.getElem?_eq_getElem h]; rfl)
theorem ix_lstI {ds : List D} {i : Int} {n : Nat} {d : D} (e : i = (n : Int)) (h : ds[n]? = some d) : P.op (fIx (.lst ds) (.int i)) = .ok d := by
  subst e
  show P.op ((atI ds (n : Int)).map Val.sh) = _
  rw [atI_nat' h]; rfl
@[simp] theorem ix_lst_0 (a0 : D) (r : List D) : P.op (fIx (.lst (a0 :: r)) (.int 0)) = .ok a0 := ix_lstI (n := 0) rfl rfl
@[simp] theorem ix_lst_1 (a0 a1 : D) (r : List D) : P.op (fIx (.lst (a0 :: a1 :: r)) (.int 1)) = .ok a1 := ix_lstI (n := 1) rfl rfl
@[simp] theorem ix_lst_2 (a0 a1 a2 : D) (r : List D) : P.op (fIx (.lst (a0 :: a1 :: a2 :: r)) (.int 2)) = .ok a2 := ix_lstI (n := 2) rfl rfl
@[simp] theorem ix_lst_3 (a0 a1 a2 a3 : D) (r : List D) : P.op (fIx (.lst (a0 :: a1 :: a2 :: a3 :: r)) (.int 3)) = .ok a3 := ix_lstI (n := 3) rfl rfl
@[simp] theorem ix_lst_4 (a0 a1 a2 a3 a4 : D) (r : List D) : P.op (fIx (.lst (a0 :: a1 :: a2 :: a3 :: a4 :: r)) (.int 4)) = .ok a4 := ix_lstI (n := 4) rfl rfl
@[simp] theorem ix_lst_5 (a0 a1 a2 a3 a4 a5 : D) (r : List D) : P.op (fIx (.lst (a0 :: a1 :: a2 :: a3 :: a4 :: a5 :: r)) (.int 5)) = .ok a5 := ix_lstI (n := 5) rfl rfl
theorem ix_lst {ds : List D} {i : Nat} {d : D} (h : ds[i]? = some d) : P.op (fIx (.lst ds) (.int (i : Int))) = .ok d := by
  show P.op ((atI ds (i : Int)).map Val.sh) = _
  rw [atI_nat' h]; rfl
theorem ix_lst_last {ds : List D} {d : D} (h : ds.getLast? = some d) : P.op (fIx (.lst ds) (.int (-1))) = .ok d := by
  show P.op ((atI ds (-1)).map Val.sh) = _
  rw [atI_last h]; rfl
theorem ix_lst_map {α : Type} {f : α → D} {xs : List α} {i : Nat} (h : i < xs.length) : P.op (fIx (.lst (xs.map f)) (.int (i : Int))) = .ok (f xs[i]) := ix_lst (by rw [List.getElem?_map, List.getElem?_eq_getElem h]; rfl)
@[simp] theorem isi_NoneType_int  : P.op (fIsi [.non, .op (.ty "int")]) = .ok (.bl false) := nr rfl
@[simp] theorem isi_NoneType_bool  : P.op (fIsi [.non, .op (.ty "bool")]) = .ok (.bl false) := nr rfl
@[simp] theorem isi_NoneType_str  : P.op (fIsi [.non, .op (.ty "str")]) = .ok (.bl false) := nr rfl
@[simp] theorem isi_NoneType_list  : P.op (fIsi [.non, .op (.ty "list")]) = .ok (.bl false) := nr rfl
@[simp] theorem isi_NoneType_tuple  : P.op (fIsi [.non, .op (.ty "tuple")]) = .ok (.bl false) := nr rfl
@[simp] theorem isi_NoneType_dict  : P.op (fIsi [.non, .op (.ty "dict")]) = .ok (.bl false) := nr rfl
@[simp] theorem isi_bool_int (b : Bool) : P.op (fIsi [.bl b, .op (.ty "int")]) = .ok (.bl true) := nr rfl
@[simp] theorem isi_bool_bool (b : Bool) : P.op (fIsi [.bl b, .op (.ty "bool")]) = .ok (.bl true) := nr rfl
@[simp] theorem isi_bool_str (b : Bool) : P.op (fIsi [.bl b, .op (.ty "str")]) = .ok (.bl false) := nr rfl
@[simp] theorem isi_bool_list (b : Bool) : P.op (fIsi [.bl b, .op (.ty "list")]) = .ok (.bl false) := nr rfl
@[simp] theorem isi_bool_tuple (b : Bool) : P.op (fIsi [.bl b, .op (.ty "tuple")]) = .ok (.bl false) := nr rfl
@[simp] theorem isi_bool_dict (b : Bool) : P.op (fIsi [.bl b, .op (.ty "dict")]) = .ok (.bl false) := nr rfl
@[simp] theorem isi_int_int (i : Int) : P.op (fIsi [.int i, .op (.ty "int")]) = .ok (.bl true) := nr rfl
@[simp] theorem isi_int_bool (i : Int) : P.op (fIsi [.int i, .op (.ty "bool")]) = .ok (.bl false) := nr rfl
@[simp] theorem isi_int_str (i : Int) : P.op (fIsi [.int i, .op (.ty "str")]) = .ok (.bl false) := nr rfl
@[simp] theorem isi_int_list (i : Int) : P.op (fIsi [.int i, .op (.ty "list")]) = .ok (.bl false) := nr rfl
@[simp] theorem isi_int_tuple (i : Int) : P.op (fIsi [.int i, .op (.ty "tuple")]) = .ok (.bl false) := nr rfl
@[simp] theorem isi_int_dict (i : Int) : P.op (fIsi [.int i, .op (.ty "dict")]) = .ok (.bl false) := nr rfl
@[simp] theorem isi_str_int (x : Str) : P.op (fIsi [.str x, .op (.ty "int")]) = .ok (.bl false) := nr rfl
@[simp] theorem isi_str_bool (x : Str) : P.op (fIsi [.str x, .op (.ty "bool")]) = .ok (.bl false) := nr rfl
@[simp] theorem isi_str_str (x : Str) : P.op (fIsi [.str x, .op (.ty "str")]) = .ok (.bl true) := nr rfl
@[simp] theorem isi_str_list (x : Str) : P.op (fIsi [.str x, .op (.ty "list")]) = .ok (.bl false) := nr rfl
@[simp] theorem isi_str_tuple (x : Str) : P.op (fIsi [.str x, .op (.ty "tuple")]) = .ok (.bl false) := nr rfl
@[simp] theorem isi_str_dict (x : Str) : P.op (fIsi [.str x, .op (.ty "dict")]) = .ok (.bl false) := nr rfl
@[simp] theorem isi_list_int (ds : List D) : P.op (fIsi [.lst ds, .op (.ty "int")]) = .ok (.bl false) := nr rfl
@[simp] theorem isi_list_bool (ds : List D) : P.op (fIsi [.lst ds, .op (.ty "bool")]) = .ok (.bl false) := nr rfl
@[simp] theorem isi_list_str (ds : List D) : P.op (fIsi [.lst ds, .op (.ty "str")]) = .ok (.bl false) := nr rfl
@[simp] theorem isi_list_list (ds : List D) : P.op (fIsi [.lst ds, .op (.ty "list")]) = .ok (.bl true) := nr rfl
@[simp] theorem isi_list_tuple (ds : List D) : P.op (fIsi [.lst ds, .op (.ty "tuple")]) = .ok (.bl false) := nr rfl
@[simp] theorem isi_list_dict (ds : List D) : P.op (fIsi [.lst ds, .op (.ty "dict")]) = .ok (.bl false) := nr rfl
@[simp] theorem isi_tuple_int (ds : List D) : P.op (fIsi [.tup ds, .op (.ty "int")]) = .ok (.bl false) := nr rfl
@[simp] theorem isi_tuple_bool (ds : List D) : P.op (fIsi [.tup ds, .op (.ty "bool")]) = .ok (.bl false) := nr rfl
@[simp] theorem isi_tuple_str (ds : List D) : P.op (fIsi [.tup ds, .op (.ty "str")]) = .ok (.bl false) := nr rfl
@[simp] theorem isi_tuple_list (ds : List D) : P.op (fIsi [.tup ds, .op (.ty "list")]) = .ok (.bl false) := nr rfl
@[simp] theorem isi_tuple_tuple (ds : List D) : P.op (fIsi [.tup ds, .op (.ty "tuple")]) = .ok (.bl true) := nr rfl
@[simp] theorem isi_tuple_dict (ds : List D) : P.op (fIsi [.tup ds, .op (.ty "dict")]) = .ok (.bl false) := nr rfl
@[simp] theorem isi_dict_int (l : List (D × D)) : P.op (fIsi [.dct false l, .op (.ty "int")]) = .ok (.bl false) := nr rfl
@[simp] theorem isi_dict_bool (l : List (D × D)) : P.op (fIsi [.dct false l, .op (.ty "bool")]) = .ok (.bl false) := nr rfl
@[simp] theorem isi_dict_str (l : List (D × D)) : P.op (fIsi [.dct false l, .op (.ty "str")]) = .ok (.bl false) := nr rfl
@[simp] theorem isi_dict_list (l : List (D × D)) : P.op (fIsi [.dct false l, .op (.ty "list")]) = .ok (.bl false) := nr rfl
@[simp] theorem isi_dict_tuple (l : List (D × D)) : P.op (fIsi [.dct false l, .op (.ty "tuple")]) = .ok (.bl false) := nr rfl
@[simp] theorem isi_dict_dict (l : List (D × D)) : P.op (fIsi [.dct false l, .op (.ty "dict")]) = .ok (.bl true) := nr rfl
@[simp] theorem dTru_non : dTru .non = some false := nr rfl
@[simp] theorem dTru_bl (b : Bool) : dTru (.bl b) = some b := nr rfl
@[simp] theorem dTru_int (i : Int) : dTru (.int i) = some (i != 0) := nr rfl
@[simp] theorem dTru_lst (xs : List D) : dTru (.lst xs) = some !xs.isEmpty := nr rfl
@[simp] theorem dTru_tup (xs : List D) : dTru (.tup xs) = some !xs.isEmpty := nr rfl
@[simp] theorem for_nil {S : Type} (φ : S → D → P S) (s : S) : P.for φ s [] = .ok s := nr rfl
@[simp] theorem for_cons {S : Type} (φ : S → D → P S) (s : S) (d : D) (ds : List D) : P.for φ s (d :: ds) = (φ s d).bind fun s' => P.for φ s' ds := nr rfl
/-! loops -/
section
variable {S α σ ρ : Type}
theorem for_app (φ : S → D → P S) : ∀ (xs ys : List D) (s : S), P.for φ s (xs ++ ys) = (P.for φ s xs).bind fun s' => P.for φ s' ys
  | [], ys, s => rfl
  | x :: xs, ys, s => by
    rw [List.cons_append, for_cons, for_cons, P.bind_bind]
    congr 1
    funext s'
    exact for_app φ xs ys s'
theorem for_foldl {φ : S → D → P S} (enc : α → D) (es : σ → S) (step : σ → α → σ) : ∀ (xs : List α) (s : σ), (∀ s, ∀ x ∈ xs, φ (es s) (enc x) = .ok (es (step s x))) → P.for φ (es s) (xs.map enc) = .ok (es (xs.foldl step s))
  | [], s, _ => rfl
  | x :: xs, s, h => by
    rw [List.map_cons, for_cons, h s x List.mem_cons_self, P.ok_bind, List.foldl_cons]
    exact for_foldl enc es step xs _ fun s y m => h s y (List.mem_cons_of_mem _ m)
/-- I: what holds of the state, of what is left -/
theorem for_inv {φ : S → D → P S} (I : S → List D → Prop) (h : ∀ s d ds, I s (d :: ds) → ∃ s', φ s d = .ok s' ∧ I s' ds) : ∀ (ds : List D) (s : S), I s ds → ∃ s', P.for φ s ds = .ok s' ∧ I s' []
  | [], s, i => ⟨s, rfl, i⟩
  | d :: ds, s, i => by
    obtain ⟨s1, h1, i1⟩ := h s d ds i
    rw [for_cons, h1, P.ok_bind]
    exact for_inv I h ds s1 i1
/-- over encoded items -/
theorem for_invE {φ : S → D → P S} (enc : α → D) (I : S → List α → List α → Prop) (xs : List α) (h : ∀ s dn x rs, xs = dn ++ x :: rs → I s dn (x :: rs) → ∃ s', φ s (enc x) = .ok s' ∧ I s' (dn ++ [x]) rs) {s : S} (i : I s [] xs) : ∃ s', P.for φ s (xs.map enc) = .ok s' ∧ I s' xs [] := by
  have go : ∀ (rs dn : List α) (s : S), xs = dn ++ rs → I s dn rs → ∃ s', P.for φ s (rs.map enc) = .ok s' ∧ I s' xs [] := by
    intro rs
    induction rs with
    | nil => intro dn s e i; rw [List.append_nil] at e; subst e; exact ⟨s, rfl, i⟩
    | cons x rs ih =>
      intro dn s e i
      obtain ⟨s1, h1, i1⟩ := h s dn x rs e i
      rw [List.map_cons, for_cons, h1, P.ok_bind]
      exact ih (dn ++ [x]) s1 (by rw [List.append_assoc]; exact e) i1
  exact go xs [] s rfl i
theorem forJ_inv {φ : S → D → P (Fl S ρ)} (I : S → List D → Prop) (h : ∀ s d ds, I s (d :: ds) → ∃ s', φ s d = .ok (.nx s') ∧ I s' ds) : ∀ (ds : List D) (s : S), I s ds → ∃ s', P.forJ φ s ds = .ok (.go s') ∧ I s' []
  | [], s, i => ⟨s, rfl, i⟩
  | d :: ds, s, i => by
    obtain ⟨s1, h1, i1⟩ := h s d ds i
    rw [P.forJ, h1, P.ok_bind]
    exact forJ_inv I h ds s1 i1
theorem forJ_all {φ : S → D → P (Fl S ρ)} (I : S → Prop) (ds : List D) (h : ∀ s, I s → ∀ d ∈ ds, ∃ s', φ s d = .ok (.nx s') ∧ I s') {s : S} (i : I s) : ∃ s', P.forJ φ s ds = .ok (.go s') ∧ I s' := by
  obtain ⟨s', h1, h2, _⟩ := forJ_inv (φ := φ) (fun s rs => I s ∧ ∀ d ∈ rs, d ∈ ds) (fun s d rs ⟨i, m⟩ => by
    obtain ⟨s', e, i'⟩ := h s i d (m d List.mem_cons_self)
    exact ⟨s', e, i', fun x hx => m x (List.mem_cons_of_mem _ hx)⟩) ds s ⟨i, fun _ h => h⟩
  exact ⟨s', h1, h2⟩
theorem while_inv {c : S → P Bool} {φ : S → P S} (I : Nat → S → Prop) (h : ∀ n s, I n s → (c s = .ok true ∧ ∃ s' m, φ s = .ok s' ∧ m < n ∧ I m s') ∨ (c s = .ok false)) : ∀ (N n : Nat) (s : S), I n s → n < N → ∃ s' m, P.while c φ N s = .ok s' ∧ I m s' ∧ c s' = .ok false
  | 0, n, s, _, l => by omega
  | N + 1, n, s, i, l => by
    rw [P.while]
    rcases h n s i with ⟨h1, s', m, h2, h3, i'⟩ | h1
    · rw [h1, P.ok_bind, if_pos rfl, h2, P.ok_bind]
      exact while_inv I h N m s' i' (by omega)
    · rw [h1, P.ok_bind, if_neg (by simp)]
      exact ⟨s, n, rfl, i, h1⟩
/-! comprehensions -/
theorem lcL_fm {φ : D → P (Option D)} (f : D → Option D) : ∀ (ds acc : List D), (∀ d ∈ ds, φ d = .ok (f d)) → acc.length + ds.length ≤ 1000000 → P.lcL φ ds acc = .ok (acc ++ ds.filterMap f)
  | [], acc, _, _ => by rw [P.lcL, List.filterMap_nil, List.append_nil]
  | d :: ds, acc, h, l => by
    rw [List.length_cons] at l
    rw [P.lcL, h d List.mem_cons_self]
    cases q : f d with
    | none =>
      rw [List.filterMap_cons_none q]
      exact lcL_fm f ds acc (fun x m => h x (List.mem_cons_of_mem _ m)) (by omega)
    | some x =>
      simp only
      rw [if_pos (by omega), lcL_fm f ds (acc ++ [x]) (fun x m => h x (List.mem_cons_of_mem _ m)) (by rw [List.length_append, List.length_singleton]; omega), List.filterMap_cons_some q, List.append_assoc]
      rfl
theorem lc_fm {φ : D → P (Option D)} (f : D → Option D) {ds : List D} (h : ∀ d ∈ ds, φ d = .ok (f d)) (l : ds.length ≤ 1000000) : P.lc φ ds = .ok (.lst (ds.filterMap f)) := by
  unfold P.lc
  rw [lcL_fm f ds [] h (by simpa using l), P.ok_bind, List.nil_append]
theorem lc_map {φ : D → P (Option D)} (enc : α → D) (f : α → D) {xs : List α} (h : ∀ x ∈ xs, φ (enc x) = .ok (some (f x))) (l : xs.length ≤ 1000000) : P.lc φ (xs.map enc) = .ok (.lst (xs.map f)) := by
  have go : ∀ (xs : List α) (acc : List D), (∀ x ∈ xs, φ (enc x) = .ok (some (f x))) → acc.length + xs.length ≤ 1000000 → P.lcL φ (xs.map enc) acc = .ok (acc ++ xs.map f) := by
    intro xs
    induction xs with
    | nil => intro acc _ _; rw [List.map_nil, P.lcL, List.map_nil, List.append_nil]
    | cons x xs ih =>
      intro acc h l
      rw [List.length_cons] at l
      rw [List.map_cons, P.lcL, h x List.mem_cons_self]
      simp only
      rw [if_pos (by omega), ih (acc ++ [f x]) (fun y m => h y (List.mem_cons_of_mem _ m)) (by rw [List.length_append, List.length_singleton]; omega), List.map_cons, List.append_assoc]
      rfl
  unfold P.lc
  rw [go xs [] h (by simpa using l), P.ok_bind, List.nil_append]
theorem lcL_mapE {φ : D → P (Option D)} (enc : α → D) (f : α → D) : ∀ (xs : List α) (acc : List D), (∀ x ∈ xs, φ (enc x) = .ok (some (f x))) → acc.length + xs.length ≤ 1000000 → P.lcL φ (xs.map enc) acc = .ok (acc ++ xs.map f)
  | [], acc, _, _ => by rw [List.map_nil, P.lcL, List.map_nil, List.append_nil]
  | x :: xs, acc, h, l => by
    rw [List.length_cons] at l
    rw [List.map_cons, P.lcL, h x List.mem_cons_self]
    simp only
    rw [if_pos (by omega), lcL_mapE enc f xs (acc ++ [f x]) (fun y m => h y (List.mem_cons_of_mem _ m)) (by rw [List.length_append, List.length_singleton]; omega), List.map_cons, List.append_assoc]
    rfl
theorem lcL_fmE {φ : D → P (Option D)} (enc : α → D) (f : α → Option D) : ∀ (xs : List α) (acc : List D), (∀ x ∈ xs, φ (enc x) = .ok (f x)) → acc.length + xs.length ≤ 1000000 → P.lcL φ (xs.map enc) acc = .ok (acc ++ xs.filterMap f)
  | [], acc, _, _ => by rw [List.map_nil, P.lcL, List.filterMap_nil, List.append_nil]
  | x :: xs, acc, h, l => by
    rw [List.length_cons] at l
    rw [List.map_cons, P.lcL, h x List.mem_cons_self]
    cases q : f x with
    | none =>
      rw [List.filterMap_cons_none q]
      exact lcL_fmE enc f xs acc (fun x m => h x (List.mem_cons_of_mem _ m)) (by omega)
    | some y =>
      simp only
      rw [if_pos (by omega), lcL_fmE enc f xs (acc ++ [y]) (fun x m => h x (List.mem_cons_of_mem _ m)) (by rw [List.length_append, List.length_singleton]; omega), List.filterMap_cons_some q, List.append_assoc]
      rfl
theorem lc_fmE {φ : D → P (Option D)} (enc : α → D) (f : α → Option D) {xs : List α} (h : ∀ x ∈ xs, φ (enc x) = .ok (f x)) (l : xs.length ≤ 1000000) : P.lc φ (xs.map enc) = .ok (.lst (xs.filterMap f)) := by
  unfold P.lc
  rw [lcL_fmE enc f xs [] h (by simpa using l), P.ok_bind, List.nil_append]
/-- I: of the list made so far, the state, what is left -/
theorem lcS_inv {φ : S → D → P (Option D × S)} (I : S → List D → List D → Prop) (h : ∀ s acc d ds, I s acc (d :: ds) → ∃ o s', φ s d = .ok (o, s') ∧ I s' (acc ++ o.toList) ds) : ∀ (ds acc : List D) (s : S), I s acc ds → acc.length + ds.length ≤ 1000000 → ∃ xs s', P.lcS φ ds acc s = .ok (xs, s') ∧ I s' xs [] ∧ xs.length ≤ acc.length + ds.length
  | [], acc, s, i, _ => ⟨acc, s, rfl, i, by simp⟩
  | d :: ds, acc, s, i, l => by
    rw [List.length_cons] at l
    obtain ⟨o, s1, h1, i1⟩ := h s acc d ds i
    rw [P.lcS, h1]
    cases o with
    | none =>
      have i1 : I s1 acc ds := by simpa using i1
      obtain ⟨xs, s', a, b, c⟩ := lcS_inv I h ds acc s1 i1 (by omega)
      exact ⟨xs, s', a, b, by rw [List.length_cons]; omega⟩
    | some x =>
      obtain ⟨xs, s', a, b, c⟩ := lcS_inv I h ds (acc ++ [x]) s1 i1 (by rw [List.length_append, List.length_singleton]; omega)
      refine ⟨xs, s', by simp only; rw [if_pos (by omega)]; exact a, b, by rw [List.length_cons]; rw [List.length_append, List.length_singleton] at c; omega⟩
/-- each item is made, whatever the state that is kept -/
theorem lcF_all {φ : S → D → P (Option D × S)} (I : S → Prop) (Q : D → Prop) {ds : List D} (h : ∀ s, I s → ∀ d ∈ ds, ∃ x s', φ s d = .ok (some x, s') ∧ I s' ∧ Q x) (l : ds.length ≤ 1000000) {s : S} (i : I s) : ∃ xs s', P.lcF φ ds s = .ok (.lst xs, s') ∧ I s' ∧ (∀ x ∈ xs, Q x) ∧ xs.length = ds.length := by
  obtain ⟨xs, s', h1, ⟨h2, h3, h4, _⟩, _⟩ := lcS_inv (φ := φ) (fun s acc rs => I s ∧ (∀ x ∈ acc, Q x) ∧ acc.length + rs.length = ds.length ∧ ∀ d ∈ rs, d ∈ ds) (fun s acc d rs ⟨i, q, e, m⟩ => by
    obtain ⟨x, s', h1, i', qx⟩ := h s i d (m d List.mem_cons_self)
    refine ⟨some x, s', h1, i', fun y hy => ?_, by simp at e ⊢; omega, fun y hy => m y (List.mem_cons_of_mem _ hy)⟩
    rcases List.mem_append.mp hy with hy | hy
    · exact q y hy
    · have hy : y ∈ [x] := hy
      rw [List.mem_singleton.mp hy]; exact qx) ds [] s ⟨i, fun _ h => (nomatch h), by simp, fun _ h => h⟩ (by simpa using l)
  exact ⟨xs, s', by unfold P.lcF; rw [h1]; rfl, h2, h3, by simpa using h4⟩
theorem lc2_flat {ψ : D → List D → P (List D)} (f : D → List D) : ∀ (ds acc : List D), (∀ d ∈ ds, ∀ acc, acc.length + (f d).length ≤ 1000000 → ψ d acc = .ok (acc ++ f d)) → acc.length + (ds.flatMap f).length ≤ 1000000 → P.lc2L ψ ds acc = .ok (acc ++ ds.flatMap f)
  | [], acc, _, _ => by rw [P.lc2L, List.flatMap_nil, List.append_nil]
  | d :: ds, acc, h, l => by
    rw [List.flatMap_cons, List.length_append] at l
    rw [P.lc2L, h d List.mem_cons_self acc (by omega)]
    simp only
    rw [lc2_flat f ds _ (fun x m => h x (List.mem_cons_of_mem _ m)) (by rw [List.length_append]; omega), List.flatMap_cons, List.append_assoc]
end
@[simp] theorem oq_all (bs : List Bool) : P.op (fAll [.lst (bs.map .bl)]) = .ok (.bl (bs.all id)) := by
  have : blsOf (bs.map .bl) = some bs := by
    induction bs with
    | nil => rfl
    | cons b bs ih => rw [List.map_cons, blsOf, ih]; rfl
  show P.op ((blsOf (bs.map .bl)).map _) = _
  rw [this]; rfl
@[simp] theorem oq_any (bs : List Bool) : P.op (fAny [.lst (bs.map .bl)]) = .ok (.bl (bs.any id)) := by
  have : blsOf (bs.map .bl) = some bs := by
    induction bs with
    | nil => rfl
    | cons b bs ih => rw [List.map_cons, blsOf, ih]; rfl
  show P.op ((blsOf (bs.map .bl)).map _) = _
  rw [this]; rfl
theorem oq_all_true {α : Type} (xs : List α) : P.op (fAll [.lst (xs.map fun _ => .bl true)]) = .ok (.bl true) := by
  have := oq_all (xs.map fun _ => true)
  rw [List.map_map] at this
  rw [show (fun _ : α => D.bl true) = (D.bl ∘ fun _ : α => true) from rfl, this, List.all_map]
  simp
end VS

/-! VW1: things that can be shown, and told apart by what is shown. -/
namespace VS
open PySem PySem.Spec PyProof.Rows L2
mutual
def D.cl : D → Bool
  | .non => true
  | .bl _ => true
  | .int _ => true
  | .str x => (cs x).all letter
  | .lst xs => cls xs
  | .tup xs => cls xs
  | .dct false [] => true
  | _ => false
def cls : List D → Bool
  | [] => true
  | x :: xs => x.cl && cls xs
end
mutual
theorem pl_of : ∀ d : D, d.cl = true → pl d.py = true
  | .non, _ => rfl
  | .bl _, _ => rfl
  | .int _, _ => rfl
  | .str x, h => by rw [D.py, pl]; rw [D.cl] at h; exact h
  | .lst xs, h => by rw [D.py, pl]; rw [D.cl] at h; exact plAll_of xs h
  | .tup xs, h => by rw [D.py, pl]; rw [D.cl] at h; exact plAll_of xs h
  | .dct _ _, _ => by rw [D.py, pl]; rfl
  | .op _, h => by rw [D.cl] at h <;> first | cases h | (intro z; cases z) | simp
  | .fl _, h => by rw [D.cl] at h <;> first | cases h | (intro z; cases z) | simp
theorem plAll_of : ∀ ds : List D, cls ds = true → plAll (pys ds) = true
  | [], _ => rfl
  | d :: ds, h => by
    rw [cls, Bool.and_eq_true] at h
    rw [pys, plAll, pl_of d h.1, plAll_of ds h.2]; rfl
end
theorem cl_dct {t : Bool} {l : List (D × D)} (h : (D.dct t l).cl = true) : t = false ∧ l = [] := by
  cases t with
  | true => simp [D.cl] at h
  | false => cases l with
    | nil => exact ⟨rfl, rfl⟩
    | cons _ _ => simp [D.cl] at h
mutual
theorem py_inj : ∀ a b : D, a.cl = true → b.cl = true → a.py = b.py → a = b
  | .non, b, _, hb, e => by cases b <;> simp_all [D.py, D.cl]
  | .bl _, b, _, hb, e => by cases b <;> simp_all [D.py, D.cl]
  | .int _, b, _, hb, e => by cases b <;> simp_all [D.py, D.cl]
  | .str x, b, _, hb, e => by cases b <;> simp_all [D.py, D.cl]
  | .lst xs, b, ha, hb, e => by
    cases b with
    | lst ys =>
      rw [D.cl] at ha hb
      rw [D.py, D.py] at e
      injection e with e
      rw [pys_inj xs ys ha hb e]
    | _ => simp_all [D.py, D.cl]
  | .tup xs, b, ha, hb, e => by
    cases b with
    | tup ys =>
      rw [D.cl] at ha hb
      rw [D.py, D.py] at e
      injection e with e
      rw [pys_inj xs ys ha hb e]
    | _ => simp_all [D.py, D.cl]
  | .dct t l, b, ha, hb, e => by
    obtain ⟨rfl, rfl⟩ := cl_dct ha
    cases b with
    | dct t' l' => obtain ⟨rfl, rfl⟩ := cl_dct hb; rfl
    | _ => simp_all [D.py, D.cl]
  | .op _, b, ha, hb, e => by simp [D.cl] at ha
  | .fl _, b, ha, hb, e => by simp [D.cl] at ha
theorem pys_inj : ∀ as bs : List D, cls as = true → cls bs = true → pys as = pys bs → as = bs
  | [], [], _, _, _ => rfl
  | [], _ :: _, _, _, e => by rw [pys, pys] at e; cases e
  | _ :: _, [], _, _, e => by rw [pys, pys] at e; cases e
  | a :: as, b :: bs, ha, hb, e => by
    rw [cls, Bool.and_eq_true] at ha hb
    rw [pys, pys] at e
    injection e with e1 e2
    rw [py_inj a b ha.1 hb.1 e1, pys_inj as bs ha.2 hb.2 e2]
end
theorem shown_inj {a b : D} (ha : a.cl = true) (hb : b.cl = true) (h : a.py.shown = b.py.shown) : a = b :=
  py_inj a b ha hb (sh_inj a.py b.py [] [] (pl_of a ha) (pl_of b hb) (.inl rfl) (.inl rfl) (by rw [h])).1
/-! signs -/
abbrev Sml (l : List Nat) : Prop := ∀ c ∈ l, c < 128
theorem sml_app {a b : List Nat} (h : Sml a) (k : Sml b) : Sml (a ++ b) := fun c m => by
  rcases List.mem_append.mp m with m | m
  · exact h c m
  · exact k c m
theorem sml_cons {c : Nat} {a : List Nat} (h : c < 128) (k : Sml a) : Sml (c :: a) := fun d m => by
  rcases List.mem_cons.mp m with rfl | m
  · exact h
  · exact k d m
theorem sml_dg (n : Nat) : Sml (dg n) := fun c m => by have := dg_ge (dg_dig m); omega
mutual
theorem sml_shown : ∀ d : PyData, pl d = true → Sml (cs d.shown)
  | .none, _ => by intro c m; revert c m; decide
  | .bool b, _ => by cases b <;> (intro c m; revert c m; decide)
  | .int i, _ => by
    rw [cs_int]
    split
    · exact sml_cons (by decide) (sml_dg _)
    · exact sml_dg _
  | .str x, h => by
    rw [pl] at h
    rw [PyData.shown, repr_letters h]
    refine sml_cons (by decide) (sml_app (fun c m => ?_) (sml_cons (by decide) fun _ m => nomatch m))
    exact (letter_lt (List.all_eq_true.mp h c m)).1
  | .list xs, h => by
    rw [pl] at h
    rw [cs_list]
    exact sml_cons (by decide) (sml_app (sml_seq xs h) (sml_cons (by decide) fun _ m => nomatch m))
  | .tuple xs, h => by
    rw [pl] at h
    rw [cs_tuple]
    refine sml_cons (by decide) (sml_app (sml_seq xs h) ?_)
    unfold tupEnd
    split
    · exact sml_cons (by decide) (sml_cons (by decide) fun _ m => nomatch m)
    · exact sml_cons (by decide) fun _ m => nomatch m
  | .dict kvs, h => by
    rw [pl] at h
    cases kvs with
    | nil => intro c m; revert c m; decide
    | cons _ _ => cases h
theorem sml_seq : ∀ ds : List PyData, plAll ds = true → Sml (seqL ds)
  | [], _ => fun _ m => nomatch m
  | d :: ds, h => by
    rw [plAll, Bool.and_eq_true] at h
    exact sml_app (sml_shown d h.1) (sml_tail ds h.2)
theorem sml_tail : ∀ ds : List PyData, plAll ds = true → Sml (tailL ds)
  | [], _ => fun _ m => nomatch m
  | d :: ds, h => by
    rw [plAll, Bool.and_eq_true] at h
    exact sml_cons (by decide) (sml_cons (by decide) (sml_app (sml_shown d h.1) (sml_tail ds h.2)))
end
theorem strOk_shown {d : PyData} (h : pl d = true) : PyData.strOk d.shown = true := by
  unfold PyData.strOk
  rw [← Array.all_toList, List.all_eq_true]
  intro c m
  have := sml_shown d h c m
  exact decide_eq_true (by omega)
/-- a thing: at most n deep, at most w of weight -/
structure Th (n w : Nat) (d : D) : Prop where
  cl : d.cl = true
  sh : d.py.showable = true
  lv : PyData.leavesShort 100 d.py = true
  dp : d.py.depth ≤ n
  wt : d.py.weight ≤ w
structure Ths (n w : Nat) (ds : List D) : Prop where
  cl : cls ds = true
  sh : PyData.showableAll (pys ds) = true
  lv : PyData.leavesShortAll 100 (pys ds) = true
  dp : PyData.depthAll (pys ds) ≤ n
  wt : PyData.weightAll (pys ds) ≤ w
theorem Th.mono {n n' w w' : Nat} {d : D} (h : Th n w d) (a : n ≤ n') (b : w ≤ w') : Th n' w' d := ⟨h.cl, h.sh, h.lv, Nat.le_trans h.dp a, Nat.le_trans h.wt b⟩
theorem Ths.mono {n n' w w' : Nat} {d : List D} (h : Ths n w d) (a : n ≤ n') (b : w ≤ w') : Ths n' w' d := ⟨h.cl, h.sh, h.lv, Nat.le_trans h.dp a, Nat.le_trans h.wt b⟩
theorem ths_nil {n : Nat} : Ths n 0 [] := ⟨rfl, rfl, rfl, Nat.zero_le _, Nat.le_refl _⟩
theorem ths_cons {n w w' : Nat} {d : D} {ds : List D} (h : Th n w d) (k : Ths n w' ds) : Ths n (w + 1 + w') (d :: ds) where
  cl := by rw [cls, h.cl, k.cl]; rfl
  sh := by rw [pys, PyData.showableAll, h.sh, k.sh]; rfl
  lv := by rw [pys, PyData.leavesShortAll, h.lv, k.lv]; rfl
  dp := by rw [pys, PyData.depthAll]; exact Nat.max_le.mpr ⟨h.dp, k.dp⟩
  wt := by rw [pys, PyData.weightAll]; have := h.wt; have := k.wt; omega
theorem ths_all {n w : Nat} : ∀ {ds : List D}, (∀ d ∈ ds, Th n w d) → Ths n (ds.length * (w + 1)) ds
  | [], _ => ths_nil.mono (Nat.le_refl _) (Nat.zero_le _)
  | d :: ds, h => (ths_cons (h d List.mem_cons_self) (ths_all fun x m => h x (List.mem_cons_of_mem _ m))).mono (Nat.le_refl _) (by rw [List.length_cons, Nat.succ_mul]; omega)
theorem Ths.at_ {n w : Nat} : ∀ {ds : List D}, Ths n w ds → ∀ d ∈ ds, Th n w d
  | [], _, d, m => nomatch m
  | x :: xs, h, d, m => by
    obtain ⟨h1, h2, h3, h4, h5⟩ := h
    rw [cls, Bool.and_eq_true] at h1
    rw [pys, PyData.showableAll, Bool.and_eq_true] at h2
    rw [pys, PyData.leavesShortAll, Bool.and_eq_true] at h3
    rw [pys, PyData.depthAll] at h4
    rw [pys, PyData.weightAll] at h5
    rcases List.mem_cons.mp m with rfl | m
    · exact ⟨h1.1, h2.1, h3.1, Nat.le_trans (Nat.le_max_left _ _) h4, by omega⟩
    · exact Ths.at_ ⟨h1.2, h2.2, h3.2, Nat.le_trans (Nat.le_max_right _ _) h4, by omega⟩ d m
theorem th_tup {n w : Nat} {ds : List D} (h : Ths n w ds) : Th (n + 1) w (.tup ds) where
  cl := by rw [D.cl]; exact h.cl
  sh := by rw [D.py, PyData.showable]; exact h.sh
  lv := by rw [D.py, PyData.leavesShort]; exact h.lv
  dp := by rw [D.py, PyData.depth]; have := h.dp; omega
  wt := by rw [D.py, PyData.weight]; exact h.wt
theorem th_lst {n w : Nat} {ds : List D} (h : Ths n w ds) : Th (n + 1) w (.lst ds) where
  cl := by rw [D.cl]; exact h.cl
  sh := by rw [D.py, PyData.showable]; exact h.sh
  lv := by rw [D.py, PyData.leavesShort]; exact h.lv
  dp := by rw [D.py, PyData.depth]; have := h.dp; omega
  wt := by rw [D.py, PyData.weight]; exact h.wt
theorem Th.items {n w : Nat} {ds : List D} (h : Th n w (.tup ds)) : Ths n w ds where
  cl := by have := h.cl; rw [D.cl] at this; exact this
  sh := by have := h.sh; rw [D.py, PyData.showable] at this; exact this
  lv := by have := h.lv; rw [D.py, PyData.leavesShort] at this; exact this
  dp := by have := h.dp; rw [D.py, PyData.depth] at this; omega
  wt := by have := h.wt; rw [D.py, PyData.weight] at this; exact this
theorem th_non : Th 0 0 .non := ⟨rfl, rfl, rfl, Nat.le_refl _, Nat.le_refl _⟩
theorem th_bl (b : Bool) : Th 0 0 (.bl b) := ⟨rfl, rfl, rfl, Nat.le_refl _, Nat.le_refl _⟩
theorem th_dct : Th 1 0 (.dct false []) := ⟨rfl, rfl, rfl, by decide, by decide⟩
theorem th_int {i : Int} (h : i.natAbs < 10 ^ 60) : Th 0 200 (.int i) := by
  have a := nice_int h
  exact ⟨rfl, a.s, a.b, a.dp, a.w⟩
theorem th_intS {i : Int} (h : -1000000000000000000 ≤ i ∧ i ≤ 1000000000000000000) : Th 0 200 (.int i) := th_int (by
  have e : (10 : Nat) ^ 60 = 1000000000000000000000000000000000000000000000000000000000000 := by decide
  rw [e]; omega)
theorem th_str {x : Str} (h : (cs x).all letter = true) : Th 0 x.cps.size (.str x) where
  cl := by rw [D.cl]; exact h
  sh := rfl
  lv := by
    rw [D.py, PyData.leavesShort, List.all_eq_true]
    intro c m
    have := (letter_lt (List.all_eq_true.mp h c m)).1
    have e : (16 : Nat) ^ 8 = 4294967296 := by decide
    exact decide_eq_true (by omega)
  dp := Nat.le_refl _
  wt := Nat.le_refl _
theorem Th.shown_len {n w : Nat} {d : D} (h : Th n w d) (hw : w ≤ 150000) : d.py.shown.length ≤ sizeLine := by
  have a := PyData.shown_le 100 (by decide) d.py h.lv
  have b := h.wt
  rw [sizeLine_eq]; omega
mutual
theorem seen_cl : ∀ d : D, d.cl = true → d.seen = true
  | .non, _ => rfl
  | .bl _, _ => rfl
  | .int _, _ => rfl
  | .str _, _ => rfl
  | .lst xs, h => by rw [D.cl] at h; rw [D.seen]; exact seens_cl xs h
  | .tup xs, h => by rw [D.cl] at h; rw [D.seen]; exact seens_cl xs h
  | .dct t l, h => by obtain ⟨rfl, rfl⟩ := cl_dct h; rfl
  | .op _, h => by simp [D.cl] at h
  | .fl _, h => by simp [D.cl] at h
theorem seens_cl : ∀ ds : List D, cls ds = true → seens ds = true
  | [], _ => rfl
  | d :: ds, h => by
    rw [cls, Bool.and_eq_true] at h
    rw [seens, seen_cl d h.1, seens_cl ds h.2]; rfl
end
/-- what repr gives -/
def shD (d : D) : D := .str d.py.shown
theorem oq_repr {n w : Nat} {d : D} (h : Th n w d) (hn : n ≤ 100) (hw : w ≤ 150000) : P.op (fRepr [d]) = .ok (shD d) := by
  show P.op (if _ then _ else _) = _
  rw [if_pos ⟨seen_cl d h.cl, h.sh, Nat.le_trans h.dp hn, h.shown_len hw⟩]; rfl
theorem strD_ok {x : Str} (h : PyData.strOk x = true) : (D.str x).ok = true := by
  unfold D.ok SeqAt.shaped
  show (true && ((PyData.str x).canLay0 && decide ((PyData.str x).depth ≤ 64))) = true
  rw [PyData.canLay0, h, PyData.depth]; rfl
theorem eqv_str (x y : Str) : (D.str x).py.eqv (D.str y).py = decide (x = y) := by
  show (PyData.str x).eqv (.str y) = _
  rw [PyData.eqv]
  by_cases h : x = y
  · subst h; simp
  · rw [decide_eq_false h]
    exact beq_false_of_ne h
theorem oq_eq_str {x y : Str} (hx : PyData.strOk x = true) (hy : PyData.strOk y = true) : P.op (fEq (.str x) (.str y)) = .ok (.bl (decide (x = y))) := by
  unfold fEq
  rw [if_pos ⟨strD_ok hx, strD_ok hy⟩, eqv_str]; rfl
theorem oq_ne_str {x y : Str} (hx : PyData.strOk x = true) (hy : PyData.strOk y = true) : P.op (fNe (.str x) (.str y)) = .ok (.bl (!decide (x = y))) := by
  unfold fNe
  rw [if_pos ⟨strD_ok hx, strD_ok hy⟩, eqv_str]; rfl
theorem oq_eq_sh {n w n' w' : Nat} {a b : D} (ha : Th n w a) (hb : Th n' w' b) : P.op (fEq (shD a) (shD b)) = .ok (.bl (dec (a = b))) := by
  unfold shD
  rw [oq_eq_str (strOk_shown (pl_of a ha.cl)) (strOk_shown (pl_of b hb.cl))]
  congr 2
  by_cases h : a = b
  · subst h; rw [dec_true rfl]; exact decide_eq_true rfl
  · rw [dec_false h]; exact decide_eq_false fun e => h (shown_inj ha.cl hb.cl e)
theorem oq_ne_sh {n w n' w' : Nat} {a b : D} (ha : Th n w a) (hb : Th n' w' b) : P.op (fNe (shD a) (shD b)) = .ok (.bl (!dec (a = b))) := by
  unfold shD
  rw [oq_ne_str (strOk_shown (pl_of a ha.cl)) (strOk_shown (pl_of b hb.cl))]
  congr 3
  by_cases h : a = b
  · subst h; rw [dec_true rfl]; exact decide_eq_true rfl
  · rw [dec_false h]; exact decide_eq_false fun e => h (shown_inj ha.cl hb.cl e)
theorem ok_ofString (s : String) : PyData.strOk (Str.ofString s) = true := strOk_ofString s
theorem oq_eq_lit {x : Str} (s : String) (hx : PyData.strOk x = true) : P.op (fEq (.str x) (.str (Str.ofString s))) = .ok (.bl (decide (x = Str.ofString s))) := oq_eq_str hx (strOk_ofString s)
theorem oq_ne_lit {x : Str} (s : String) (hx : PyData.strOk x = true) : P.op (fNe (.str x) (.str (Str.ofString s))) = .ok (.bl (!decide (x = Str.ofString s))) := oq_ne_str hx (strOk_ofString s)
theorem Th.str {n w : Nat} {x : Str} (h : Th n w (.str x)) : PyData.strOk x = true := by
  have a := h.cl
  rw [D.cl] at a
  unfold PyData.strOk
  rw [← Array.all_toList, List.all_eq_true]
  intro c m
  have := (letter_lt (List.all_eq_true.mp a c m)).1
  exact decide_eq_true (by omega)
theorem ofS_inj {s t : String} (h : Str.ofString s = Str.ofString t) : s = t := by
  have := congrArg cs h
  unfold cs at this
  rw [signs_ofString, signs_ofString] at this
  exact String.toList_inj.mp (toNat_inj this)
theorem shD_bl (b : Bool) : P.op (fRepr [.bl b]) = .ok (shD (.bl b)) := oq_repr (th_bl b) (by omega) (by omega)
end VS
namespace VS
open PySem PySem.Spec PyProof.Rows L2
theorem take_min' {α : Type} (xs : List α) (k : Nat) : xs.take (min k xs.length) = xs.take k := by
  by_cases h : k ≤ xs.length
  · rw [Nat.min_eq_left h]
  · rw [Nat.min_eq_right (by omega), List.take_length, List.take_of_length_le (by omega)]
theorem drop_min' {α : Type} (xs : List α) (k : Nat) : xs.drop (min k xs.length) = xs.drop k := by
  by_cases h : k ≤ xs.length
  · rw [Nat.min_eq_left h]
  · rw [Nat.min_eq_right (by omega), List.drop_length, List.drop_of_length_le (by omega)]
theorem cut_take (xs : List D) (k : Nat) : VS.cutD xs none (some (k : Int)) = xs.take k := by
  unfold VS.cutD
  rw [HT.sIx_nat, HT.sIx_none, Nat.sub_zero, List.drop_zero, take_min']
theorem cut_drop (xs : List D) (k : Nat) : VS.cutD xs (some (k : Int)) none = xs.drop k := by
  unfold VS.cutD
  rw [HT.sIx_nat, HT.sIx_none, drop_min', List.take_of_length_le]
  rw [List.length_drop]
  omega
theorem cut_init (xs : List D) : VS.cutD xs none (some (-1)) = xs.dropLast := by
  unfold VS.cutD
  rw [HT.sIx_none, Nat.sub_zero, List.drop_zero]
  have : HT.sIx xs.length xs.length (some (-1)) = xs.length - 1 := by
    show (if (-1 : Int) < 0 then ((-1 : Int) + (xs.length : Int)).toNat else min (-1 : Int).toNat xs.length) = _
    rw [if_pos (by decide)]; omega
  rw [this, List.dropLast_eq_take]
theorem cut_last (xs : List D) : VS.cutD xs (some (-1)) none = xs.drop (xs.length - 1) := by
  unfold VS.cutD
  have : HT.sIx xs.length 0 (some (-1)) = xs.length - 1 := by
    show (if (-1 : Int) < 0 then ((-1 : Int) + (xs.length : Int)).toNat else min (-1 : Int).toNat xs.length) = _
    rw [if_pos (by decide)]; omega
  rw [this, HT.sIx_none, List.take_of_length_le]
  rw [List.length_drop]; omega
theorem oq_sl_tup (xs : List D) (lo hi : Option Int) : P.op (fSl (.tup xs) lo hi) = .ok (.tup (VS.cutD xs lo hi)) := rfl
theorem oq_sl_lst (xs : List D) (lo hi : Option Int) : P.op (fSl (.lst xs) lo hi) = .ok (.lst (VS.cutD xs lo hi)) := rfl
theorem oq_sl_fl (xs : List D) (lo hi : Option Int) : P.op (fSl (.fl xs) lo hi) = .ok (.lst (VS.cutD xs lo hi)) := rfl
theorem sl_tup_take (xs : List D) (k : Nat) : P.op (fSl (.tup xs) none (some (k : Int))) = .ok (.tup (xs.take k)) := by rw [oq_sl_tup, cut_take]
theorem sl_lst_take (xs : List D) (k : Nat) : P.op (fSl (.lst xs) none (some (k : Int))) = .ok (.lst (xs.take k)) := by rw [oq_sl_lst, cut_take]
theorem sl_tup_drop (xs : List D) (k : Nat) : P.op (fSl (.tup xs) (some (k : Int)) none) = .ok (.tup (xs.drop k)) := by rw [oq_sl_tup, cut_drop]
theorem sl_tup_init (xs : List D) : P.op (fSl (.tup xs) none (some (-1))) = .ok (.tup xs.dropLast) := by rw [oq_sl_tup, cut_init]
theorem sl_tup_last (xs : List D) : P.op (fSl (.tup xs) (some (-1)) none) = .ok (.tup (xs.drop (xs.length - 1))) := by rw [oq_sl_tup, cut_last]
theorem sl_fl_63 (xs : List D) (h : xs.length ≤ 63) : P.op (fSl (.fl xs) none (some 63)) = .ok (.lst xs) := by
  rw [oq_sl_fl, show (63 : Int) = ((63 : Nat) : Int) from rfl, cut_take, List.take_of_length_le h]
end VS
namespace VS
open PySem PySem.Spec PyProof.Rows L2
/-! things with small numbers -/
mutual
def D.ib : D → Nat
  | .int i => i.natAbs
  | .lst xs => ibs xs
  | .tup xs => ibs xs
  | .str x => x.cps.size
  | _ => 0
def ibs : List D → Nat
  | [] => 0
  | x :: xs => max x.ib (ibs xs)
end
theorem ten18 : (10 : Nat) ^ 60 = 1000000000000000000000000000000000000000000000000000000000000 := by decide
mutual
theorem sh_of : ∀ d : D, d.cl = true → d.ib ≤ 1000000000000000000 → d.py.showable = true ∧ PyData.leavesShort 100 d.py = true
  | .non, _, _ => ⟨rfl, rfl⟩
  | .bl _, _, _ => ⟨rfl, rfl⟩
  | .int i, _, h => by
    rw [D.ib] at h
    have := th_int (i := i) (by rw [ten18]; omega)
    exact ⟨this.sh, this.lv⟩
  | .str x, h, _ => by
    rw [D.cl] at h
    exact ⟨(th_str h).sh, (th_str h).lv⟩
  | .lst xs, h, k => by
    rw [D.cl] at h; rw [D.ib] at k
    rw [D.py, PyData.showable, PyData.leavesShort]
    exact shs_of xs h k
  | .tup xs, h, k => by
    rw [D.cl] at h; rw [D.ib] at k
    rw [D.py, PyData.showable, PyData.leavesShort]
    exact shs_of xs h k
  | .dct t l, h, _ => by obtain ⟨rfl, rfl⟩ := cl_dct h; exact ⟨rfl, rfl⟩
  | .op _, h, _ => by simp [D.cl] at h
  | .fl _, h, _ => by simp [D.cl] at h
theorem shs_of : ∀ ds : List D, cls ds = true → ibs ds ≤ 1000000000000000000 → PyData.showableAll (pys ds) = true ∧ PyData.leavesShortAll 100 (pys ds) = true
  | [], _, _ => ⟨rfl, rfl⟩
  | d :: ds, h, k => by
    rw [cls, Bool.and_eq_true] at h
    rw [ibs] at k
    obtain ⟨a1, a2⟩ := sh_of d h.1 (by omega)
    obtain ⟨b1, b2⟩ := shs_of ds h.2 (by omega)
    rw [pys, PyData.showableAll, PyData.leavesShortAll, a1, a2, b1, b2]
    exact ⟨rfl, rfl⟩
end
/-- at most n deep, w of weight, numbers to B -/
structure Tb (n w B : Nat) (d : D) : Prop where
  cl : d.cl = true
  dp : d.py.depth ≤ n
  wt : d.py.weight ≤ w
  ib : d.ib ≤ B
structure Tbs (n w B : Nat) (ds : List D) : Prop where
  cl : cls ds = true
  dp : PyData.depthAll (pys ds) ≤ n
  wt : PyData.weightAll (pys ds) ≤ w
  ib : ibs ds ≤ B
section
variable {n n' w w' B B' : Nat} {d : D} {ds es : List D}
theorem Tb.th (h : Tb n w B d) (hB : B ≤ 1000000000000000000) : Th n w d := by
  obtain ⟨a, b⟩ := sh_of d h.cl (Nat.le_trans h.ib hB)
  exact ⟨h.cl, a, b, h.dp, h.wt⟩
theorem Tb.mono (h : Tb n w B d) (a : n ≤ n') (b : w ≤ w') (c : B ≤ B') : Tb n' w' B' d := ⟨h.cl, Nat.le_trans h.dp a, Nat.le_trans h.wt b, Nat.le_trans h.ib c⟩
theorem Tbs.mono (h : Tbs n w B ds) (a : n ≤ n') (b : w ≤ w') (c : B ≤ B') : Tbs n' w' B' ds := ⟨h.cl, Nat.le_trans h.dp a, Nat.le_trans h.wt b, Nat.le_trans h.ib c⟩
theorem tbs_nil : Tbs n 0 B [] := ⟨rfl, Nat.zero_le _, Nat.le_refl _, Nat.zero_le _⟩
theorem tbs_cons (h : Tb n w B d) (k : Tbs n w' B ds) : Tbs n (w + 1 + w') B (d :: ds) where
  cl := by rw [cls, h.cl, k.cl]; rfl
  dp := by rw [pys, PyData.depthAll]; exact Nat.max_le.mpr ⟨h.dp, k.dp⟩
  wt := by rw [pys, PyData.weightAll]; have := h.wt; have := k.wt; omega
  ib := by rw [ibs]; exact Nat.max_le.mpr ⟨h.ib, k.ib⟩
theorem Tbs.hd (h : Tbs n w B (d :: ds)) : Tb n w B d := by
  obtain ⟨h1, h4, h5, h6⟩ := h
  rw [cls, Bool.and_eq_true] at h1
  rw [pys, PyData.depthAll] at h4
  rw [pys, PyData.weightAll] at h5
  rw [ibs] at h6
  exact ⟨h1.1, by omega, by omega, by omega⟩
theorem Tbs.tl (h : Tbs n w B (d :: ds)) : Tbs n (w - d.py.weight - 1) B ds ∧ d.py.weight + 1 ≤ w := by
  obtain ⟨h1, h4, h5, h6⟩ := h
  rw [cls, Bool.and_eq_true] at h1
  rw [pys, PyData.depthAll] at h4
  rw [pys, PyData.weightAll] at h5
  rw [ibs] at h6
  exact ⟨⟨h1.2, by omega, by omega, by omega⟩, by omega⟩
theorem Tbs.at_ : ∀ {ds : List D} {w : Nat}, Tbs n w B ds → ∀ d ∈ ds, Tb n w B d
  | [], _, _, d, m => nomatch m
  | x :: xs, w, h, d, m => by
    rcases List.mem_cons.mp m with rfl | m
    · exact h.hd
    · exact (Tbs.at_ h.tl.1 d m).mono (Nat.le_refl _) (by omega) (Nat.le_refl _)
theorem tbs_app : ∀ {ds es : List D} {w w' : Nat}, Tbs n w B ds → Tbs n w' B es → Tbs n (w + w') B (ds ++ es)
  | [], es, w, w', _, k => k.mono (Nat.le_refl _) (by omega) (Nat.le_refl _)
  | d :: ds, es, w, w', h, k => by
    obtain ⟨a, b⟩ := h.tl
    have h1 : Tb n d.py.weight B d := ⟨h.hd.cl, h.hd.dp, Nat.le_refl _, h.hd.ib⟩
    exact (tbs_cons h1 (tbs_app a k)).mono (Nat.le_refl _) (by omega) (Nat.le_refl _)
theorem tbs_take : ∀ {ds : List D} {w : Nat} (i : Nat), Tbs n w B ds → Tbs n w B (ds.take i)
  | _, w, 0, _ => tbs_nil.mono (Nat.le_refl _) (Nat.zero_le _) (Nat.le_refl _)
  | [], w, i + 1, _ => by rw [List.take_nil]; exact tbs_nil.mono (Nat.le_refl _) (Nat.zero_le _) (Nat.le_refl _)
  | d :: ds, w, i + 1, h => by
    obtain ⟨a, b⟩ := h.tl
    have h1 : Tb n d.py.weight B d := ⟨h.hd.cl, h.hd.dp, Nat.le_refl _, h.hd.ib⟩
    rw [List.take_succ_cons]
    exact (tbs_cons h1 (tbs_take i a)).mono (Nat.le_refl _) (by omega) (Nat.le_refl _)
theorem tbs_drop : ∀ {ds : List D} {w : Nat} (i : Nat), Tbs n w B ds → Tbs n w B (ds.drop i)
  | _, w, 0, h => h
  | [], w, i + 1, _ => by rw [List.drop_nil]; exact tbs_nil.mono (Nat.le_refl _) (Nat.zero_le _) (Nat.le_refl _)
  | d :: ds, w, i + 1, h => by
    obtain ⟨a, b⟩ := h.tl
    rw [List.drop_succ_cons]
    exact (tbs_drop i a).mono (Nat.le_refl _) (by omega) (Nat.le_refl _)
theorem tbs_rev : ∀ {ds : List D} {w : Nat}, Tbs n w B ds → Tbs n w B ds.reverse
  | [], w, h => h
  | d :: ds, w, h => by
    obtain ⟨a, b⟩ := h.tl
    have h1 : Tb n d.py.weight B d := ⟨h.hd.cl, h.hd.dp, Nat.le_refl _, h.hd.ib⟩
    rw [List.reverse_cons]
    exact (tbs_app (tbs_rev a) (tbs_cons h1 tbs_nil)).mono (Nat.le_refl _) (by omega) (Nat.le_refl _)
/-- one item is another one -/
theorem tbs_put : ∀ {ds : List D} {w : Nat} (i : Nat) {y : D}, i < ds.length → Tbs n w B ds → Tb n w' B y → Tbs n (w + w') B (ds.take i ++ [y] ++ ds.drop (i + 1))
  | [], w, i, y, hi, _, _ => by simp at hi
  | d :: ds, w, 0, y, _, h, k => by
    obtain ⟨a, b⟩ := h.tl
    exact (tbs_cons k a).mono (Nat.le_refl _) (by omega) (Nat.le_refl _)
  | d :: ds, w, i + 1, y, hi, h, k => by
    obtain ⟨a, b⟩ := h.tl
    have h1 : Tb n d.py.weight B d := ⟨h.hd.cl, h.hd.dp, Nat.le_refl _, h.hd.ib⟩
    rw [List.take_succ_cons, List.drop_succ_cons]
    exact (tbs_cons h1 (tbs_put i (by simpa using hi) a k)).mono (Nat.le_refl _) (by omega) (Nat.le_refl _)
theorem tb_tup (h : Tbs n w B ds) : Tb (n + 1) w B (.tup ds) where
  cl := by rw [D.cl]; exact h.cl
  dp := by rw [D.py, PyData.depth]; have := h.dp; omega
  wt := by rw [D.py, PyData.weight]; exact h.wt
  ib := by rw [D.ib]; exact h.ib
theorem tb_lst (h : Tbs n w B ds) : Tb (n + 1) w B (.lst ds) where
  cl := by rw [D.cl]; exact h.cl
  dp := by rw [D.py, PyData.depth]; have := h.dp; omega
  wt := by rw [D.py, PyData.weight]; exact h.wt
  ib := by rw [D.ib]; exact h.ib
theorem Tb.items (h : Tb n w B (.tup ds)) : Tbs (n - 1) w B ds ∧ 1 ≤ n where
  left := ⟨by have := h.cl; rw [D.cl] at this; exact this, by have := h.dp; rw [D.py, PyData.depth] at this; omega, by have := h.wt; rw [D.py, PyData.weight] at this; exact this, by have := h.ib; rw [D.ib] at this; exact this⟩
  right := by have := h.dp; rw [D.py, PyData.depth] at this; omega
theorem tb_non : Tb 0 0 B .non := ⟨rfl, Nat.le_refl _, Nat.le_refl _, Nat.zero_le _⟩
theorem tb_bl (b : Bool) : Tb 0 0 B (.bl b) := ⟨rfl, Nat.le_refl _, Nat.le_refl _, Nat.zero_le _⟩
theorem tb_dct : Tb 1 0 B (.dct false []) := ⟨rfl, by decide, by decide, Nat.zero_le _⟩
theorem tb_int {i : Int} (h : i.natAbs ≤ B) (hB : B ≤ 1000000000000000000) : Tb 0 200 B (.int i) := by
  have := th_int (i := i) (by rw [ten18]; omega)
  exact ⟨rfl, this.dp, this.wt, by rw [D.ib]; exact h⟩
theorem tb_str {x : Str} (h : (cs x).all letter = true) (hB : x.cps.size ≤ B) : Tb 0 x.cps.size B (.str x) := ⟨(th_str h).cl, (th_str h).dp, (th_str h).wt, by rw [D.ib]; exact hB⟩
theorem tbs_all : ∀ {ds : List D}, (∀ d ∈ ds, Tb n w B d) → Tbs n (ds.length * (w + 1)) B ds
  | [], _ => tbs_nil.mono (Nat.le_refl _) (Nat.zero_le _) (Nat.le_refl _)
  | d :: ds, h => (tbs_cons (h d List.mem_cons_self) (tbs_all fun x m => h x (List.mem_cons_of_mem _ m))).mono (Nat.le_refl _) (by rw [List.length_cons, Nat.succ_mul]; omega) (Nat.le_refl _)
end
/-! the same is the same -/
mutual
theorem canLay_of : ∀ d : D, d.cl = true → d.plain = true → d.py.canLay0 = true
  | .non, _, _ => rfl
  | .bl _, _, _ => rfl
  | .int _, _, _ => rfl
  | .str x, h, _ => by
    rw [D.py, PyData.canLay0]
    rw [D.cl] at h
    exact (th_str (x := x) h).str
  | .lst xs, h, k => by rw [D.cl] at h; rw [D.plain] at k; rw [D.py, PyData.canLay0]; exact canLays_of xs h k
  | .tup xs, h, k => by rw [D.cl] at h; rw [D.plain] at k; rw [D.py, PyData.canLay0]; exact canLays_of xs h k
  | .dct _ _, _, k => by rw [D.plain] at k; cases k
  | .op _, _, k => by rw [D.plain] at k; cases k
  | .fl _, h, _ => by simp [D.cl] at h
theorem canLays_of : ∀ ds : List D, cls ds = true → plains ds = true → PyData.canLayAll0 (pys ds) = true
  | [], _, _ => rfl
  | d :: ds, h, k => by
    rw [cls, Bool.and_eq_true] at h
    rw [plains, Bool.and_eq_true] at k
    rw [pys, PyData.canLayAll0, canLay_of d h.1 k.1, canLays_of ds h.2 k.2]; rfl
end
theorem okT_of {n w B : Nat} {d : D} (h : Tb n w B d) (k : d.plain = true) (hn : n ≤ 64) : d.ok = true := by
  unfold D.ok SeqAt.shaped
  rw [k, canLay_of d h.cl k]
  have := h.dp
  exact decide_eq_true (by omega)
theorem oq_eq_same {n w B : Nat} {d : D} (h : Tb n w B d) (k : d.plain = true) (hn : n ≤ 64) : P.op (fEq d d) = .ok (.bl true) := by
  unfold fEq
  rw [if_pos ⟨okT_of h k hn, okT_of h k hn⟩, eqv_refl _ (canLay_of d h.cl k)]; rfl
theorem oq_ne_same {n w B : Nat} {d : D} (h : Tb n w B d) (k : d.plain = true) (hn : n ≤ 64) : P.op (fNe d d) = .ok (.bl false) := by
  unfold fNe
  rw [if_pos ⟨okT_of h k hn, okT_of h k hn⟩, eqv_refl _ (canLay_of d h.cl k)]; rfl
/-- types -/
theorem ty_of {d : D} (h : d.cl = true) : d.ty.isSome = true := by
  cases d with
  | dct t l => obtain ⟨rfl, rfl⟩ := cl_dct h; rfl
  | op _ => simp [D.cl] at h
  | _ => rfl
def D.isTup : D → Bool
  | .tup _ => true
  | _ => false
def D.isInt : D → Bool
  | .int _ => true
  | .bl _ => true
  | _ => false
def D.isBl : D → Bool
  | .bl _ => true
  | _ => false
def D.isStr : D → Bool
  | .str _ => true
  | _ => false
theorem isi_tup {d : D} (h : d.cl = true) : P.op (fIsi [d, .op (.ty "tuple")]) = .ok (.bl d.isTup) := by
  cases d with
  | dct t l => obtain ⟨rfl, rfl⟩ := cl_dct h; rfl
  | op _ => simp [D.cl] at h
  | fl _ => simp [D.cl] at h
  | _ => rfl
theorem isi_int {d : D} (h : d.cl = true) : P.op (fIsi [d, .op (.ty "int")]) = .ok (.bl d.isInt) := by
  cases d with
  | dct t l => obtain ⟨rfl, rfl⟩ := cl_dct h; rfl
  | op _ => simp [D.cl] at h
  | fl _ => simp [D.cl] at h
  | _ => rfl
theorem isi_bool {d : D} (h : d.cl = true) : P.op (fIsi [d, .op (.ty "bool")]) = .ok (.bl d.isBl) := by
  cases d with
  | dct t l => obtain ⟨rfl, rfl⟩ := cl_dct h; rfl
  | op _ => simp [D.cl] at h
  | fl _ => simp [D.cl] at h
  | _ => rfl
theorem isi_str {d : D} (h : d.cl = true) : P.op (fIsi [d, .op (.ty "str")]) = .ok (.bl d.isStr) := by
  cases d with
  | dct t l => obtain ⟨rfl, rfl⟩ := cl_dct h; rfl
  | op _ => simp [D.cl] at h
  | fl _ => simp [D.cl] at h
  | _ => rfl
end VS

/-! VW2: dicts by their entries; counting; sorted pairs. -/
namespace VS
open PySem PySem.Spec PyProof.Rows L2
section
variable {κ β K : Type} [DecidableEq κ] [DecidableEq K]
def getA (l : List (κ × β)) (k : κ) : Option β := (l.find? fun p => decide (p.1 = k)).map (·.2)
def putA (l : List (κ × β)) (k : κ) (v : β) : List (κ × β) := if (l.any fun p => decide (p.1 = k)) = true then l.map (fun p => if p.1 = k then (p.1, v) else p) else l ++ [(k, v)]
def encA (kd : κ → D) (vd : β → D) (l : List (κ × β)) : List (D × D) := l.map fun p => (kd p.1, vd p.2)
variable {kf : D → Option K} {kd : κ → D} {vd : β → D} {g : κ → K}
theorem look_enc (h : ∀ a, kf (kd a) = some (g a)) (gi : ∀ a b, g a = g b → a = b) (k : κ) : ∀ l : List (κ × β), lookD kf (encA kd vd l) (g k) = (getA l k).map vd
  | [] => rfl
  | p :: l => by
    have ih := look_enc h gi k l
    unfold lookD getA encA at *
    rw [List.map_cons, List.find?_cons, List.find?_cons, h]
    by_cases c : p.1 = k
    · rw [decide_eq_true (by rw [c]), decide_eq_true c]; rfl
    · rw [decide_eq_false (fun z => c (gi _ _ (Option.some.inj z))), decide_eq_false c]; exact ih
theorem any_enc (h : ∀ a, kf (kd a) = some (g a)) (gi : ∀ a b, g a = g b → a = b) (k : κ) (l : List (κ × β)) : ((encA kd vd l).any fun p => decide (kf p.1 = some (g k))) = l.any fun p => decide (p.1 = k) := by
  unfold encA
  rw [List.any_map]
  congr 1
  funext p
  show decide (kf (kd p.1) = some (g k)) = decide (p.1 = k)
  rw [h]
  by_cases c : p.1 = k
  · rw [decide_eq_true (by rw [c]), decide_eq_true c]
  · rw [decide_eq_false (fun z => c (gi _ _ (Option.some.inj z))), decide_eq_false c]
theorem put_enc (h : ∀ a, kf (kd a) = some (g a)) (gi : ∀ a b, g a = g b → a = b) (k : κ) (v : β) (l : List (κ × β)) : putL kf (encA kd vd l) (g k) (kd k) (vd v) = encA kd vd (putA l k v) := by
  unfold putL putA
  rw [any_enc h gi]
  split
  · unfold encA
    rw [List.map_map, List.map_map]
    refine List.map_congr_left fun p _ => ?_
    show (if kf (kd p.1) = some (g k) then (kd p.1, vd v) else (kd p.1, vd p.2)) = _
    rw [h]
    simp only [Function.comp]
    by_cases c : p.1 = k
    · rw [if_pos (by rw [c]), if_pos c]
    · rw [if_neg (fun z => c (gi _ _ (Option.some.inj z))), if_neg c]
  · unfold encA
    rw [List.map_append]; rfl
theorem putA_keys (l : List (κ × β)) (k : κ) (v : β) : (putA l k v).map (·.1) = if k ∈ l.map (·.1) then l.map (·.1) else l.map (·.1) ++ [k] := by
  unfold putA
  by_cases c : k ∈ l.map (·.1)
  · rw [if_pos c, if_pos]
    · rw [List.map_map]
      refine List.map_congr_left fun p _ => ?_
      simp only [Function.comp]
      split <;> rfl
    · obtain ⟨p, hp, e⟩ := List.mem_map.mp c
      exact List.any_eq_true.mpr ⟨p, hp, decide_eq_true e⟩
  · rw [if_neg c, if_neg]
    · rw [List.map_append]; rfl
    · intro z
      obtain ⟨p, hp, e⟩ := List.any_eq_true.mp z
      exact c (List.mem_map.mpr ⟨p, hp, of_decide_eq_true e⟩)
theorem putA_nd {l : List (κ × β)} (h : (l.map (·.1)).Nodup) (k : κ) (v : β) : ((putA l k v).map (·.1)).Nodup := by
  rw [putA_keys]
  split
  · exact h
  · rename_i c
    exact List.nodup_append.mpr ⟨h, List.nodup_cons.mpr ⟨by simp, List.nodup_nil⟩, fun a ha b hb e => by
      rw [List.mem_singleton.mp hb] at e
      exact c (e ▸ ha)⟩
theorem putA_len (l : List (κ × β)) (k : κ) (v : β) : (putA l k v).length ≤ l.length + 1 := by
  unfold putA
  split
  · rw [List.length_map]; omega
  · rw [List.length_append]; simp
theorem getA_mem {l : List (κ × β)} (nd : (l.map (·.1)).Nodup) {p : κ × β} (h : p ∈ l) : getA l p.1 = some p.2 := by
  induction l with
  | nil => cases h
  | cons q l ih =>
    rw [List.map_cons, List.nodup_cons] at nd
    unfold getA at *
    rw [List.find?_cons]
    rcases List.mem_cons.mp h with rfl | h
    · rw [decide_eq_true rfl]; rfl
    · rw [decide_eq_false (fun z => nd.1 (by rw [z]; exact List.mem_map_of_mem h))]
      exact ih nd.2 h
theorem getA_none {l : List (κ × β)} {k : κ} (h : k ∉ l.map (·.1)) : getA l k = none := by
  unfold getA
  rw [List.find?_eq_none.mpr (fun p hp z => h (by rw [← of_decide_eq_true z]; exact List.mem_map_of_mem hp))]; rfl
theorem putA_mem {l : List (κ × β)} (nd : (l.map (·.1)).Nodup) (k : κ) (v : β) (p : κ × β) : p ∈ putA l k v ↔ (p = (k, v) ∨ (p ∈ l ∧ p.1 ≠ k)) := by
  unfold putA
  by_cases c : (l.any fun p => decide (p.1 = k)) = true
  · rw [if_pos c]
    obtain ⟨q, hq, e⟩ := List.any_eq_true.mp c
    have e := of_decide_eq_true e
    constructor
    · intro h
      obtain ⟨r, hr, rfl⟩ := List.mem_map.mp h
      by_cases z : r.1 = k
      · rw [if_pos z, z]; exact .inl rfl
      · rw [if_neg z]; exact .inr ⟨hr, z⟩
    · rintro (rfl | ⟨h, z⟩)
      · exact List.mem_map.mpr ⟨q, hq, by rw [if_pos e, e]⟩
      · exact List.mem_map.mpr ⟨p, h, by rw [if_neg z]⟩
  · rw [if_neg c]
    constructor
    · intro h
      rcases List.mem_append.mp h with h | h
      · exact .inr ⟨h, fun z => c (List.any_eq_true.mpr ⟨p, h, decide_eq_true z⟩)⟩
      · exact .inl (List.mem_singleton.mp h)
    · rintro (rfl | ⟨h, z⟩)
      · exact List.mem_append.mpr (.inr List.mem_cons_self)
      · exact List.mem_append.mpr (.inl h)
end
/-! counting -/
section
variable {κ : Type} [DecidableEq κ]
def bumpA (l : List (κ × Int)) (k : κ) : List (κ × Int) := putA l k ((getA l k).getD 0 + 1)
def countA (ks : List κ) : List (κ × Int) := ks.foldl bumpA []
theorem bump_inv (ks : List κ) : ∀ (dn : List κ) (l : List (κ × Int)), ((l.map (·.1)).Nodup ∧ ∀ p, p ∈ l ↔ p.1 ∈ dn ∧ p.2 = (dn.count p.1 : Int)) → ((ks.foldl bumpA l).map (·.1)).Nodup ∧ ∀ p, p ∈ ks.foldl bumpA l ↔ p.1 ∈ dn ++ ks ∧ p.2 = ((dn ++ ks).count p.1 : Int) := by
  induction ks with
  | nil => intro dn l h; simpa using h
  | cons k ks ih =>
    intro dn l ⟨nd, h⟩
    have := ih (dn ++ [k]) (bumpA l k) ⟨putA_nd nd _ _, fun p => ?_⟩
    · rw [List.append_assoc] at this; exact this
    · unfold bumpA
      rw [putA_mem nd]
      have gk : (getA l k).getD 0 = (dn.count k : Int) := by
        by_cases c : k ∈ dn
        · have := (h (k, (dn.count k : Int))).mpr ⟨c, rfl⟩
          rw [getA_mem nd this]; rfl
        · rw [getA_none]
          · rw [List.count_eq_zero_of_not_mem c]; rfl
          · intro z
            obtain ⟨q, hq, e⟩ := List.mem_map.mp z
            exact c (e ▸ ((h q).mp hq).1)
      rw [gk]
      constructor
      · rintro (rfl | ⟨hp, ne⟩)
        · exact ⟨List.mem_append.mpr (.inr List.mem_cons_self), by simp [List.count_append]⟩
        · obtain ⟨a, b⟩ := (h p).mp hp
          exact ⟨List.mem_append.mpr (.inl a), by rw [List.count_append, b]; simp [List.count_cons, Ne.symm ne]⟩
      · rintro ⟨a, b⟩
        by_cases e : p.1 = k
        · left
          refine Prod.ext e ?_
          rw [b, e]; simp [List.count_append]
        · right
          refine ⟨(h p).mpr ⟨?_, ?_⟩, e⟩
          · rcases List.mem_append.mp a with a | a
            · exact a
            · exact absurd (List.mem_singleton.mp a) e
          · rw [b, List.count_append]; simp [List.count_cons, Ne.symm e]
theorem count_nd (ks : List κ) : ((countA ks).map (·.1)).Nodup := (bump_inv ks [] [] ⟨List.nodup_nil, fun p => by simp⟩).1
theorem count_mem (ks : List κ) (p : κ × Int) : p ∈ countA ks ↔ p.1 ∈ ks ∧ p.2 = (ks.count p.1 : Int) := by
  have := (bump_inv ks [] [] ⟨List.nodup_nil, fun p => by simp⟩).2 p
  unfold countA
  simpa using this
theorem count_small {ks : List κ} {p : κ × Int} (h : p ∈ countA ks) : 0 ≤ p.2 ∧ p.2 ≤ ks.length := by
  have e := ((count_mem ks p).mp h).2
  have := List.count_le_length (a := p.1) (l := ks)
  omega
theorem nd_of_keys {β : Type} {l : List (κ × β)} (h : (l.map (·.1)).Nodup) : l.Nodup := by
  rw [List.nodup_iff_pairwise_ne] at h ⊢
  exact (List.pairwise_map.mp h).imp fun h e => h (by rw [e])
theorem count_perm {ks ks' : List κ} (h : ks.Perm ks') : (countA ks).Perm (countA ks') := by
  refine (List.perm_ext_iff_of_nodup (nd_of_keys (count_nd ks)) (nd_of_keys (count_nd ks'))).mpr fun p => ?_
  rw [count_mem, count_mem, h.mem_iff, h.count_eq]
theorem count_len (ks : List κ) : (countA ks).length ≤ ks.length := by
  unfold countA
  have : ∀ (ks : List κ) (l : List (κ × Int)), (ks.foldl bumpA l).length ≤ l.length + ks.length := by
    intro ks
    induction ks with
    | nil => intro l; simp
    | cons k ks ih =>
      intro l
      rw [List.foldl_cons, List.length_cons]
      have := ih (bumpA l k)
      have := putA_len l k ((getA l k).getD 0 + 1)
      unfold bumpA at *
      omega
  simpa using this ks []
theorem fold_len (ks : List κ) : ∀ l : List (κ × Int), (ks.foldl bumpA l).length ≤ l.length + ks.length := by
  induction ks with
  | nil => intro l; simp
  | cons k ks ih =>
    intro l
    rw [List.foldl_cons, List.length_cons]
    have := ih (bumpA l k)
    have := putA_len l k ((getA l k).getD 0 + 1)
    unfold bumpA at *
    omega
end
/-! an order's one sorted list -/
structure Ord {α : Type} (le : α → α → Bool) : Prop where
  tot : ∀ a b, (le a b || le b a) = true
  tr : ∀ a b c, le a b = true → le b c = true → le a c = true
  an : ∀ a b, le a b = true → le b a = true → a = b
theorem sort_eq {α : Type} {le : α → α → Bool} (o : Ord le) {l s : List α} (p : s.Perm l) (h : s.Pairwise (fun a b => le a b = true)) : l.mergeSort le = s :=
  List.Perm.eq_of_pairwise (le := fun a b => le a b = true) (fun a b _ _ h1 h2 => o.an a b h1 h2) (List.pairwise_mergeSort (le := le) o.tr o.tot l) h ((List.mergeSort_perm l le).trans p.symm)
theorem sort_perm {α : Type} {le : α → α → Bool} (o : Ord le) {l l' : List α} (p : l.Perm l') : l.mergeSort le = l'.mergeSort le :=
  sort_eq o ((List.mergeSort_perm l' le).trans p.symm) (List.pairwise_mergeSort (le := le) o.tr o.tot l')
theorem ord_lex : Ord lexLe where
  tot := fun a b => by unfold lexLe; simp; omega
  tr := fun a b c => by unfold lexLe; simp; omega
  an := fun a b => by
    unfold lexLe; simp
    intro h1 h2
    exact Prod.ext (by omega) (by omega)
theorem ord_int : Ord (fun a b : Int => decide (a ≤ b)) where
  tot := fun a b => by simp; omega
  tr := fun a b c => by simp; omega
  an := fun a b => by simp; omega
/-- pairs by their keys first -/
def pairLe {κ : Type} [DecidableEq κ] (le : κ → κ → Bool) (p q : κ × Int) : Bool := if p.1 = q.1 then decide (p.2 ≤ q.2) else le p.1 q.1
theorem ord_pair {κ : Type} [DecidableEq κ] {le : κ → κ → Bool} (o : Ord le) : Ord (pairLe le) where
  tot := fun a b => by
    unfold pairLe
    by_cases h : a.1 = b.1
    · rw [if_pos h, if_pos h.symm]; simp; omega
    · rw [if_neg h, if_neg (Ne.symm h)]; exact o.tot _ _
  tr := fun a b c h1 h2 => by
    unfold pairLe at *
    by_cases x : a.1 = b.1
    · rw [if_pos x] at h1
      by_cases y : b.1 = c.1
      · rw [if_pos y] at h2; rw [if_pos (x.trans y)]; simp at *; omega
      · rw [if_neg y] at h2; rw [if_neg (x ▸ y), x]; exact h2
    · rw [if_neg x] at h1
      by_cases y : b.1 = c.1
      · rw [if_neg (y ▸ x), ← y]; exact h1
      · rw [if_neg y] at h2
        by_cases z : a.1 = c.1
        · exact absurd (o.an _ _ h1 (z ▸ h2)) x
        · rw [if_neg z]; exact o.tr _ _ _ h1 h2
  an := fun a b h1 h2 => by
    unfold pairLe at *
    by_cases x : a.1 = b.1
    · rw [if_pos x] at h1; rw [if_pos x.symm] at h2
      simp at h1 h2
      exact Prod.ext x (by omega)
    · rw [if_neg x] at h1; rw [if_neg (Ne.symm x)] at h2
      exact absurd (o.an _ _ h1 h2) x
/-- sorted pairs are the sorted keys, each with its value -/
theorem sort_keys {κ : Type} [DecidableEq κ] {le : κ → κ → Bool} (o : Ord le) {l : List (κ × Int)} (nd : (l.map (·.1)).Nodup) : l.mergeSort (pairLe le) = ((l.map (·.1)).mergeSort le).map fun k => (k, (getA l k).getD 0) := by
  refine sort_eq (ord_pair o) ?_ ?_
  · have h1 : ((l.map (·.1)).mergeSort le).map (fun k => (k, (getA l k).getD 0)) |>.Perm ((l.map (·.1)).map fun k => (k, (getA l k).getD 0)) := (List.mergeSort_perm _ le).map _
    refine h1.trans ?_
    rw [List.map_map]
    have : l.map ((fun k => (k, (getA l k).getD 0)) ∘ fun x => x.1) = l := by
      have e : ∀ p ∈ l, ((fun k => (k, (getA l k).getD 0)) ∘ fun x : κ × Int => x.1) p = p := fun p hp => by
        simp only [Function.comp]
        rw [getA_mem nd hp]; rfl
      calc _ = l.map id := List.map_congr_left e
        _ = l := List.map_id l
    rw [this]
  · have srt := List.pairwise_mergeSort (le := le) o.tr o.tot (l.map (·.1))
    have nd' : ((l.map (·.1)).mergeSort le).Nodup := (List.mergeSort_perm _ le).nodup_iff.mpr nd
    rw [List.pairwise_map]
    rw [List.nodup_iff_pairwise_ne] at nd'
    refine (srt.and nd').imp fun h => ?_
    unfold pairLe
    rw [if_neg h.2]
    exact h.1
/-! dicts whose keys are pairs, whole numbers -/
section
variable {β : Type} (vd : β → D)
theorem keyT_pair (p : Int × Int) : keyT (dPair p) = some [.inl p.1, .inl p.2] := rfl
theorem keyT_inj (a b : Int × Int) (h : ([.inl a.1, .inl a.2] : List Key) = [.inl b.1, .inl b.2]) : a = b := by
  injection h with h1 h2
  injection h2 with h2 _
  injection h1 with h1
  injection h2 with h2
  exact Prod.ext h1 h2
theorem keyK_int (i : Int) : keyK (.int i) = some (.inl i) := rfl
theorem keyK_inj (a b : Int) (h : (.inl a : Key) = .inl b) : a = b := by injection h
theorem get2_T (l : List ((Int × Int) × β)) (k : Int × Int) (v : D) : fGet2 (.dct true (encA dPair vd l)) (dPair k) v = some (((getA l k).map vd).getD v) := by
  unfold fGet2 keyOf
  simp only [keyT_pair, Option.map_some, look_enc keyT_pair keyT_inj]
theorem get2_K (l : List (Int × β)) (k : Int) (v : D) : fGet2 (.dct false (encA .int vd l)) (.int k) v = some (((getA l k).map vd).getD v) := by
  unfold fGet2 keyOf
  simp only [keyK_int, Option.map_some, look_enc keyK_int keyK_inj]
theorem st_T {l : List ((Int × Int) × β)} (hl : l.length < 1000000) (k : Int × Int) (v : β) : stD (.dct true (encA dPair vd l)) (dPair k) (vd v) = some (.dct true (encA dPair vd (putA l k v))) := by
  unfold stD
  simp only [keyT_pair, Option.map_some]
  rw [if_pos (by unfold encA; rw [List.length_map]; exact hl), put_enc keyT_pair keyT_inj]
theorem st_K {l : List (Int × β)} (hl : l.length < 1000000) (k : Int) (v : β) : stD (.dct false (encA .int vd l)) (.int k) (vd v) = some (.dct false (encA .int vd (putA l k v))) := by
  unfold stD
  simp only [keyK_int, Option.map_some]
  rw [if_pos (by unfold encA; rw [List.length_map]; exact hl), put_enc keyK_int keyK_inj]
theorem ix_T {l : List ((Int × Int) × β)} {k : Int × Int} {v : β} (h : getA l k = some v) : P.op (fIx (.dct true (encA dPair vd l)) (dPair k)) = .ok (vd v) := by
  unfold fIx fIxD keyOf
  simp only [D.isDct, if_true, keyT_pair, Option.map_some, look_enc keyT_pair keyT_inj, h]
  rfl
theorem ix_K {l : List (Int × β)} {k : Int} {v : β} (h : getA l k = some v) : P.op (fIx (.dct false (encA .int vd l)) (.int k)) = .ok (vd v) := by
  unfold fIx fIxD keyOf
  simp only [D.isDct, if_true, keyK_int, Option.map_some, look_enc keyK_int keyK_inj, h]
  rfl
theorem encA_keys {κ : Type} (kd : κ → D) (l : List (κ × β)) : (encA kd vd l).map (·.1) = (l.map (·.1)).map kd := by
  unfold encA
  rw [List.map_map, List.map_map]; rfl
theorem mS_pairs (c : List (Int × Int)) : (c.map dPair).mergeSort dLe = (c.mergeSort lexLe).map dPair := (List.map_mergeSort (r := lexLe) (s := dLe) (f := dPair) fun a _ b _ => (dLe_pair a b).symm).symm
theorem sort_T {l : List ((Int × Int) × β)} (h : l.length ≤ 1000000) : P.op (fSortB [.dct true (encA dPair vd l)]) = .ok (.lst (((l.map (·.1)).mergeSort lexLe).map dPair)) := by
  unfold fSortB fSortX
  simp only []
  rw [if_pos (by rw [encA_keys]; exact sortable_pairs (by rw [List.length_map]; exact h)), encA_keys, mS_pairs]; rfl
theorem sort_tup {c : List (Int × Int)} (h : c.length ≤ 1000000) : P.op (fSortB [.tup (c.map dPair)]) = .ok (.lst ((c.mergeSort lexLe).map dPair)) := by
  unfold fSortB fSortX
  simp only
  rw [if_pos (sortable_pairs h), mS_pairs]; rfl
theorem fSortX_lst (ds : List D) : fSortX [.lst ds] = none := rfl
theorem fSortK_lst (ds : List D) : fSortK [.lst ds] = none := rfl
theorem oq_sort_lst {ds : List D} (h : sortable ds) : P.op (fSortB [.lst ds]) = .ok (.lst (ds.mergeSort dLe)) := by
  unfold fSortB
  simp only [fSortX_lst]
  unfold fSortA fSort
  simp only [fSortK_lst, lstD, Option.bind_some]
  rw [if_pos h]; rfl
theorem sort_lst_pairs {c : List (Int × Int)} (h : c.length ≤ 1000000) : P.op (fSortB [.lst (c.map dPair)]) = .ok (.lst ((c.mergeSort lexLe).map dPair)) := by
  rw [oq_sort_lst (sortable_pairs h), mS_pairs]
end
def dCnt (p : (Int × Int) × Int) : D := .tup [dPair p.1, .int p.2]
theorem dLe_cnt (p q : (Int × Int) × Int) : dLe (dCnt p) (dCnt q) = pairLe lexLe p q := by
  have a1 : PySem.W.alike (dPair p.1).py (dPair q.1).py = true := rfl
  show (!PySem.W.dataLt (dCnt q).py (dCnt p).py) = _
  show (!PySem.W.dataLt (.tuple [(dPair q.1).py, .int q.2]) (.tuple [(dPair p.1).py, .int p.2])) = _
  rw [PySem.W.dataLt_pair rfl rfl]
  unfold pairLe
  have e1 : PyData.eqv (dPair q.1).py (dPair p.1).py = decide (p.1 = q.1) := by
    show PyData.eqv (.tuple [.int q.1.1, .int q.1.2]) (.tuple [.int p.1.1, .int p.1.2]) = _
    simp [PyData.eqv, PyData.eqvAll]
    by_cases h : p.1 = q.1
    · rw [h]; simp
    · rw [decide_eq_false h]
      by_cases h1 : q.1.1 = p.1.1
      · by_cases h2 : q.1.2 = p.1.2
        · exact absurd (Prod.ext h1.symm h2.symm) h
        · simp [h1, h2]
      · simp [h1]
  rw [e1]
  by_cases h : p.1 = q.1
  · rw [if_pos (by simpa using h), if_pos h]
    by_cases h2 : q.2 = p.2
    · rw [if_pos (by rw [PyData.eqv]; simpa using h2)]
      simp [h2]
    · rw [if_neg (by rw [PyData.eqv]; simpa using h2)]
      have := dLe_int p.2 q.2
      exact this
  · rw [if_neg (by simpa using h), if_neg h]
    exact dLe_pair p.1 q.1
theorem sortable_cnt {l : List ((Int × Int) × Int)} (h : l.length ≤ 1000000) : sortable (l.map dCnt) := by
  refine ⟨fun d m => ?_, fun d m d' m' => ?_, .inl fun d m => ?_, by rw [List.length_map]; exact h⟩
  · obtain ⟨p, _, rfl⟩ := List.mem_map.mp m
    refine ⟨rfl, ?_⟩
    show (PyData.tuple [.tuple [.int p.1.1, .int p.1.2], .int p.2]).depth ≤ 64
    simp [PyData.depth, PyData.depthAll]
  · obtain ⟨u, hu, rfl⟩ := List.mem_map.mp m
    obtain ⟨p, _, rfl⟩ := List.mem_map.mp hu
    obtain ⟨v, hv, rfl⟩ := List.mem_map.mp m'
    obtain ⟨q, _, rfl⟩ := List.mem_map.mp hv
    show PySem.W.alike (PyData.tuple [.tuple [.int p.1.1, .int p.1.2], .int p.2]) (PyData.tuple [.tuple [.int q.1.1, .int q.1.2], .int q.2]) = true
    simp [PySem.W.alike, PySem.W.alikeAll]
  · obtain ⟨u, hu, rfl⟩ := List.mem_map.mp m
    obtain ⟨p, _, rfl⟩ := List.mem_map.mp hu
    exact ⟨_, _, rfl⟩
theorem sort_lst_cnt {l : List ((Int × Int) × Int)} (h : l.length ≤ 1000000) : P.op (fSortB [.lst (l.map dCnt)]) = .ok (.lst ((l.mergeSort (pairLe lexLe)).map dCnt)) := by
  rw [oq_sort_lst (sortable_cnt h)]
  congr 2
  exact (List.map_mergeSort (r := pairLe lexLe) (s := dLe) (f := dCnt) fun a _ b _ => (dLe_cnt a b).symm).symm
theorem eqv_pair (p q : Int × Int) : (dPair p).py.eqv (dPair q).py = decide (p = q) := by
  show PyData.eqv (.tuple [.int p.1, .int p.2]) (.tuple [.int q.1, .int q.2]) = _
  simp [PyData.eqv, PyData.eqvAll]
  by_cases h : p = q
  · rw [h]; simp
  · rw [decide_eq_false h]
    by_cases h1 : p.1 = q.1
    · by_cases h2 : p.2 = q.2
      · exact absurd (Prod.ext h1 h2) h
      · simp [h1, h2]
    · simp [h1]
theorem ok_pair (p : Int × Int) : (dPair p).ok = true := rfl
theorem oq_eq_pair (p q : Int × Int) : P.op (fEq (dPair p) (dPair q)) = .ok (.bl (decide (p = q))) := by
  unfold fEq
  rw [if_pos ⟨ok_pair p, ok_pair q⟩, eqv_pair]; rfl
theorem oq_ne_pair (p q : Int × Int) : P.op (fNe (dPair p) (dPair q)) = .ok (.bl (!decide (p = q))) := by
  unfold fNe
  rw [if_pos ⟨ok_pair p, ok_pair q⟩, eqv_pair]; rfl
theorem enum_map {α : Type} (f : α → D) (c : List α) : enumD (c.map f) = c.zipIdx.map fun p => .tup [.int (p.2 : Int), f p.1] := by
  unfold enumD
  rw [List.length_map]
  apply List.ext_getElem?
  intro i
  rw [List.getElem?_map, List.getElem?_map, List.getElem?_zipIdx]
  by_cases h : i < c.length
  · rw [List.getElem?_range h, List.getElem?_eq_getElem h]
    simp [List.getD, h]
  · rw [List.getElem?_eq_none (by rw [List.length_range]; omega), List.getElem?_eq_none (by omega)]
    rfl
theorem zip_map {α β : Type} (f : α → D) (g : β → D) (xs : List α) (ys : List β) : zipD (xs.map f) (ys.map g) = (xs.zip ys).map fun p => .tup [f p.1, g p.2] := by
  unfold zipD
  rw [List.zip_map, List.map_map]; rfl
theorem idx_same {α : Type} {c : List α} (nd : c.Nodup) {p q : α × Nat} (hp : p ∈ c.zipIdx) (hq : q ∈ c.zipIdx) : p.2 = q.2 ↔ p.1 = q.1 := by
  obtain ⟨p1, p2⟩ := p
  obtain ⟨q1, q2⟩ := q
  rw [List.mk_mem_zipIdx_iff_getElem?] at hp hq
  simp only
  constructor
  · rintro rfl; rw [hp] at hq; exact Option.some.inj hq
  · rintro rfl
    obtain ⟨h1, e1⟩ := List.getElem?_eq_some_iff.mp hp
    obtain ⟨h2, e2⟩ := List.getElem?_eq_some_iff.mp hq
    rw [List.nodup_iff_pairwise_ne, List.pairwise_iff_getElem] at nd
    rcases Nat.lt_trichotomy p2 q2 with h | h | h
    · exact absurd (e1.trans e2.symm) (nd _ _ h1 h2 h)
    · exact h
    · exact absurd (e2.trans e1.symm) (nd _ _ h2 h1 h)
theorem sl_1 (xs : List D) : P.op (fSl (.tup xs) none (some 1)) = .ok (.tup (xs.take 1)) := sl_tup_take xs 1
end VS

namespace Hd
open PySem PySem.Spec PyProof.Rows L2
def top (i : Nat) : Stmt := PySem.Challenge.pw_dotcrowds_k89_whole_steps_and_moved_crow.main.body.getD i (.Pass ⟨0, 0, 0, 0⟩)
abbrev s_is_integer : Stmt := top 6
abbrev s_is_within : Stmt := top 7
abbrev s_is_dot : Stmt := top 8
abbrev s_is_crowd : Stmt := top 12
abbrev s_check_crowd : Stmt := top 13
abbrev s_as_pairs : Stmt := top 17
abbrev s_check_two_crowds : Stmt := top 18
abbrev s_raw_step : Stmt := top 19
abbrev s_step_counts : Stmt := top 20
abbrev s_raw_moved_shown : Stmt := top 21
abbrev s_check_as_many : Stmt := top 22
abbrev s_moved_shown : Stmt := top 23
abbrev s_is_moved_shown : Stmt := top 24
abbrev s__law_hand : Stmt := top 26
abbrev s__law_draw : Stmt := top 27
abbrev s__law_any : Stmt := top 28
abbrev s__law_is_int : Stmt := top 29
abbrev s__law_mixed : Stmt := top 30
abbrev s__law_crowd : Stmt := top 31
abbrev s__law_deep : Stmt := top 32
abbrev s__law_bent : Stmt := top 33
abbrev s__law_steps : Stmt := top 34
abbrev s__law_due : Stmt := top 35
abbrev s__law_is_right : Stmt := top 36
abbrev s_law : Stmt := top 37
def d_is_integer : He.DefD := ⟨("is_integer", none), "is_integer", "is_integer", defArgs s_is_integer, defBody s_is_integer, defScope s_is_integer, [], []⟩
def d_is_within : He.DefD := ⟨("is_within", none), "is_within", "is_within", defArgs s_is_within, defBody s_is_within, defScope s_is_within, [], []⟩
def d_is_dot : He.DefD := ⟨("is_dot", none), "is_dot", "is_dot", defArgs s_is_dot, defBody s_is_dot, defScope s_is_dot, [], []⟩
def d_is_crowd : He.DefD := ⟨("is_crowd", none), "is_crowd", "is_crowd", defArgs s_is_crowd, defBody s_is_crowd, defScope s_is_crowd, [], []⟩
def d_check_crowd : He.DefD := ⟨("check_crowd", none), "check_crowd", "check_crowd", defArgs s_check_crowd, defBody s_check_crowd, defScope s_check_crowd, [], []⟩
def d_as_pairs : He.DefD := ⟨("as_pairs", none), "as_pairs", "as_pairs", defArgs s_as_pairs, defBody s_as_pairs, defScope s_as_pairs, [], []⟩
def d_check_two_crowds : He.DefD := ⟨("check_two_crowds", none), "check_two_crowds", "check_two_crowds", defArgs s_check_two_crowds, defBody s_check_two_crowds, defScope s_check_two_crowds, [], []⟩
def d_raw_step : He.DefD := ⟨("raw_step", none), "raw_step", "raw_step", defArgs s_raw_step, defBody s_raw_step, defScope s_raw_step, [], []⟩
def d_step_counts : He.DefD := ⟨("step_counts", none), "step_counts", "step_counts", defArgs s_step_counts, defBody s_step_counts, defScope s_step_counts, [], []⟩
def d_raw_moved_shown : He.DefD := ⟨("raw_moved_shown", none), "raw_moved_shown", "raw_moved_shown", defArgs s_raw_moved_shown, defBody s_raw_moved_shown, defScope s_raw_moved_shown, [], []⟩
def d_check_as_many : He.DefD := ⟨("check_as_many", none), "check_as_many", "check_as_many", defArgs s_check_as_many, defBody s_check_as_many, defScope s_check_as_many, [], []⟩
def d_moved_shown : He.DefD := ⟨("moved_shown", none), "moved_shown", "moved_shown", defArgs s_moved_shown, defBody s_moved_shown, defScope s_moved_shown, [], []⟩
def d_is_moved_shown : He.DefD := ⟨("is_moved_shown", none), "is_moved_shown", "is_moved_shown", defArgs s_is_moved_shown, defBody s_is_moved_shown, defScope s_is_moved_shown, [], []⟩
def d__law_hand : He.DefD := ⟨("_law_hand", none), "_law_hand", "_law_hand", defArgs s__law_hand, defBody s__law_hand, defScope s__law_hand, [], []⟩
def d__law_draw : He.DefD := ⟨("_law_draw", none), "_law_draw", "_law_draw", defArgs s__law_draw, defBody s__law_draw, defScope s__law_draw, [], []⟩
def d__law_any : He.DefD := ⟨("_law_any", none), "_law_any", "_law_any", defArgs s__law_any, defBody s__law_any, defScope s__law_any, [], []⟩
def d__law_is_int : He.DefD := ⟨("_law_is_int", none), "_law_is_int", "_law_is_int", defArgs s__law_is_int, defBody s__law_is_int, defScope s__law_is_int, [], []⟩
def d__law_mixed : He.DefD := ⟨("_law_mixed", none), "_law_mixed", "_law_mixed", defArgs s__law_mixed, defBody s__law_mixed, defScope s__law_mixed, [], []⟩
def d__law_crowd : He.DefD := ⟨("_law_crowd", none), "_law_crowd", "_law_crowd", defArgs s__law_crowd, defBody s__law_crowd, defScope s__law_crowd, [], []⟩
def d__law_deep : He.DefD := ⟨("_law_deep", none), "_law_deep", "_law_deep", defArgs s__law_deep, defBody s__law_deep, defScope s__law_deep, [], []⟩
def d__law_bent : He.DefD := ⟨("_law_bent", none), "_law_bent", "_law_bent", defArgs s__law_bent, defBody s__law_bent, defScope s__law_bent, [], []⟩
def d__law_steps : He.DefD := ⟨("_law_steps", none), "_law_steps", "_law_steps", defArgs s__law_steps, defBody s__law_steps, defScope s__law_steps, [], []⟩
def d__law_due : He.DefD := ⟨("_law_due", none), "_law_due", "_law_due", defArgs s__law_due, defBody s__law_due, defScope s__law_due, [], []⟩
def d__law_is_right : He.DefD := ⟨("_law_is_right", none), "_law_is_right", "_law_is_right", defArgs s__law_is_right, defBody s__law_is_right, defScope s__law_is_right, [], []⟩
def d_law : He.DefD := ⟨("law", none), "law", "law", defArgs s_law, defBody s_law, defScope s_law, [], []⟩
def fn0 : List He.DefD := [d_is_integer, d_is_within, d_is_dot, d_is_crowd, d_check_crowd, d_as_pairs, d_check_two_crowds, d_raw_step, d_step_counts, d_raw_moved_shown, d_check_as_many, d_moved_shown, d_is_moved_shown, d__law_hand, d__law_draw, d__law_any, d__law_is_int, d__law_mixed, d__law_crowd, d__law_deep, d__law_bent, d__law_steps, d__law_due, d__law_is_right, d_law]
def fn : List He.DefD := fn0
def fa0 : List He.Fa := [.glo "is_integer", .glo "is_within", .glo "is_dot", .glo "is_crowd", .glo "check_crowd", .glo "as_pairs", .glo "check_two_crowds", .glo "raw_step", .glo "step_counts", .glo "raw_moved_shown", .glo "check_as_many", .glo "moved_shown", .glo "is_moved_shown", .glo "_law_hand", .glo "_law_draw", .glo "_law_any", .glo "_law_is_int", .glo "_law_mixed", .glo "_law_crowd", .glo "_law_deep", .glo "_law_bent", .glo "_law_steps", .glo "_law_due", .glo "_law_is_right", .glo "law", .glo "CrowdError", .exc "CrowdError", .glo "NoCrowd", .exc "NoCrowd", .glo "Unlike"]
def fa1 : List He.Fa := [.exc "Unlike", .int "MOST_PLACE" 10000, .int "LEAST_CROWD" 3, .int "MOST_CROWD" 12, .str "PARTS" "parts", .str "MOVED" "moved", .free "ValueError", .free "abs", .free "all", .free "bool", .free "enumerate", .free "int", .free "isinstance", .free "len", .free "list", .free "range", .free "repr", .free "sorted", .free "tuple", .free "zip"]
def fa : List He.Fa := fa0 ++ fa1
def ls0 : List Str := ["CrowdError", "NoCrowd", "Unlike", "MOST_PLACE", "LEAST_CROWD", "MOST_CROWD", "PARTS", "MOVED", "is_integer", "is_within", "is_dot", "is_crowd", "check_crowd", "as_pairs", "check_two_crowds", "raw_step", "step_counts", "raw_moved_shown", "check_as_many", "moved_shown", "is_moved_shown", "_law_hand", "_law_draw", "_law_any", "_law_is_int", "_law_mixed", "_law_crowd", "_law_deep", "_law_bent", "_law_steps"]
def ls1 : List Str := ["_law_due", "_law_is_right"]
def ls : List Str := ls0 ++ ls1
abbrev R : PySem.W.OpenRow := PySem.W.OpenLaw.row PySem.Challenge.rw_dotcrowds_k89_whole_steps_and_moved_crow
abbrev hk : PySem.W.Hook := He.hookD 4 fa fn
def ob (s : PySem.W.SharedT) : He.AlD := He.obsDG 4 fa fn (HandSHeadRun.getT s)
theorem ob_eq (s : PySem.W.SharedT) : ob s = hk.obs s.abs := He.obsDG_eq (HandSHeadRun.getT_eq s)
theorem run (w : World) : HandSHeadRun.RunEq R (PySem.W.view R.prog [37]) hk ob 4000 ls w := by
  intro os
  kernel_rfl
end Hd
namespace Lw
noncomputable section
open PySem PySem.Spec PyProof.Rows L2 VS
structure Tops (K : PySem.W.Frag) (mg : Str → Option Value) : Prop where
  n_ValueError : mg "ValueError" = none
  n_abs : mg "abs" = none
  n_all : mg "all" = none
  n_bool : mg "bool" = none
  n_enumerate : mg "enumerate" = none
  n_int : mg "int" = none
  n_isinstance : mg "isinstance" = none
  n_len : mg "len" = none
  n_list : mg "list" = none
  n_range : mg "range" = none
  n_repr : mg "repr" = none
  n_sorted : mg "sorted" = none
  n_tuple : mg "tuple" = none
  n_zip : mg "zip" = none
  d_is_integer : DefT K mg "is_integer" Hd.s_is_integer
  d_is_within : DefT K mg "is_within" Hd.s_is_within
  d_is_dot : DefT K mg "is_dot" Hd.s_is_dot
  d_is_crowd : DefT K mg "is_crowd" Hd.s_is_crowd
  d_check_crowd : DefT K mg "check_crowd" Hd.s_check_crowd
  d_as_pairs : DefT K mg "as_pairs" Hd.s_as_pairs
  d_check_two_crowds : DefT K mg "check_two_crowds" Hd.s_check_two_crowds
  d_raw_step : DefT K mg "raw_step" Hd.s_raw_step
  d_step_counts : DefT K mg "step_counts" Hd.s_step_counts
  d_raw_moved_shown : DefT K mg "raw_moved_shown" Hd.s_raw_moved_shown
  d_check_as_many : DefT K mg "check_as_many" Hd.s_check_as_many
  d_moved_shown : DefT K mg "moved_shown" Hd.s_moved_shown
  d_is_moved_shown : DefT K mg "is_moved_shown" Hd.s_is_moved_shown
  d__law_hand : DefT K mg "_law_hand" Hd.s__law_hand
  d__law_draw : DefT K mg "_law_draw" Hd.s__law_draw
  d__law_any : DefT K mg "_law_any" Hd.s__law_any
  d__law_is_int : DefT K mg "_law_is_int" Hd.s__law_is_int
  d__law_mixed : DefT K mg "_law_mixed" Hd.s__law_mixed
  d__law_crowd : DefT K mg "_law_crowd" Hd.s__law_crowd
  d__law_deep : DefT K mg "_law_deep" Hd.s__law_deep
  d__law_bent : DefT K mg "_law_bent" Hd.s__law_bent
  d__law_steps : DefT K mg "_law_steps" Hd.s__law_steps
  d__law_due : DefT K mg "_law_due" Hd.s__law_due
  d__law_is_right : DefT K mg "_law_is_right" Hd.s__law_is_right
  d_law : DefT K mg "law" Hd.s_law
  e_CrowdError : ExcT K mg "CrowdError"
  e_NoCrowd : ExcT K mg "NoCrowd"
  e_Unlike : ExcT K mg "Unlike"
  s_PARTS : ∃ t, mg "PARTS" = some (.str (Str.ofString "parts") t)
  s_MOVED : ∃ t, mg "MOVED" = some (.str (Str.ofString "moved") t)
  i_MOST_PLACE : ∃ t, mg "MOST_PLACE" = some (.int 10000 t)
  i_LEAST_CROWD : ∃ t, mg "LEAST_CROWD" = some (.int 3 t)
  i_MOST_CROWD : ∃ t, mg "MOST_CROWD" = some (.int 12 t)
def B_is_integer : M Flw := (sRet (mAndV (mCB fIsi (mCons (mVar 0) (mCons (mC (.op (.ty "int"))) mNil))) (mBv (mNot (mB (mCB fIsi (mCons (mVar 0) (mCons (mC (.op (.ty "bool"))) mNil))))))))
def F_is_integer : List D → FR := run0 1 0 B_is_integer
theorem sc_is_integer : FnScope ["thing"] ["thing"] (defScope Hd.s_is_integer) := ⟨rfl, rfl, rfl, by decide +kernel, rfl, by decide +kernel, by decide +kernel⟩
theorem ok_is_integer {P : Program} {w : World} {K : PySem.W.Frag} {mg : Str → Option Value} {base : Heap} (T : Tops K mg) : HasD P w K mg base "is_integer" 1 ["thing"] (Prom0 K mg 1 F_is_integer) := by
  refine has0 (k := 0) (m := 0) T.d_is_integer sc_is_integer rfl rfl (fun _ _ _ _ _ _ us hl => match us, hl with | [_], _ => rfl) fun f cdv A outer s H E hr hgd => ?_
  have u := room_u hr
  have nd := (sc_is_integer).nd
  have tk : Takes (cxOf (L2.CX P w) P w K mg base ["thing"] "is_integer" (defScope Hd.s_is_integer) f cdv A outer s H E) (fun cls d _ H => E cls d H) := takes_of rfl rfl rfl rfl
  exact (dss_one (ds_ret (de_and (w_callB call_isi cd_isi T.n_isinstance (da_cons (d_var 0) (da_cons (w_ty (T := "int") T.n_int) da_nil))) (de_one (de_not (w_callB call_isi cd_isi T.n_isinstance (da_cons (d_var 0) (da_cons (w_ty (T := "bool") T.n_bool) da_nil))))))))
def B_is_within : M Flw := (sRet (mAndV (mCall0 F_is_integer (mCons (mVar 0) mNil)) (mChain fLe fLe (mVar 1) (mVar 0) (mVar 2))))
def F_is_within : List D → FR := run0 3 0 B_is_within
theorem sc_is_within : FnScope ["thing", "low", "high"] ["thing", "low", "high"] (defScope Hd.s_is_within) := ⟨rfl, rfl, rfl, by decide +kernel, rfl, by decide +kernel, by decide +kernel⟩
theorem ok_is_within {P : Program} {w : World} {K : PySem.W.Frag} {mg : Str → Option Value} {base : Heap} (T : Tops K mg) : HasD P w K mg base "is_within" 2 ["thing", "low", "high"] (Prom0 K mg 3 F_is_within) := by
  refine has0 (k := 1) (m := 0) T.d_is_within sc_is_within rfl rfl (fun _ _ _ _ _ _ us hl => match us, hl with | [_, _, _], _ => rfl) fun f cdv A outer s H E hr hgd => ?_
  have u := room_u hr
  have nd := (sc_is_within).nd
  have tk : Takes (cxOf (L2.CX P w) P w K mg base ["thing", "low", "high"] "is_within" (defScope Hd.s_is_within) f cdv A outer s H E) (fun cls d _ H => E cls d H) := takes_of rfl rfl rfl rfl
  exact (dss_one (ds_ret (de_and (de_c0 (ok_is_integer T) tk hr (by decide) hgd (da_cons (d_var 0) da_nil) (len_cons len_nil)) (de_one (de_chain op_le op_le opd_le opd_le (d_var 1) (d_var 0) (d_var 2))))))
def E_is_dot_1 : M Val := (mCall0 F_is_within (mCons (mVar 1) (mCons (m1 fNeg (mC (.int 10000))) (mCons (mC (.int 10000)) mNil))))
def C_is_dot_1 : M Val := mLc [1] (mAny 0) (gN 1) (M.ret true) E_is_dot_1
def B_is_dot : M Flw := (sSeq (sIf (mOr (mNot (mTru (mCB fIsi (mCons (mVar 0) (mCons (mC (.op (.ty "tuple"))) mNil))))) (mB (m2 fNe (mCB fLen (mCons (mVar 0) mNil)) (mC (.int 2))))) (sRet (mC (.bl false))) sNx) (sRet (mCB fAll (mCons C_is_dot_1 mNil))))
def F_is_dot : List D → FR := run0 1 1 B_is_dot
theorem sc_is_dot : FnScope ["thing", "one"] ["thing"] (defScope Hd.s_is_dot) := ⟨rfl, rfl, rfl, by decide +kernel, rfl, by decide +kernel, by decide +kernel⟩
theorem ok_is_dot {P : Program} {w : World} {K : PySem.W.Frag} {mg : Str → Option Value} {base : Heap} (T : Tops K mg) : HasD P w K mg base "is_dot" 3 ["thing"] (Prom0 K mg 1 F_is_dot) := by
  refine has0 (k := 2) (m := 1) T.d_is_dot sc_is_dot rfl rfl (fun _ _ _ _ _ _ us hl => match us, hl with | [_], _ => rfl) fun f cdv A outer s H E hr hgd => ?_
  have u := room_u hr
  have nd := (sc_is_dot).nd
  have tk : Takes (cxOf (L2.CX P w) P w K mg base ["thing", "one"] "is_dot" (defScope Hd.s_is_dot) f cdv A outer s H E) (fun cls d _ H => E cls d H) := takes_of rfl rfl rfl rfl
  exact (dss_cons (ds_if (dt_w (dw_or (dt_not (dt_truth (w_callB call_isi cd_isi T.n_isinstance (da_cons (d_var 0) (da_cons (w_ty (T := "tuple") T.n_tuple) da_nil))))) (dw_or1 (dt_cmp (opr_neU u) opd_ne (w_callB cr_lenA cd_len T.n_len (da_cons (d_var 0) da_nil)) d_int (nomark _))))) (dss_one (ds_ret d_bl)) dss_nil) (dss_one (ds_ret (w_callB (cr_all rfl) cd_all T.n_all (da_cons (w_lcN 0 [("one", 1)] nd (pv 0) (d_var 0) (fun s1 H1 C1 cl1 fp1 => (w_name 1 nd)) (fun s1 H1 C1 cl1 fp1 => dts_nil) (fun s1 H1 C1 cl1 fp1 => (de_c0 (ok_is_within T) takes0 hr (by decide) hgd (da_cons (d_var 1) (da_cons (d_un un_neg und_neg (w_gint T.i_MOST_PLACE)) (da_cons (w_gint T.i_MOST_PLACE) da_nil))) (len_cons (len_cons (len_cons len_nil)))))) da_nil)))))
def E_is_crowd_1 : M Val := (mCall0 F_is_dot (mCons (mVar 1) mNil))
def C_is_crowd_1 : M Val := mLc [1] (mAny 0) (gN 1) (M.ret true) E_is_crowd_1
def Y_is_crowd_1 : M Val := (mVar 1)
def E_is_crowd_2 : M Val := (mC (.bl true))
def C_is_crowd_2 : M Val := mDc true [1] (mSeq (mVar 0)) (gN 1) (M.ret true) Y_is_crowd_1 E_is_crowd_2
def B_is_crowd : M Flw := (sSeq (sIf (mOr (mNot (mTru (mCB fIsi (mCons (mVar 0) (mCons (mC (.op (.ty "tuple"))) mNil))))) (mNot (mB (mChain fLe fLe (mC (.int 3)) (mCB fLen (mCons (mVar 0) mNil)) (mC (.int 12)))))) (sRet (mC (.bl false))) sNx) (sRet (mAndV (mCB fAll (mCons C_is_crowd_1 mNil)) (m2 fEq (mCB fLen (mCons C_is_crowd_2 mNil)) (mCB fLen (mCons (mVar 0) mNil))))))
def F_is_crowd : List D → FR := run0 1 1 B_is_crowd
theorem sc_is_crowd : FnScope ["thing", "one"] ["thing"] (defScope Hd.s_is_crowd) := ⟨rfl, rfl, rfl, by decide +kernel, rfl, by decide +kernel, by decide +kernel⟩
theorem ok_is_crowd {P : Program} {w : World} {K : PySem.W.Frag} {mg : Str → Option Value} {base : Heap} (T : Tops K mg) : HasD P w K mg base "is_crowd" 4 ["thing"] (Prom0 K mg 1 F_is_crowd) := by
  refine has0 (k := 3) (m := 1) T.d_is_crowd sc_is_crowd rfl rfl (fun _ _ _ _ _ _ us hl => match us, hl with | [_], _ => rfl) fun f cdv A outer s H E hr hgd => ?_
  have u := room_u hr
  have nd := (sc_is_crowd).nd
  have tk : Takes (cxOf (L2.CX P w) P w K mg base ["thing", "one"] "is_crowd" (defScope Hd.s_is_crowd) f cdv A outer s H E) (fun cls d _ H => E cls d H) := takes_of rfl rfl rfl rfl
  exact (dss_cons (ds_if (dt_w (dw_or (dt_not (dt_truth (w_callB call_isi cd_isi T.n_isinstance (da_cons (d_var 0) (da_cons (w_ty (T := "tuple") T.n_tuple) da_nil))))) (dw_or1 (dt_not (dt_chain op_le op_le opd_le opd_le (w_gint T.i_LEAST_CROWD) (w_callB cr_lenA cd_len T.n_len (da_cons (d_var 0) da_nil)) (w_gint T.i_MOST_CROWD)))))) (dss_one (ds_ret d_bl)) dss_nil) (dss_one (ds_ret (de_and (w_callB (cr_all rfl) cd_all T.n_all (da_cons (w_lcN 0 [("one", 1)] nd (pv 0) (d_var 0) (fun s1 H1 C1 cl1 fp1 => (w_name 1 nd)) (fun s1 H1 C1 cl1 fp1 => dts_nil) (fun s1 H1 C1 cl1 fp1 => (de_c0 (ok_is_dot T) takes0 hr (by decide) hgd (da_cons (d_var 1) da_nil) (len_cons len_nil)))) da_nil)) (de_one (d_cmp (opr_eqU u) opd_eq (w_callB cr_lenA cd_len T.n_len (da_cons (w_dc true [("one", 1)] u nd (di_seq (d_var 0)) (fun s1 H1 C1 cl1 fp1 => (w_name 1 nd)) (fun s1 H1 C1 cl1 fp1 => dts_nil) (fun s1 H1 C1 cl1 fp1 => (d_var 1)) (fun s1 H1 C1 cl1 fp1 => d_bl)) da_nil)) (w_callB cr_lenA cd_len T.n_len (da_cons (d_var 0) da_nil)) (nomark _)))))))
def B_check_crowd : M Flw := (sIf (mNot (mTru (mCall0 F_is_crowd (mCons (mVar 0) mNil)))) (sRaise ⟨Str.ofString "NoCrowd", []⟩) sNx)
def F_check_crowd : List D → FR := run0 1 0 B_check_crowd
theorem sc_check_crowd : FnScope ["thing"] ["thing"] (defScope Hd.s_check_crowd) := ⟨rfl, rfl, rfl, by decide +kernel, rfl, by decide +kernel, by decide +kernel⟩
theorem ok_check_crowd {P : Program} {w : World} {K : PySem.W.Frag} {mg : Str → Option Value} {base : Heap} (T : Tops K mg) : HasD P w K mg base "check_crowd" 5 ["thing"] (Prom0 K mg 1 F_check_crowd) := by
  refine has0 (k := 4) (m := 0) T.d_check_crowd sc_check_crowd rfl rfl (fun _ _ _ _ _ _ us hl => match us, hl with | [_], _ => rfl) fun f cdv A outer s H E hr hgd => ?_
  have u := room_u hr
  have nd := (sc_check_crowd).nd
  have tk : Takes (cxOf (L2.CX P w) P w K mg base ["thing"] "check_crowd" (defScope Hd.s_check_crowd) f cdv A outer s H E) (fun cls d _ H => E cls d H) := takes_of rfl rfl rfl rfl
  exact (dss_one (ds_if (dt_not (dt_truth (de_c0 (ok_is_crowd T) tk hr (by decide) hgd (da_cons (d_var 0) da_nil) (len_cons len_nil)))) (dss_one (ds_raiseT T.e_NoCrowd tk rfl)) dss_nil))
def E_as_pairs_1 : M Val := (mTup (mCons (mVar 1) (mCons (m2 fIx (mVar 0) (mVar 1)) mNil)))
def C_as_pairs_1 : M Val := mLc [1] (mSeq (mCB fSortB (mCons (mVar 0) mNil))) (gN 1) (M.ret true) E_as_pairs_1
def B_as_pairs : M Flw := (sRet (mCB fTuple (mCons C_as_pairs_1 mNil)))
def F_as_pairs : List D → FR := run0 1 1 B_as_pairs
theorem sc_as_pairs : FnScope ["table", "one"] ["table"] (defScope Hd.s_as_pairs) := ⟨rfl, rfl, rfl, by decide +kernel, rfl, by decide +kernel, by decide +kernel⟩
theorem ok_as_pairs {P : Program} {w : World} {K : PySem.W.Frag} {mg : Str → Option Value} {base : Heap} (T : Tops K mg) : HasD P w K mg base "as_pairs" 1 ["table"] (Prom0 K mg 1 F_as_pairs) := by
  refine has0 (k := 0) (m := 1) T.d_as_pairs sc_as_pairs rfl rfl (fun _ _ _ _ _ _ us hl => match us, hl with | [_], _ => rfl) fun f cdv A outer s H E hr hgd => ?_
  have u := room_u hr
  have nd := (sc_as_pairs).nd
  have tk : Takes (cxOf (L2.CX P w) P w K mg base ["table", "one"] "as_pairs" (defScope Hd.s_as_pairs) f cdv A outer s H E) (fun cls d _ H => E cls d H) := takes_of rfl rfl rfl rfl
  exact (dss_one (ds_ret (w_callTy call_tuple_of cd_tuple T.n_tuple (da_cons (w_lc [("one", 1)] nd (di_seq (w_callB (cr_sortB rfl u) cd_sortB T.n_sorted (da_cons (d_var 0) da_nil))) (fun s1 H1 C1 cl1 fp1 => (w_name 1 nd)) (fun s1 H1 C1 cl1 fp1 => dts_nil) (fun s1 H1 C1 cl1 fp1 => (de_tup (da_cons (d_var 1) (da_cons (de_sub (u1 u) (d_var 0) (d_var 1)) da_nil))))) da_nil))))
def B_check_two_crowds : M Flw := (sSeq (sEx (mCall0 F_check_crowd (mCons (mVar 0) mNil))) (sEx (mCall0 F_check_crowd (mCons (mVar 1) mNil))))
def F_check_two_crowds : List D → FR := run0 2 0 B_check_two_crowds
theorem sc_check_two_crowds : FnScope ["one", "other"] ["one", "other"] (defScope Hd.s_check_two_crowds) := ⟨rfl, rfl, rfl, by decide +kernel, rfl, by decide +kernel, by decide +kernel⟩
theorem ok_check_two_crowds {P : Program} {w : World} {K : PySem.W.Frag} {mg : Str → Option Value} {base : Heap} (T : Tops K mg) : HasD P w K mg base "check_two_crowds" 6 ["one", "other"] (Prom0 K mg 2 F_check_two_crowds) := by
  refine has0 (k := 5) (m := 0) T.d_check_two_crowds sc_check_two_crowds rfl rfl (fun _ _ _ _ _ _ us hl => match us, hl with | [_, _], _ => rfl) fun f cdv A outer s H E hr hgd => ?_
  have u := room_u hr
  have nd := (sc_check_two_crowds).nd
  have tk : Takes (cxOf (L2.CX P w) P w K mg base ["one", "other"] "check_two_crowds" (defScope Hd.s_check_two_crowds) f cdv A outer s H E) (fun cls d _ H => E cls d H) := takes_of rfl rfl rfl rfl
  exact (dss_cons (ds_expr (de_c0 (ok_check_crowd T) tk hr (by decide) hgd (da_cons (d_var 0) da_nil) (len_cons len_nil))) (dss_one (ds_expr (de_c0 (ok_check_crowd T) tk hr (by decide) hgd (da_cons (d_var 1) da_nil) (len_cons len_nil)))))
def B_raw_step : M Flw := (sRet (mTup (mCons (m2 fSub (m2 fIx (mVar 1) (mC (.int 0))) (m2 fIx (mVar 0) (mC (.int 0)))) (mCons (m2 fSub (m2 fIx (mVar 1) (mC (.int 1))) (m2 fIx (mVar 0) (mC (.int 1)))) mNil))))
def F_raw_step : List D → FR := run0 2 0 B_raw_step
theorem sc_raw_step : FnScope ["one", "other"] ["one", "other"] (defScope Hd.s_raw_step) := ⟨rfl, rfl, rfl, by decide +kernel, rfl, by decide +kernel, by decide +kernel⟩
theorem ok_raw_step {P : Program} {w : World} {K : PySem.W.Frag} {mg : Str → Option Value} {base : Heap} (T : Tops K mg) : HasD P w K mg base "raw_step" 1 ["one", "other"] (Prom0 K mg 2 F_raw_step) := by
  refine has0 (k := 0) (m := 0) T.d_raw_step sc_raw_step rfl rfl (fun _ _ _ _ _ _ us hl => match us, hl with | [_, _], _ => rfl) fun f cdv A outer s H E hr hgd => ?_
  have u := room_u hr
  have nd := (sc_raw_step).nd
  have tk : Takes (cxOf (L2.CX P w) P w K mg base ["one", "other"] "raw_step" (defScope Hd.s_raw_step) f cdv A outer s H E) (fun cls d _ H => E cls d H) := takes_of rfl rfl rfl rfl
  exact (dss_one (ds_ret (de_tup (da_cons (d_bin op_sub opd_sub (de_sub (u1 u) (d_var 1) d_int) (de_sub (u1 u) (d_var 0) d_int)) (da_cons (d_bin op_sub opd_sub (de_sub (u1 u) (d_var 1) d_int) (de_sub (u1 u) (d_var 0) d_int)) da_nil)))))
def K_step_counts_1 : M Flw := (sIf (mB (m2 fNe (mVar 2) (mVar 4))) (sSeq (sSet 6 (mCall0 F_raw_step (mCons (mVar 3) (mCons (mVar 5) mNil)))) (sStore 1 (mVar 6) (m2 fAdd (mGet2 (mVar 1) (mVar 6) (mC (.int 0))) (mC (.int 1))))) sNx)
def L_step_counts_1 : M Flw := sFor (mEn (mCons (mVar 0) mNil)) (gT (gsCons (gN 4) (gsCons (gN 5) gsNil))) K_step_counts_1
def K_step_counts_2 : M Flw := L_step_counts_1
def L_step_counts_2 : M Flw := sFor (mEn (mCons (mVar 0) mNil)) (gT (gsCons (gN 2) (gsCons (gN 3) gsNil))) K_step_counts_2
def B_step_counts : M Flw := (sSeq (sEx (mCall0 F_check_crowd (mCons (mVar 0) mNil))) (sSeq (sSet 1 (mNewD true)) (sSeq L_step_counts_2 (sRet (mCall0 F_as_pairs (mCons (mVar 1) mNil))))))
def F_step_counts : List D → FR := run0 1 6 B_step_counts
theorem sc_step_counts : FnScope ["crowd", "found", "i", "one", "j", "other", "step"] ["crowd"] (defScope Hd.s_step_counts) := ⟨rfl, rfl, rfl, by decide +kernel, rfl, by decide +kernel, by decide +kernel⟩
theorem ok_step_counts {P : Program} {w : World} {K : PySem.W.Frag} {mg : Str → Option Value} {base : Heap} (T : Tops K mg) : HasD P w K mg base "step_counts" 6 ["crowd"] (Prom0 K mg 1 F_step_counts) := by
  refine has0 (k := 5) (m := 6) T.d_step_counts sc_step_counts rfl rfl (fun _ _ _ _ _ _ us hl => match us, hl with | [_], _ => rfl) fun f cdv A outer s H E hr hgd => ?_
  have u := room_u hr
  have nd := (sc_step_counts).nd
  have tk : Takes (cxOf (L2.CX P w) P w K mg base ["crowd", "found", "i", "one", "j", "other", "step"] "step_counts" (defScope Hd.s_step_counts) f cdv A outer s H E) (fun cls d _ H => E cls d H) := takes_of rfl rfl rfl rfl
  exact (dss_cons (ds_expr (de_c0 (ok_check_crowd T) tk hr (by decide) hgd (da_cons (d_var 0) da_nil) (len_cons len_nil))) (dss_cons (w_set 1 nd (de_newD true)) (dss_cons (ds_for (passes_of rfl) rfl (w_enum T.n_enumerate (da_cons (d_var 0) da_nil)) (w_tup 2 (dgs_cons (w_name 2 nd) (dgs_cons (w_name 3 nd) dgs_nil)) (gs_len1 (gs_len1 gs_len0))) (dss_one (ds_for (passes_of rfl) rfl (w_enum T.n_enumerate (da_cons (d_var 0) da_nil)) (w_tup 2 (dgs_cons (w_name 4 nd) (dgs_cons (w_name 5 nd) dgs_nil)) (gs_len1 (gs_len1 gs_len0))) (dss_one (ds_if (dt_cmp (opr_neU u) opd_ne (d_var 2) (d_var 4) (nomark _)) (dss_cons (w_set 6 nd (de_c0 (ok_raw_step T) tk hr (by decide) hgd (da_cons (d_var 3) (da_cons (d_var 5) da_nil)) (len_cons (len_cons len_nil)))) (dss_one (ds_store (u1 u) (pv 1) (d_var 6) (d_bin opr_add opd_add (de_get2 (u1 u) (d_var 1) (d_var 6) d_int ⟨rfl, rfl, rfl, rfl⟩) d_int)))) dss_nil))))) (dss_one (ds_ret (de_c0 (ok_as_pairs T) tk hr (by decide) hgd (da_cons (d_var 1) da_nil) (len_cons len_nil)))))))
def E_raw_moved_shown_1 : M Val := (mCall0 F_raw_step (mCons (mVar 4) (mCons (mVar 5) mNil)))
def C_raw_moved_shown_1 : M Val := mLc [4, 5] (mZip (mCons (mCB fSortB (mCons (mVar 0) mNil)) (mCons (mCB fSortB (mCons (mVar 1) mNil)) mNil))) (gT (gsCons (gN 4) (gsCons (gN 5) gsNil))) (M.ret true) E_raw_moved_shown_1
def E_raw_moved_shown_2 : M Val := (mVar 6)
def T_raw_moved_shown_1 : M Bool := (mB (m2 fNe (mVar 7) (m2 fIx (mVar 2) (mC (.int 0)))))
def C_raw_moved_shown_2 : M Val := mLc [6, 7] (mEn (mCons (mVar 2) mNil)) (gT (gsCons (gN 6) (gsCons (gN 7) gsNil))) T_raw_moved_shown_1 E_raw_moved_shown_2
def B_raw_moved_shown : M Flw := (sSeq (sSet 2 C_raw_moved_shown_1) (sSeq (sSet 3 C_raw_moved_shown_2) (sRet (mIf (mB (m2 fGt (mCB fLen (mCons (mVar 3) mNil)) (mC (.int 0)))) (mTup (mCons (mC (.str (Str.ofString "parts"))) (mCons (m2 fIx (mVar 3) (mC (.int 0))) mNil))) (mTup (mCons (mC (.str (Str.ofString "moved"))) (mCons (m2 fIx (mVar 2) (mC (.int 0))) mNil)))))))
def F_raw_moved_shown : List D → FR := run0 2 6 B_raw_moved_shown
theorem sc_raw_moved_shown : FnScope ["one", "other", "steps", "some", "mine", "its", "at", "step"] ["one", "other"] (defScope Hd.s_raw_moved_shown) := ⟨rfl, rfl, rfl, by decide +kernel, rfl, by decide +kernel, by decide +kernel⟩
theorem ok_raw_moved_shown {P : Program} {w : World} {K : PySem.W.Frag} {mg : Str → Option Value} {base : Heap} (T : Tops K mg) : HasD P w K mg base "raw_moved_shown" 2 ["one", "other"] (Prom0 K mg 2 F_raw_moved_shown) := by
  refine has0 (k := 1) (m := 6) T.d_raw_moved_shown sc_raw_moved_shown rfl rfl (fun _ _ _ _ _ _ us hl => match us, hl with | [_, _], _ => rfl) fun f cdv A outer s H E hr hgd => ?_
  have u := room_u hr
  have nd := (sc_raw_moved_shown).nd
  have tk : Takes (cxOf (L2.CX P w) P w K mg base ["one", "other", "steps", "some", "mine", "its", "at", "step"] "raw_moved_shown" (defScope Hd.s_raw_moved_shown) f cdv A outer s H E) (fun cls d _ H => E cls d H) := takes_of rfl rfl rfl rfl
  exact (dss_cons (w_set 2 nd (w_lc [("mine", 4), ("its", 5)] nd (w_zip T.n_zip (da_cons (w_callB (cr_sortB rfl u) cd_sortB T.n_sorted (da_cons (d_var 0) da_nil)) (da_cons (w_callB (cr_sortB rfl u) cd_sortB T.n_sorted (da_cons (d_var 1) da_nil)) da_nil))) (fun s1 H1 C1 cl1 fp1 => (w_tup 2 (dgs_cons (w_name 4 nd) (dgs_cons (w_name 5 nd) dgs_nil)) (gs_len1 (gs_len1 gs_len0)))) (fun s1 H1 C1 cl1 fp1 => dts_nil) (fun s1 H1 C1 cl1 fp1 => (de_c0 (ok_raw_step T) takes0 hr (by decide) hgd (da_cons (d_var 4) (da_cons (d_var 5) da_nil)) (len_cons (len_cons len_nil)))))) (dss_cons (w_setLc 3 [("at", 6), ("step", 7)] nd (w_enum T.n_enumerate (da_cons (d_var 2) da_nil)) (fun s1 H1 C1 cl1 fp1 => (w_tup 2 (dgs_cons (w_name 6 nd) (dgs_cons (w_name 7 nd) dgs_nil)) (gs_len1 (gs_len1 gs_len0)))) (fun s1 H1 C1 cl1 fp1 => (dts_one (dt_cmp (opr_neU u) opd_ne (d_var 7) (de_sub (u1 u) (d_var 2) d_int) (nomark _)))) (fun s1 H1 C1 cl1 fp1 => (d_var 6))) (dss_one (ds_ret (de_if (dt_cmp op_gt opd_gt (w_callB cr_lenA cd_len T.n_len (da_cons (d_var 3) da_nil)) d_int (nomark _)) (de_tup (da_cons (w_gstr T.s_PARTS) (da_cons (de_sub (u1 u) (d_var 3) d_int) da_nil))) (de_tup (da_cons (w_gstr T.s_MOVED) (da_cons (de_sub (u1 u) (d_var 2) d_int) da_nil))))))))
def B_check_as_many : M Flw := (sSeq (sEx (mCall0 F_check_two_crowds (mCons (mVar 0) (mCons (mVar 1) mNil)))) (sIf (mB (m2 fNe (mCB fLen (mCons (mVar 0) mNil)) (mCB fLen (mCons (mVar 1) mNil)))) (sRaise ⟨Str.ofString "Unlike", []⟩) sNx))
def F_check_as_many : List D → FR := run0 2 0 B_check_as_many
theorem sc_check_as_many : FnScope ["one", "other"] ["one", "other"] (defScope Hd.s_check_as_many) := ⟨rfl, rfl, rfl, by decide +kernel, rfl, by decide +kernel, by decide +kernel⟩
theorem ok_check_as_many {P : Program} {w : World} {K : PySem.W.Frag} {mg : Str → Option Value} {base : Heap} (T : Tops K mg) : HasD P w K mg base "check_as_many" 7 ["one", "other"] (Prom0 K mg 2 F_check_as_many) := by
  refine has0 (k := 6) (m := 0) T.d_check_as_many sc_check_as_many rfl rfl (fun _ _ _ _ _ _ us hl => match us, hl with | [_, _], _ => rfl) fun f cdv A outer s H E hr hgd => ?_
  have u := room_u hr
  have nd := (sc_check_as_many).nd
  have tk : Takes (cxOf (L2.CX P w) P w K mg base ["one", "other"] "check_as_many" (defScope Hd.s_check_as_many) f cdv A outer s H E) (fun cls d _ H => E cls d H) := takes_of rfl rfl rfl rfl
  exact (dss_cons (ds_expr (de_c0 (ok_check_two_crowds T) tk hr (by decide) hgd (da_cons (d_var 0) (da_cons (d_var 1) da_nil)) (len_cons (len_cons len_nil)))) (dss_one (ds_if (dt_cmp (opr_neU u) opd_ne (w_callB cr_lenA cd_len T.n_len (da_cons (d_var 0) da_nil)) (w_callB cr_lenA cd_len T.n_len (da_cons (d_var 1) da_nil)) (nomark _)) (dss_one (ds_raiseT T.e_Unlike tk rfl)) dss_nil)))
def B_moved_shown : M Flw := (sSeq (sEx (mCall0 F_check_as_many (mCons (mVar 0) (mCons (mVar 1) mNil)))) (sRet (mCall0 F_raw_moved_shown (mCons (mVar 0) (mCons (mVar 1) mNil)))))
def F_moved_shown : List D → FR := run0 2 0 B_moved_shown
theorem sc_moved_shown : FnScope ["one", "other"] ["one", "other"] (defScope Hd.s_moved_shown) := ⟨rfl, rfl, rfl, by decide +kernel, rfl, by decide +kernel, by decide +kernel⟩
theorem ok_moved_shown {P : Program} {w : World} {K : PySem.W.Frag} {mg : Str → Option Value} {base : Heap} (T : Tops K mg) : HasD P w K mg base "moved_shown" 8 ["one", "other"] (Prom0 K mg 2 F_moved_shown) := by
  refine has0 (k := 7) (m := 0) T.d_moved_shown sc_moved_shown rfl rfl (fun _ _ _ _ _ _ us hl => match us, hl with | [_, _], _ => rfl) fun f cdv A outer s H E hr hgd => ?_
  have u := room_u hr
  have nd := (sc_moved_shown).nd
  have tk : Takes (cxOf (L2.CX P w) P w K mg base ["one", "other"] "moved_shown" (defScope Hd.s_moved_shown) f cdv A outer s H E) (fun cls d _ H => E cls d H) := takes_of rfl rfl rfl rfl
  exact (dss_cons (ds_expr (de_c0 (ok_check_as_many T) tk hr (by decide) hgd (da_cons (d_var 0) (da_cons (d_var 1) da_nil)) (len_cons (len_cons len_nil)))) (dss_one (ds_ret (de_c0 (ok_raw_moved_shown T) tk hr (by decide) hgd (da_cons (d_var 0) (da_cons (d_var 1) da_nil)) (len_cons (len_cons len_nil))))))
def B_is_moved_shown : M Flw := (sSeq (sEx (mCall0 F_check_as_many (mCons (mVar 0) (mCons (mVar 1) mNil)))) (sRet (mAndV (mCB fIsi (mCons (mVar 2) (mCons (mC (.op (.ty "tuple"))) mNil))) (mAndV (m2 fEq (mCB fLen (mCons (mVar 2) mNil)) (mC (.int 2))) (m2 fEq (mCB fRepr (mCons (mVar 2) mNil)) (mCB fRepr (mCons (mCall0 F_raw_moved_shown (mCons (mVar 0) (mCons (mVar 1) mNil))) mNil)))))))
def F_is_moved_shown : List D → FR := run0 3 0 B_is_moved_shown
theorem sc_is_moved_shown : FnScope ["one", "other", "thing"] ["one", "other", "thing"] (defScope Hd.s_is_moved_shown) := ⟨rfl, rfl, rfl, by decide +kernel, rfl, by decide +kernel, by decide +kernel⟩
theorem ok_is_moved_shown {P : Program} {w : World} {K : PySem.W.Frag} {mg : Str → Option Value} {base : Heap} (T : Tops K mg) : HasD P w K mg base "is_moved_shown" 8 ["one", "other", "thing"] (Prom0 K mg 3 F_is_moved_shown) := by
  refine has0 (k := 7) (m := 0) T.d_is_moved_shown sc_is_moved_shown rfl rfl (fun _ _ _ _ _ _ us hl => match us, hl with | [_, _, _], _ => rfl) fun f cdv A outer s H E hr hgd => ?_
  have u := room_u hr
  have nd := (sc_is_moved_shown).nd
  have tk : Takes (cxOf (L2.CX P w) P w K mg base ["one", "other", "thing"] "is_moved_shown" (defScope Hd.s_is_moved_shown) f cdv A outer s H E) (fun cls d _ H => E cls d H) := takes_of rfl rfl rfl rfl
  exact (dss_cons (ds_expr (de_c0 (ok_check_as_many T) tk hr (by decide) hgd (da_cons (d_var 0) (da_cons (d_var 1) da_nil)) (len_cons (len_cons len_nil)))) (dss_one (ds_ret (de_and (w_callB call_isi cd_isi T.n_isinstance (da_cons (d_var 2) (da_cons (w_ty (T := "tuple") T.n_tuple) da_nil))) (de_and (d_cmp (opr_eqU u) opd_eq (w_callB cr_lenA cd_len T.n_len (da_cons (d_var 2) da_nil)) d_int (nomark _)) (de_one (d_cmp (opr_eqU u) opd_eq (w_callB (cr_reprU hgd u) cd_repr T.n_repr (da_cons (d_var 2) da_nil)) (w_callB (cr_reprU hgd u) cd_repr T.n_repr (da_cons (de_c0 (ok_raw_moved_shown T) tk hr (by decide) hgd (da_cons (d_var 0) (da_cons (d_var 1) da_nil)) (len_cons (len_cons len_nil))) da_nil)) (nomark _))))))))
def E__law_hand_1 : M Val := (mCB fAbs (mCons (mCB fInt (mCons (mVar 2) mNil)) mNil))
def C__law_hand_1 : M Val := mLc [2] (mSeq (mSl fSl (mVar 0) none (some (mC (.int 63))))) (gN 2) (M.ret true) E__law_hand_1
def B__law_hand : M Flw := (sSeq (sSet 1 C__law_hand_1) (sRet (mLst (mCons (mVar 1) (mCons (mC (.int 0)) (mCons (mC (.int 0)) (mCons (m2 fAdd (mC (.int 4963)) (m2 fMulI (mC (.int 7)) (mCB fLen (mCons (mVar 1) mNil)))) (mCons (mC (.int 0)) mNil))))))))
def F__law_hand : List D → FR := run0 1 2 B__law_hand
theorem sc__law_hand : FnScope ["script", "cells", "cell"] ["script"] (defScope Hd.s__law_hand) := ⟨rfl, rfl, rfl, by decide +kernel, rfl, by decide +kernel, by decide +kernel⟩
theorem ok__law_hand {P : Program} {w : World} {K : PySem.W.Frag} {mg : Str → Option Value} {base : Heap} (T : Tops K mg) : HasD P w K mg base "_law_hand" 1 ["script"] (Prom0 K mg 1 F__law_hand) := by
  refine has0 (k := 0) (m := 2) T.d__law_hand sc__law_hand rfl rfl (fun _ _ _ _ _ _ us hl => match us, hl with | [_], _ => rfl) fun f cdv A outer s H E hr hgd => ?_
  have u := room_u hr
  have nd := (sc__law_hand).nd
  have tk : Takes (cxOf (L2.CX P w) P w K mg base ["script", "cells", "cell"] "_law_hand" (defScope Hd.s__law_hand) f cdv A outer s H E) (fun cls d _ H => E cls d H) := takes_of rfl rfl rfl rfl
  exact (dss_cons (w_setLc 1 [("cell", 2)] nd (di_seq (de_sl (d_var 0) trivial d_int)) (fun s1 H1 C1 cl1 fp1 => (w_name 2 nd)) (fun s1 H1 C1 cl1 fp1 => dts_nil) (fun s1 H1 C1 cl1 fp1 => (w_callB call_abs cd_abs T.n_abs (da_cons (w_callTy call_int1 cd_int T.n_int (da_cons (d_var 2) da_nil)) da_nil)))) (dss_one (ds_ret (de_lst (da_cons (d_var 1) (da_cons d_int (da_cons d_int (da_cons (d_bin opr_add opd_add d_int (d_bin opr_mul opd_mul d_int (w_callB cr_lenA cd_len T.n_len (da_cons (d_var 1) da_nil)))) (da_cons d_int da_nil)))))))))
def B__law_draw : M Flw := (sSeq (sIf (mAnd (mB (m2 fEq (m2 fIx (mVar 0) (mC (.int 2))) (mC (.int 0)))) (mB (m2 fLt (m2 fIx (mVar 0) (mC (.int 1))) (mCB fLen (mCons (m2 fIx (mVar 0) (mC (.int 0))) mNil))))) (sSeq (sSet 3 (m2 fIx (m2 fIx (mVar 0) (mC (.int 0))) (m2 fIx (mVar 0) (mC (.int 1))))) (sSeq (sStore 0 (mC (.int 1)) (m2 fAdd (m2 fIx (mVar 0) (mC (.int 1))) (mC (.int 1)))) (sSeq (sStore 0 (mC (.int 3)) (m2 fMod (mCB fInt (mCons (m2 fAdd (m2 fAdd (m2 fMulI (m2 fIx (mVar 0) (mC (.int 3))) (mC (.int 69621))) (m2 fMulI (mVar 3) (mC (.int 40692)))) (mC (.int 31))) mNil)) (mC (.int 2147483629)))) (sIf (mB (m2 fGe (mVar 3) (m2 fPow (mC (.int 10)) (mC (.int 18))))) (sStore 0 (mC (.int 2)) (mVar 3)) sNx)))) sNx) (sSeq (sIf (mB (m2 fGt (m2 fIx (mVar 0) (mC (.int 2))) (mC (.int 0)))) (sSeq (sSet 4 (m2 fMod (mCB fInt (mCons (m2 fIx (mVar 0) (mC (.int 2))) mNil)) (mVar 1))) (sSeq (sStore 0 (mC (.int 2)) (m2 fDiv (m2 fIx (mVar 0) (mC (.int 2))) (mVar 1))) (sRet (mVar 4)))) sNx) (sSeq (sStore 0 (mC (.int 4)) (m2 fAdd (m2 fIx (mVar 0) (mC (.int 4))) (mC (.int 1)))) (sSeq (sSet 2 (m2 fMod (mCB fInt (mCons (m2 fMulI (mCB fInt (mCons (m2 fAdd (m2 fIx (mVar 0) (mC (.int 3))) (m2 fMulI (mC (.int 7919)) (m2 fIx (mVar 0) (mC (.int 4))))) mNil)) (mC (.int 48271))) mNil)) (mC (.int 2147483647)))) (sSeq (sSet 2 (m2 fMod (mCB fInt (mCons (m2 fMulI (mVar 2) (m2 fAdd (m2 fDiv (mVar 2) (mC (.int 1009))) (mC (.int 69621)))) mNil)) (mC (.int 2147483647)))) (sSeq (sSet 2 (m2 fMod (mCB fInt (mCons (m2 fMulI (mVar 2) (m2 fAdd (m2 fDiv (mVar 2) (mC (.int 2003))) (mC (.int 40014)))) mNil)) (mC (.int 2147483563)))) (sRet (m2 fMod (mCB fInt (mCons (m2 fDiv (mVar 2) (mC (.int 16))) mNil)) (mVar 1)))))))))
def F__law_draw : List D → FR := run1 2 3 B__law_draw
theorem sc__law_draw : FnScope ["hand", "below", "number", "cell", "digit"] ["hand", "below"] (defScope Hd.s__law_draw) := ⟨rfl, rfl, rfl, by decide +kernel, rfl, by decide +kernel, by decide +kernel⟩
theorem ok__law_draw {P : Program} {w : World} {K : PySem.W.Frag} {mg : Str → Option Value} {base : Heap} (T : Tops K mg) : HasD P w K mg base "_law_draw" 1 ["hand", "below"] (Prom1 K mg 2 F__law_draw) := by
  refine has1 (k := 0) (m := 3) T.d__law_draw sc__law_draw rfl rfl (fun _ _ _ _ _ _ us hl => match us, hl with | [_, _], _ => rfl) fun f cdv A outer s H E hr hgd => ?_
  have u := room_u hr
  have nd := (sc__law_draw).nd
  have tk : Takes (cxOf (L2.CX P w) P w K mg base ["hand", "below", "number", "cell", "digit"] "_law_draw" (defScope Hd.s__law_draw) f cdv A outer s H E) (fun cls d _ H => E cls d H) := takes_of rfl rfl rfl rfl
  exact (dss_cons (ds_if (dt_w (dw_and (dt_cmp (opr_eqU u) opd_eq (de_sub (u1 u) (d_var 0) d_int) d_int (nomark _)) (dw_and1 (dt_cmp op_lt opd_lt (de_sub (u1 u) (d_var 0) d_int) (w_callB cr_lenA cd_len T.n_len (da_cons (de_sub (u1 u) (d_var 0) d_int) da_nil)) (nomark _))))) (dss_cons (w_set 3 nd (de_sub (u1 u) (de_sub (u1 u) (d_var 0) d_int) (de_sub (u1 u) (d_var 0) d_int))) (dss_cons (ds_store (u1 u) (pv 0) d_int (d_bin opr_add opd_add (de_sub (u1 u) (d_var 0) d_int) d_int)) (dss_cons (ds_store (u1 u) (pv 0) d_int (d_bin opr_mod opd_mod (w_callTy call_int1 cd_int T.n_int (da_cons (d_bin opr_add opd_add (d_bin opr_add opd_add (d_bin opr_mul opd_mul (de_sub (u1 u) (d_var 0) d_int) d_int) (d_bin opr_mul opd_mul (d_var 3) d_int)) d_int) da_nil)) d_int)) (dss_one (ds_if (dt_cmp op_ge opd_ge (d_var 3) (d_bin op_pow opd_pow d_int d_int) (nomark _)) (dss_one (ds_store (u1 u) (pv 0) d_int (d_var 3))) dss_nil))))) dss_nil) (dss_cons (ds_if (dt_cmp op_gt opd_gt (de_sub (u1 u) (d_var 0) d_int) d_int (nomark _)) (dss_cons (w_set 4 nd (d_bin opr_mod opd_mod (w_callTy call_int1 cd_int T.n_int (da_cons (de_sub (u1 u) (d_var 0) d_int) da_nil)) (d_var 1))) (dss_cons (ds_store (u1 u) (pv 0) d_int (d_bin opr_div opd_div (de_sub (u1 u) (d_var 0) d_int) (d_var 1))) (dss_one (ds_ret (d_var 4))))) dss_nil) (dss_cons (ds_store (u1 u) (pv 0) d_int (d_bin opr_add opd_add (de_sub (u1 u) (d_var 0) d_int) d_int)) (dss_cons (w_set 2 nd (d_bin opr_mod opd_mod (w_callTy call_int1 cd_int T.n_int (da_cons (d_bin opr_mul opd_mul (w_callTy call_int1 cd_int T.n_int (da_cons (d_bin opr_add opd_add (de_sub (u1 u) (d_var 0) d_int) (d_bin opr_mul opd_mul d_int (de_sub (u1 u) (d_var 0) d_int))) da_nil)) d_int) da_nil)) d_int)) (dss_cons (w_set 2 nd (d_bin opr_mod opd_mod (w_callTy call_int1 cd_int T.n_int (da_cons (d_bin opr_mul opd_mul (d_var 2) (d_bin opr_add opd_add (d_bin opr_div opd_div (d_var 2) d_int) d_int)) da_nil)) d_int)) (dss_cons (w_set 2 nd (d_bin opr_mod opd_mod (w_callTy call_int1 cd_int T.n_int (da_cons (d_bin opr_mul opd_mul (d_var 2) (d_bin opr_add opd_add (d_bin opr_div opd_div (d_var 2) d_int) d_int)) da_nil)) d_int)) (dss_one (ds_ret (d_bin opr_mod opd_mod (w_callTy call_int1 cd_int T.n_int (da_cons (d_bin opr_div opd_div (d_var 2) d_int) da_nil)) (d_var 1))))))))))
def B__law_any : M Flw := (sRet (m2 fIx (mVar 1) (mCall1 F__law_draw (mCons (mVar 0) (mCons (mCB fLen (mCons (mVar 1) mNil)) mNil)))))
def F__law_any : List D → FR := run1 2 0 B__law_any
theorem sc__law_any : FnScope ["hand", "some"] ["hand", "some"] (defScope Hd.s__law_any) := ⟨rfl, rfl, rfl, by decide +kernel, rfl, by decide +kernel, by decide +kernel⟩
theorem ok__law_any {P : Program} {w : World} {K : PySem.W.Frag} {mg : Str → Option Value} {base : Heap} (T : Tops K mg) : HasD P w K mg base "_law_any" 2 ["hand", "some"] (Prom1 K mg 2 F__law_any) := by
  refine has1 (k := 1) (m := 0) T.d__law_any sc__law_any rfl rfl (fun _ _ _ _ _ _ us hl => match us, hl with | [_, _], _ => rfl) fun f cdv A outer s H E hr hgd => ?_
  have u := room_u hr
  have nd := (sc__law_any).nd
  have tk : Takes (cxOf (L2.CX P w) P w K mg base ["hand", "some"] "_law_any" (defScope Hd.s__law_any) f cdv A outer s H E) (fun cls d _ H => E cls d H) := takes_of rfl rfl rfl rfl
  exact (dss_one (ds_ret (de_sub (u1 u) (d_var 1) (de_c1 (ok__law_draw T) tk hr (by decide) hgd (da_cons (d_var 0) (da_cons (w_callB cr_lenA cd_len T.n_len (da_cons (d_var 1) da_nil)) da_nil)) (len_cons (len_cons len_nil))))))
def B__law_is_int : M Flw := (sRet (mAndV (mCB fIsi (mCons (mVar 0) (mCons (mC (.op (.ty "int"))) mNil))) (mBv (mNot (mB (mCB fIsi (mCons (mVar 0) (mCons (mC (.op (.ty "bool"))) mNil))))))))
def F__law_is_int : List D → FR := run0 1 0 B__law_is_int
theorem sc__law_is_int : FnScope ["thing"] ["thing"] (defScope Hd.s__law_is_int) := ⟨rfl, rfl, rfl, by decide +kernel, rfl, by decide +kernel, by decide +kernel⟩
theorem ok__law_is_int {P : Program} {w : World} {K : PySem.W.Frag} {mg : Str → Option Value} {base : Heap} (T : Tops K mg) : HasD P w K mg base "_law_is_int" 1 ["thing"] (Prom0 K mg 1 F__law_is_int) := by
  refine has0 (k := 0) (m := 0) T.d__law_is_int sc__law_is_int rfl rfl (fun _ _ _ _ _ _ us hl => match us, hl with | [_], _ => rfl) fun f cdv A outer s H E hr hgd => ?_
  have u := room_u hr
  have nd := (sc__law_is_int).nd
  have tk : Takes (cxOf (L2.CX P w) P w K mg base ["thing"] "_law_is_int" (defScope Hd.s__law_is_int) f cdv A outer s H E) (fun cls d _ H => E cls d H) := takes_of rfl rfl rfl rfl
  exact (dss_one (ds_ret (de_and (w_callB call_isi cd_isi T.n_isinstance (da_cons (d_var 0) (da_cons (w_ty (T := "int") T.n_int) da_nil))) (de_one (de_not (w_callB call_isi cd_isi T.n_isinstance (da_cons (d_var 0) (da_cons (w_ty (T := "bool") T.n_bool) da_nil))))))))
def T__law_mixed_1 : M Bool := (mB (m2 fGt (mCB fLen (mCons (mVar 2) mNil)) (mC (.int 0))))
def K__law_mixed_1 : M Flw := (sEx (mMut 3 fAppend (mCons (mMut 2 fPopAt (mCons (mCall1 F__law_draw (mCons (mVar 0) (mCons (mCB fLen (mCons (mVar 2) mNil)) mNil))) mNil)) mNil)))
def L__law_mixed_1 : M Flw := whileN T__law_mixed_1 K__law_mixed_1 1000000000
def B__law_mixed : M Flw := (sSeq (sPar [2, 3] (mCons (mCB fList (mCons (mVar 1) mNil)) (mCons (mLst mNil) mNil))) (sSeq L__law_mixed_1 (sRet (mVar 3))))
def F__law_mixed : List D → FR := run1 2 2 B__law_mixed
theorem sc__law_mixed : FnScope ["hand", "things", "left", "found"] ["hand", "things"] (defScope Hd.s__law_mixed) := ⟨rfl, rfl, rfl, by decide +kernel, rfl, by decide +kernel, by decide +kernel⟩
theorem ok__law_mixed {P : Program} {w : World} {K : PySem.W.Frag} {mg : Str → Option Value} {base : Heap} (T : Tops K mg) : HasD P w K mg base "_law_mixed" 2 ["hand", "things"] (Prom1 K mg 2 F__law_mixed) := by
  refine has1 (k := 1) (m := 2) T.d__law_mixed sc__law_mixed rfl rfl (fun _ _ _ _ _ _ us hl => match us, hl with | [_, _], _ => rfl) fun f cdv A outer s H E hr hgd => ?_
  have u := room_u hr
  have nd := (sc__law_mixed).nd
  have tk : Takes (cxOf (L2.CX P w) P w K mg base ["hand", "things", "left", "found"] "_law_mixed" (defScope Hd.s__law_mixed) f cdv A outer s H E) (fun cls d _ H => E cls d H) := takes_of rfl rfl rfl rfl
  exact (dss_cons (by first | exact (w_par2 2 3 nd (da_cons (w_callTy call_list_of cd_list T.n_list (da_cons (d_var 1) da_nil)) (da_cons (de_lst da_nil) da_nil))) | exact (ds_parG (is := [2, 3]) rfl ((pgs_cons (w_pg 2 nd) (pgs_cons (w_pg 3 nd) pgs_nil))) (da_cons (w_callTy call_list_of cd_list T.n_list (da_cons (d_var 1) da_nil)) (da_cons (de_lst da_nil) da_nil)) (by decide))) (dss_cons (ds_while 1000000000 (passes_of rfl) (dt_cmp op_gt opd_gt (w_callB cr_lenA cd_len T.n_len (da_cons (d_var 2) da_nil)) d_int (nomark _)) (dss_one (ds_expr (w_mut 3 PySem.F.slot_list_append mt_append mut_append (pv 3) (da_cons (w_mut 2 PySem.F.slot_list_pop mt_popAt mut_popAt (pv 2) (da_cons (de_c1 (ok__law_draw T) tk hr (by decide) hgd (da_cons (d_var 0) (da_cons (w_callB cr_lenA cd_len T.n_len (da_cons (d_var 2) da_nil)) da_nil)) (len_cons (len_cons len_nil))) da_nil)) da_nil))))) (dss_one (ds_ret (d_var 3)))))
def E__law_crowd_1 : M Val := (mTup (mCons (m2 fSub (mVar 4) (m2 fDiv (mVar 2) (mC (.int 2)))) (mCons (m2 fSub (mVar 5) (m2 fDiv (mVar 2) (mC (.int 2)))) mNil)))
def C__law_crowd_1 : M Val := mLc [5] (mR1 (mCons (mVar 2) mNil)) (gN 5) (M.ret true) E__law_crowd_1
def K__law_crowd_1 : M Flw := (sEx (mMut 3 fExtend (mCons C__law_crowd_1 mNil)))
def L__law_crowd_1 : M Flw := sFor (mR1 (mCons (mVar 2) mNil)) (gN 4) K__law_crowd_1
def B__law_crowd : M Flw := (sSeq (sSet 3 (mLst mNil)) (sSeq L__law_crowd_1 (sRet (mCB fTuple (mCons (mSl fSl (mCall1 F__law_mixed (mCons (mVar 0) (mCons (mVar 3) mNil))) none (some (mVar 1))) mNil)))))
def F__law_crowd : List D → FR := run1 3 3 B__law_crowd
theorem sc__law_crowd : FnScope ["hand", "many", "size", "every", "x", "y"] ["hand", "many", "size"] (defScope Hd.s__law_crowd) := ⟨rfl, rfl, rfl, by decide +kernel, rfl, by decide +kernel, by decide +kernel⟩
theorem ok__law_crowd {P : Program} {w : World} {K : PySem.W.Frag} {mg : Str → Option Value} {base : Heap} (T : Tops K mg) : HasD P w K mg base "_law_crowd" 3 ["hand", "many", "size"] (Prom1 K mg 3 F__law_crowd) := by
  refine has1 (k := 2) (m := 3) T.d__law_crowd sc__law_crowd rfl rfl (fun _ _ _ _ _ _ us hl => match us, hl with | [_, _, _], _ => rfl) fun f cdv A outer s H E hr hgd => ?_
  have u := room_u hr
  have nd := (sc__law_crowd).nd
  have tk : Takes (cxOf (L2.CX P w) P w K mg base ["hand", "many", "size", "every", "x", "y"] "_law_crowd" (defScope Hd.s__law_crowd) f cdv A outer s H E) (fun cls d _ H => E cls d H) := takes_of rfl rfl rfl rfl
  exact (dss_cons (w_set 3 nd (de_lst da_nil)) (dss_cons (ds_for (passes_of rfl) rfl (w_range1 T.n_range (da_cons (d_var 2) da_nil)) (w_name 4 nd) (dss_one (ds_expr (w_mut 3 PySem.F.slot_list_extend mt_extend mut_extend (pv 3) (da_cons (w_lc [("y", 5)] nd (w_range1 T.n_range (da_cons (d_var 2) da_nil)) (fun s1 H1 C1 cl1 fp1 => (w_name 5 nd)) (fun s1 H1 C1 cl1 fp1 => dts_nil) (fun s1 H1 C1 cl1 fp1 => (de_tup (da_cons (d_bin op_sub opd_sub (d_var 4) (d_bin opr_div opd_div (d_var 2) d_int)) (da_cons (d_bin op_sub opd_sub (d_var 5) (d_bin opr_div opd_div (d_var 2) d_int)) da_nil))))) da_nil))))) (dss_one (ds_ret (w_callTy call_tuple_of cd_tuple T.n_tuple (da_cons (de_sl (de_c1 (ok__law_mixed T) tk hr (by decide) hgd (da_cons (d_var 0) (da_cons (d_var 3) da_nil)) (len_cons (len_cons len_nil))) trivial (d_var 1)) da_nil))))))
def K__law_deep_1 : M Flw := (sSet 1 (mIf (mB (m2 fEq (mCall1 F__law_draw (mCons (mVar 0) (mCons (mC (.int 2)) mNil))) (mC (.int 0)))) (mTup (mCons (mVar 1) mNil)) (mLst (mCons (mVar 1) mNil))))
def L__law_deep_1 : M Flw := sFor (mR1 (mCons (m2 fAdd (mC (.int 1)) (mCall1 F__law_draw (mCons (mVar 0) (mCons (mC (.int 40)) mNil)))) mNil)) (gN 2) K__law_deep_1
def B__law_deep : M Flw := (sSeq (sSet 1 (mC .non)) (sSeq L__law_deep_1 (sRet (mVar 1))))
def F__law_deep : List D → FR := run1 1 2 B__law_deep
theorem sc__law_deep : FnScope ["hand", "thing", "lap_on"] ["hand"] (defScope Hd.s__law_deep) := ⟨rfl, rfl, rfl, by decide +kernel, rfl, by decide +kernel, by decide +kernel⟩
theorem ok__law_deep {P : Program} {w : World} {K : PySem.W.Frag} {mg : Str → Option Value} {base : Heap} (T : Tops K mg) : HasD P w K mg base "_law_deep" 2 ["hand"] (Prom1 K mg 1 F__law_deep) := by
  refine has1 (k := 1) (m := 2) T.d__law_deep sc__law_deep rfl rfl (fun _ _ _ _ _ _ us hl => match us, hl with | [_], _ => rfl) fun f cdv A outer s H E hr hgd => ?_
  have u := room_u hr
  have nd := (sc__law_deep).nd
  have tk : Takes (cxOf (L2.CX P w) P w K mg base ["hand", "thing", "lap_on"] "_law_deep" (defScope Hd.s__law_deep) f cdv A outer s H E) (fun cls d _ H => E cls d H) := takes_of rfl rfl rfl rfl
  exact (dss_cons (w_set 1 nd d_non) (dss_cons (ds_for (passes_of rfl) rfl (w_range1 T.n_range (da_cons (d_bin opr_add opd_add d_int (de_c1 (ok__law_draw T) tk hr (by decide) hgd (da_cons (d_var 0) (da_cons d_int da_nil)) (len_cons (len_cons len_nil)))) da_nil)) (w_name 2 nd) (dss_one (w_set 1 nd (de_if (dt_cmp (opr_eqU u) opd_eq (de_c1 (ok__law_draw T) tk hr (by decide) hgd (da_cons (d_var 0) (da_cons d_int da_nil)) (len_cons (len_cons len_nil))) d_int (nomark _)) (de_tup (da_cons (d_var 1) da_nil)) (de_lst (da_cons (d_var 1) da_nil)))))) (dss_one (ds_ret (d_var 1)))))
def B__law_bent (rf : List D → FR) : M Flw := (sSeq (sIf (mOr (mNot (mTru (mCB fIsi (mCons (mVar 1) (mCons (mC (.op (.ty "tuple"))) mNil))))) (mOr (mB (m2 fEq (mCB fLen (mCons (mVar 1) mNil)) (mC (.int 0)))) (mB (m2 fEq (mVar 2) (mC (.int 0)))))) (sSeq (sIf (mAnd (mTru (mCall0 F__law_is_int (mCons (mVar 1) mNil))) (mB (m2 fGt (mCall1 F__law_draw (mCons (mVar 0) (mCons (mC (.int 3)) mNil))) (mC (.int 0))))) (sRet (m2 fAdd (mVar 1) (mCall1 F__law_any (mCons (mVar 0) (mCons (mLst (mCons (mC (.int 1)) (mCons (m1 fNeg (mC (.int 1))) mNil))) mNil))))) sNx) (sRet (mCall1 F__law_any (mCons (mVar 0) (mCons (mLst (mCons (mC .non) (mCons (mC (.int 0)) (mCons (mC (.int 1)) (mCons (mC (.int 5)) (mCons (m1 fNeg (mC (.int 1))) (mCons (mC (.bl true)) (mCons (mTup mNil) (mCons (mTup (mCons (mC (.int 0)) mNil)) (mCons (mTup (mCons (mC (.int 1)) mNil)) (mCons (mTup (mCons (mC (.int 0)) (mCons (mC (.int 1)) mNil))) (mCons (mLst mNil) (mCons (mNewD false) (mCons (mC (.str (Str.ofString "x"))) (mCons (mC (.str (Str.ofString "apart"))) mNil))))))))))))))) mNil))))) sNx) (sSeq (sPar [3, 4] (mCons (mCall1 F__law_draw (mCons (mVar 0) (mCons (mCB fLen (mCons (mVar 1) mNil)) mNil))) (mCons (mCall1 F__law_draw (mCons (mVar 0) (mCons (mC (.int 6)) mNil))) mNil))) (sSeq (sIf (mB (m2 fEq (mVar 4) (mC (.int 0)))) (sRet (mCall1 F__law_any (mCons (mVar 0) (mCons (mLst (mCons (m2 fAdd (mSl fSl (mVar 1) none (some (mVar 3))) (mSl fSl (mVar 1) (some (m2 fAdd (mVar 3) (mC (.int 1)))) none)) (mCons (mCB fList (mCons (mVar 1) mNil)) (mCons (m1 fRevA (mVar 1)) (mCons (m2 fAdd (mVar 1) (mSl fSl (mVar 1) (some (m1 fNeg (mC (.int 1)))) none)) mNil))))) mNil)))) sNx) (sRet (m2 fAdd (m2 fAdd (mSl fSl (mVar 1) none (some (mVar 3))) (mTup (mCons (mCall1 rf (mCons (mVar 0) (mCons (m2 fIx (mVar 1) (mVar 3)) (mCons (m2 fSub (mVar 2) (mC (.int 1))) mNil)))) mNil))) (mSl fSl (mVar 1) (some (m2 fAdd (mVar 3) (mC (.int 1)))) none))))))
def F__law_bent : Nat → List D → FR
  | 0 => fun _ => .no
  | n + 1 => run1 3 2 (B__law_bent (F__law_bent n))
theorem sc__law_bent : FnScope ["hand", "thing", "deep", "at", "kind"] ["hand", "thing", "deep"] (defScope Hd.s__law_bent) := ⟨rfl, rfl, rfl, by decide +kernel, rfl, by decide +kernel, by decide +kernel⟩
theorem ok__law_bent {P : Program} {w : World} {K : PySem.W.Frag} {mg : Str → Option Value} {base : Heap} (T : Tops K mg) : ∀ n : Nat, HasD P w K mg base "_law_bent" (3 + n) ["hand", "thing", "deep"] (Prom1 K mg 3 (F__law_bent n))
  | 0 => none1 T.d__law_bent rfl (fun _ _ _ _ _ _ us hl => match us, hl with | [_, _, _], _ => rfl)
  | n + 1 => by
    have ih := ok__law_bent (P := P) (w := w) (base := base) T n
    refine has1 (k := 3 + n) (m := 2) T.d__law_bent sc__law_bent rfl rfl (fun _ _ _ _ _ _ us hl => match us, hl with | [_, _, _], _ => rfl) fun f cdv A outer s H E hr hgd => ?_
    have u := room_u hr
    have nd := (sc__law_bent).nd
    have tk : Takes (cxOf (L2.CX P w) P w K mg base ["hand", "thing", "deep", "at", "kind"] "_law_bent" (defScope Hd.s__law_bent) f cdv A outer s H E) (fun cls d _ H => E cls d H) := takes_of rfl rfl rfl rfl
    exact (dss_cons (ds_if (dt_w (dw_or (dt_not (dt_truth (w_callB call_isi cd_isi T.n_isinstance (da_cons (d_var 1) (da_cons (w_ty (T := "tuple") T.n_tuple) da_nil))))) (dw_or (dt_cmp (opr_eqU u) opd_eq (w_callB cr_lenA cd_len T.n_len (da_cons (d_var 1) da_nil)) d_int (nomark _)) (dw_or1 (dt_cmp (opr_eqU u) opd_eq (d_var 2) d_int (nomark _)))))) (dss_cons (ds_if (dt_w (dw_and (dt_truth (de_c0 (ok__law_is_int T) tk hr (by omega) hgd (da_cons (d_var 1) da_nil) (len_cons len_nil))) (dw_and1 (dt_cmp op_gt opd_gt (de_c1 (ok__law_draw T) tk hr (by omega) hgd (da_cons (d_var 0) (da_cons d_int da_nil)) (len_cons (len_cons len_nil))) d_int (nomark _))))) (dss_one (ds_ret (d_bin opr_add opd_add (d_var 1) (de_c1 (ok__law_any T) tk hr (by omega) hgd (da_cons (d_var 0) (da_cons (de_lst (da_cons d_int (da_cons (d_un un_neg und_neg d_int) da_nil))) da_nil)) (len_cons (len_cons len_nil)))))) dss_nil) (dss_one (ds_ret (de_c1 (ok__law_any T) tk hr (by omega) hgd (da_cons (d_var 0) (da_cons (de_lst (da_cons d_non (da_cons d_int (da_cons d_int (da_cons d_int (da_cons (d_un un_neg und_neg d_int) (da_cons d_bl (da_cons (de_tup da_nil) (da_cons (de_tup (da_cons d_int da_nil)) (da_cons (de_tup (da_cons d_int da_nil)) (da_cons (de_tup (da_cons d_int (da_cons d_int da_nil))) (da_cons (de_lst da_nil) (da_cons (de_newD false) (da_cons d_str (da_cons d_str da_nil))))))))))))))) da_nil)) (len_cons (len_cons len_nil)))))) dss_nil) (dss_cons (by first | exact (w_par2 3 4 nd (da_cons (de_c1 (ok__law_draw T) tk hr (by omega) hgd (da_cons (d_var 0) (da_cons (w_callB cr_lenA cd_len T.n_len (da_cons (d_var 1) da_nil)) da_nil)) (len_cons (len_cons len_nil))) (da_cons (de_c1 (ok__law_draw T) tk hr (by omega) hgd (da_cons (d_var 0) (da_cons d_int da_nil)) (len_cons (len_cons len_nil))) da_nil))) | exact (ds_parG (is := [3, 4]) rfl ((pgs_cons (w_pg 3 nd) (pgs_cons (w_pg 4 nd) pgs_nil))) (da_cons (de_c1 (ok__law_draw T) tk hr (by omega) hgd (da_cons (d_var 0) (da_cons (w_callB cr_lenA cd_len T.n_len (da_cons (d_var 1) da_nil)) da_nil)) (len_cons (len_cons len_nil))) (da_cons (de_c1 (ok__law_draw T) tk hr (by omega) hgd (da_cons (d_var 0) (da_cons d_int da_nil)) (len_cons (len_cons len_nil))) da_nil)) (by decide))) (dss_cons (ds_if (dt_cmp (opr_eqU u) opd_eq (d_var 4) d_int (nomark _)) (dss_one (ds_ret (de_c1 (ok__law_any T) tk hr (by omega) hgd (da_cons (d_var 0) (da_cons (de_lst (da_cons (d_bin opr_add opd_add (de_sl (d_var 1) trivial (d_var 3)) (de_sl (d_var 1) (d_bin opr_add opd_add (d_var 3) d_int) trivial)) (da_cons (w_callTy call_list_of cd_list T.n_list (da_cons (d_var 1) da_nil)) (da_cons (w_revA (d_var 1)) (da_cons (d_bin opr_add opd_add (d_var 1) (de_sl (d_var 1) (d_un un_neg und_neg d_int) trivial)) da_nil))))) da_nil)) (len_cons (len_cons len_nil))))) dss_nil) (dss_one (ds_ret (d_bin opr_add opd_add (d_bin opr_add opd_add (de_sl (d_var 1) trivial (d_var 3)) (de_tup (da_cons (de_c1 ih tk hr (Nat.le_refl _) hgd (da_cons (d_var 0) (da_cons (de_sub (u1 u) (d_var 1) (d_var 3)) (da_cons (d_bin op_sub opd_sub (d_var 2) d_int) da_nil))) (len_cons (len_cons (len_cons len_nil)))) da_nil))) (de_sl (d_var 1) (d_bin opr_add opd_add (d_var 3) d_int) trivial)))))))
def K__law_steps_1 : M Flw := (sIf (mB (m2 fNe (mVar 3) (mVar 2))) (sSeq (sSet 4 (mTup (mCons (m2 fSub (m2 fIx (mVar 3) (mC (.int 0))) (m2 fIx (mVar 2) (mC (.int 0)))) (mCons (m2 fSub (m2 fIx (mVar 3) (mC (.int 1))) (m2 fIx (mVar 2) (mC (.int 1)))) mNil)))) (sStore 1 (mVar 4) (m2 fAdd (mGet2 (mVar 1) (mVar 4) (mC (.int 0))) (mC (.int 1))))) sNx)
def L__law_steps_1 : M Flw := sFor (mSeq (mVar 0)) (gN 3) K__law_steps_1
def K__law_steps_2 : M Flw := L__law_steps_1
def L__law_steps_2 : M Flw := sFor (mSeq (mVar 0)) (gN 2) K__law_steps_2
def E__law_steps_1 : M Val := (mTup (mCons (mVar 4) (mCons (m2 fIx (mVar 1) (mVar 4)) mNil)))
def C__law_steps_1 : M Val := mLc [4] (mAny 1) (gN 4) (M.ret true) E__law_steps_1
def B__law_steps : M Flw := (sSeq (sSet 1 (mNewD true)) (sSeq L__law_steps_2 (sRet (mCB fTuple (mCons (mCB fSortB (mCons C__law_steps_1 mNil)) mNil)))))
def F__law_steps : List D → FR := run0 1 4 B__law_steps
theorem sc__law_steps : FnScope ["crowd", "found", "one", "other", "step"] ["crowd"] (defScope Hd.s__law_steps) := ⟨rfl, rfl, rfl, by decide +kernel, rfl, by decide +kernel, by decide +kernel⟩
theorem ok__law_steps {P : Program} {w : World} {K : PySem.W.Frag} {mg : Str → Option Value} {base : Heap} (T : Tops K mg) : HasD P w K mg base "_law_steps" 1 ["crowd"] (Prom0 K mg 1 F__law_steps) := by
  refine has0 (k := 0) (m := 4) T.d__law_steps sc__law_steps rfl rfl (fun _ _ _ _ _ _ us hl => match us, hl with | [_], _ => rfl) fun f cdv A outer s H E hr hgd => ?_
  have u := room_u hr
  have nd := (sc__law_steps).nd
  have tk : Takes (cxOf (L2.CX P w) P w K mg base ["crowd", "found", "one", "other", "step"] "_law_steps" (defScope Hd.s__law_steps) f cdv A outer s H E) (fun cls d _ H => E cls d H) := takes_of rfl rfl rfl rfl
  exact (dss_cons (w_set 1 nd (de_newD true)) (dss_cons (ds_for (passes_of rfl) rfl (di_seq (d_var 0)) (w_name 2 nd) (dss_one (ds_for (passes_of rfl) rfl (di_seq (d_var 0)) (w_name 3 nd) (dss_one (ds_if (dt_cmp (opr_neU u) opd_ne (d_var 3) (d_var 2) (nomark _)) (dss_cons (w_set 4 nd (de_tup (da_cons (d_bin op_sub opd_sub (de_sub (u1 u) (d_var 3) d_int) (de_sub (u1 u) (d_var 2) d_int)) (da_cons (d_bin op_sub opd_sub (de_sub (u1 u) (d_var 3) d_int) (de_sub (u1 u) (d_var 2) d_int)) da_nil)))) (dss_one (ds_store (u1 u) (pv 1) (d_var 4) (d_bin opr_add opd_add (de_get2 (u1 u) (d_var 1) (d_var 4) d_int ⟨rfl, rfl, rfl, rfl⟩) d_int)))) dss_nil))))) (dss_one (ds_ret (w_callTy call_tuple_of cd_tuple T.n_tuple (da_cons (w_callB (cr_sortB rfl u) cd_sortB T.n_sorted (da_cons (w_lcN 1 [("step", 4)] nd (pv 1) (d_var 1) (fun s1 H1 C1 cl1 fp1 => (w_name 4 nd)) (fun s1 H1 C1 cl1 fp1 => dts_nil) (fun s1 H1 C1 cl1 fp1 => (de_tup (da_cons (d_var 4) (da_cons (de_sub (u1 u) (d_var 1) (d_var 4)) da_nil))))) da_nil)) da_nil))))))
def E__law_due_1 : M Val := (mTup (mCons (m2 fSub (m2 fIx (mVar 5) (mC (.int 0))) (m2 fIx (mVar 4) (mC (.int 0)))) (mCons (m2 fSub (m2 fIx (mVar 5) (mC (.int 1))) (m2 fIx (mVar 4) (mC (.int 1)))) mNil)))
def C__law_due_1 : M Val := mLc [4, 5] (mZip (mCons (mCB fSortB (mCons (mVar 0) mNil)) (mCons (mCB fSortB (mCons (mVar 1) mNil)) mNil))) (gT (gsCons (gN 4) (gsCons (gN 5) gsNil))) (M.ret true) E__law_due_1
def E__law_due_2 : M Val := (mVar 6)
def T__law_due_1 : M Bool := (mB (m2 fNe (mVar 7) (m2 fIx (mVar 2) (mC (.int 0)))))
def C__law_due_2 : M Val := mLc [6, 7] (mEn (mCons (mVar 2) mNil)) (gT (gsCons (gN 6) (gsCons (gN 7) gsNil))) T__law_due_1 E__law_due_2
def B__law_due : M Flw := (sSeq (sSet 2 C__law_due_1) (sSeq (sSet 3 C__law_due_2) (sRet (mIf (mB (m2 fGt (mCB fLen (mCons (mVar 3) mNil)) (mC (.int 0)))) (mTup (mCons (mC (.str (Str.ofString "parts"))) (mCons (m2 fIx (mVar 3) (mC (.int 0))) mNil))) (mTup (mCons (mC (.str (Str.ofString "moved"))) (mCons (m2 fIx (mVar 2) (mC (.int 0))) mNil)))))))
def F__law_due : List D → FR := run0 2 6 B__law_due
theorem sc__law_due : FnScope ["one", "other", "steps_own", "some", "a", "b", "k", "step"] ["one", "other"] (defScope Hd.s__law_due) := ⟨rfl, rfl, rfl, by decide +kernel, rfl, by decide +kernel, by decide +kernel⟩
theorem ok__law_due {P : Program} {w : World} {K : PySem.W.Frag} {mg : Str → Option Value} {base : Heap} (T : Tops K mg) : HasD P w K mg base "_law_due" 1 ["one", "other"] (Prom0 K mg 2 F__law_due) := by
  refine has0 (k := 0) (m := 6) T.d__law_due sc__law_due rfl rfl (fun _ _ _ _ _ _ us hl => match us, hl with | [_, _], _ => rfl) fun f cdv A outer s H E hr hgd => ?_
  have u := room_u hr
  have nd := (sc__law_due).nd
  have tk : Takes (cxOf (L2.CX P w) P w K mg base ["one", "other", "steps_own", "some", "a", "b", "k", "step"] "_law_due" (defScope Hd.s__law_due) f cdv A outer s H E) (fun cls d _ H => E cls d H) := takes_of rfl rfl rfl rfl
  exact (dss_cons (w_set 2 nd (w_lc [("a", 4), ("b", 5)] nd (w_zip T.n_zip (da_cons (w_callB (cr_sortB rfl u) cd_sortB T.n_sorted (da_cons (d_var 0) da_nil)) (da_cons (w_callB (cr_sortB rfl u) cd_sortB T.n_sorted (da_cons (d_var 1) da_nil)) da_nil))) (fun s1 H1 C1 cl1 fp1 => (w_tup 2 (dgs_cons (w_name 4 nd) (dgs_cons (w_name 5 nd) dgs_nil)) (gs_len1 (gs_len1 gs_len0)))) (fun s1 H1 C1 cl1 fp1 => dts_nil) (fun s1 H1 C1 cl1 fp1 => (de_tup (da_cons (d_bin op_sub opd_sub (de_sub (u1 u) (d_var 5) d_int) (de_sub (u1 u) (d_var 4) d_int)) (da_cons (d_bin op_sub opd_sub (de_sub (u1 u) (d_var 5) d_int) (de_sub (u1 u) (d_var 4) d_int)) da_nil)))))) (dss_cons (w_setLc 3 [("k", 6), ("step", 7)] nd (w_enum T.n_enumerate (da_cons (d_var 2) da_nil)) (fun s1 H1 C1 cl1 fp1 => (w_tup 2 (dgs_cons (w_name 6 nd) (dgs_cons (w_name 7 nd) dgs_nil)) (gs_len1 (gs_len1 gs_len0)))) (fun s1 H1 C1 cl1 fp1 => (dts_one (dt_cmp (opr_neU u) opd_ne (d_var 7) (de_sub (u1 u) (d_var 2) d_int) (nomark _)))) (fun s1 H1 C1 cl1 fp1 => (d_var 6))) (dss_one (ds_ret (de_if (dt_cmp op_gt opd_gt (w_callB cr_lenA cd_len T.n_len (da_cons (d_var 3) da_nil)) d_int (nomark _)) (de_tup (da_cons d_str (da_cons (de_sub (u1 u) (d_var 3) d_int) da_nil))) (de_tup (da_cons d_str (da_cons (de_sub (u1 u) (d_var 2) d_int) da_nil))))))))
def E__law_is_right_1 : M Val := (mCall1 (F__law_bent 6) (mCons (mVar 0) (mCons (mVar 6) (mCons (mC (.int 2)) mNil))))
def C__law_is_right_1 : M Val := mLc [8] (mR1 (mCons (mC (.int 6)) mNil)) (gN 8) (M.ret true) E__law_is_right_1
def K__law_is_right_1 : M Flw := (sSeq (sSet 7 (mCB fRepr (mCons (mVar 4) mNil))) (sIf (mOr (mB (m2 fNe (mCB fRepr (mCons (mCall0 F_is_moved_shown (mCons (mVar 1) (mCons (mVar 2) (mCons (mVar 4) mNil)))) mNil)) (mCB fRepr (mCons (m2 fEq (mVar 7) (mCB fRepr (mCons (mVar 5) mNil))) mNil)))) (mB (m2 fNe (mCB fRepr (mCons (mVar 4) mNil)) (mVar 7)))) (sRet (mC (.bl false))) sNx))
def L__law_is_right_1 : M Flw := sFor (mSeq (m2 fAdd (m2 fAdd (mVar 3) (mLst (mCons (mTup (mCons (mC (.str (Str.ofString "parts"))) (mCons (mC (.bl true)) mNil))) (mCons (mCall1 F__law_deep (mCons (mVar 0) mNil)) mNil)))) C__law_is_right_1)) (gN 4) K__law_is_right_1
def B__law_is_right : M Flw := (sSeq (sPar [5, 6] (mCons (mCall0 F__law_due (mCons (mVar 1) (mCons (mVar 2) mNil))) (mCons (mCall0 F_moved_shown (mCons (mVar 1) (mCons (mVar 2) mNil))) mNil))) (sSeq (sIf (mOr (mB (m2 fNe (mCB fRepr (mCons (mVar 6) mNil)) (mCB fRepr (mCons (mVar 5) mNil)))) (mB (m2 fNe (mCB fRepr (mCons (mCall0 F_step_counts (mCons (mVar 1) mNil)) mNil)) (mCB fRepr (mCons (mCall0 F__law_steps (mCons (mVar 1) mNil)) mNil))))) (sRet (mC (.bl false))) sNx) (sSeq (sIf (mAnd (mB (m2 fEq (m2 fIx (mVar 5) (mC (.int 0))) (mC (.str (Str.ofString "moved"))))) (mB (m2 fNe (mCall0 F_step_counts (mCons (mVar 2) mNil)) (mCall0 F_step_counts (mCons (mVar 1) mNil))))) (sRet (mC (.bl false))) sNx) (sSeq (sSet 3 (mLst (mCons (mVar 6) (mCons (mSl fSl (mVar 6) none (some (mC (.int 1)))) (mCons (m2 fAdd (mVar 6) (mTup (mCons (mC (.int 0)) mNil))) (mCons (mCB fList (mCons (mVar 6) mNil)) (mCons (m1 fRevA (mVar 6)) mNil))))))) (sSeq (sSet 3 (m2 fAdd (mVar 3) (mLst (mCons (mC .non) (mCons (mTup (mCons (mC (.str (Str.ofString "moved"))) (mCons (mTup (mCons (mC (.int 0)) (mCons (mC (.int 0)) mNil))) mNil))) (mCons (mTup (mCons (mC (.str (Str.ofString "moved"))) (mCons (mLst (mCons (mC (.int 1)) (mCons (mC (.int 2)) mNil))) mNil))) (mCons (mTup (mCons (mC (.str (Str.ofString "parts"))) (mCons (mC (.int 0)) mNil))) (mCons (mTup (mCons (mC (.str (Str.ofString "parts"))) (mCons (mC (.int 1)) mNil))) mNil)))))))) (sSeq L__law_is_right_1 (sRet (mC (.bl true)))))))))
def F__law_is_right : List D → FR := run1 3 6 B__law_is_right
theorem sc__law_is_right : FnScope ["hand", "one", "other", "things", "thing", "due", "told", "kept", "lap_on"] ["hand", "one", "other"] (defScope Hd.s__law_is_right) := ⟨rfl, rfl, rfl, by decide +kernel, rfl, by decide +kernel, by decide +kernel⟩
theorem ok__law_is_right {P : Program} {w : World} {K : PySem.W.Frag} {mg : Str → Option Value} {base : Heap} (T : Tops K mg) : HasD P w K mg base "_law_is_right" 10 ["hand", "one", "other"] (Prom1 K mg 3 F__law_is_right) := by
  refine has1 (k := 9) (m := 6) T.d__law_is_right sc__law_is_right rfl rfl (fun _ _ _ _ _ _ us hl => match us, hl with | [_, _, _], _ => rfl) fun f cdv A outer s H E hr hgd => ?_
  have u := room_u hr
  have nd := (sc__law_is_right).nd
  have tk : Takes (cxOf (L2.CX P w) P w K mg base ["hand", "one", "other", "things", "thing", "due", "told", "kept", "lap_on"] "_law_is_right" (defScope Hd.s__law_is_right) f cdv A outer s H E) (fun cls d _ H => E cls d H) := takes_of rfl rfl rfl rfl
  exact (dss_cons (by first | exact (w_par2 5 6 nd (da_cons (de_c0 (ok__law_due T) tk hr (by decide) hgd (da_cons (d_var 1) (da_cons (d_var 2) da_nil)) (len_cons (len_cons len_nil))) (da_cons (de_c0 (ok_moved_shown T) tk hr (by decide) hgd (da_cons (d_var 1) (da_cons (d_var 2) da_nil)) (len_cons (len_cons len_nil))) da_nil))) | exact (ds_parG (is := [5, 6]) rfl ((pgs_cons (w_pg 5 nd) (pgs_cons (w_pg 6 nd) pgs_nil))) (da_cons (de_c0 (ok__law_due T) tk hr (by decide) hgd (da_cons (d_var 1) (da_cons (d_var 2) da_nil)) (len_cons (len_cons len_nil))) (da_cons (de_c0 (ok_moved_shown T) tk hr (by decide) hgd (da_cons (d_var 1) (da_cons (d_var 2) da_nil)) (len_cons (len_cons len_nil))) da_nil)) (by decide))) (dss_cons (ds_if (dt_w (dw_or (dt_cmp (opr_neU u) opd_ne (w_callB (cr_reprU hgd u) cd_repr T.n_repr (da_cons (d_var 6) da_nil)) (w_callB (cr_reprU hgd u) cd_repr T.n_repr (da_cons (d_var 5) da_nil)) (nomark _)) (dw_or1 (dt_cmp (opr_neU u) opd_ne (w_callB (cr_reprU hgd u) cd_repr T.n_repr (da_cons (de_c0 (ok_step_counts T) tk hr (by decide) hgd (da_cons (d_var 1) da_nil) (len_cons len_nil)) da_nil)) (w_callB (cr_reprU hgd u) cd_repr T.n_repr (da_cons (de_c0 (ok__law_steps T) tk hr (by decide) hgd (da_cons (d_var 1) da_nil) (len_cons len_nil)) da_nil)) (nomark _))))) (dss_one (ds_ret d_bl)) dss_nil) (dss_cons (ds_if (dt_w (dw_and (dt_cmp (opr_eqU u) opd_eq (de_sub (u1 u) (d_var 5) d_int) d_str (nomark _)) (dw_and1 (dt_cmp (opr_neU u) opd_ne (de_c0 (ok_step_counts T) tk hr (by decide) hgd (da_cons (d_var 2) da_nil) (len_cons len_nil)) (de_c0 (ok_step_counts T) tk hr (by decide) hgd (da_cons (d_var 1) da_nil) (len_cons len_nil)) (nomark _))))) (dss_one (ds_ret d_bl)) dss_nil) (dss_cons (w_set 3 nd (de_lst (da_cons (d_var 6) (da_cons (de_sl (d_var 6) trivial d_int) (da_cons (d_bin opr_add opd_add (d_var 6) (de_tup (da_cons d_int da_nil))) (da_cons (w_callTy call_list_of cd_list T.n_list (da_cons (d_var 6) da_nil)) (da_cons (w_revA (d_var 6)) da_nil))))))) (dss_cons (w_set 3 nd (d_bin opr_add opd_add (d_var 3) (de_lst (da_cons d_non (da_cons (de_tup (da_cons d_str (da_cons (de_tup (da_cons d_int (da_cons d_int da_nil))) da_nil))) (da_cons (de_tup (da_cons d_str (da_cons (de_lst (da_cons d_int (da_cons d_int da_nil))) da_nil))) (da_cons (de_tup (da_cons d_str (da_cons d_int da_nil))) (da_cons (de_tup (da_cons d_str (da_cons d_int da_nil))) da_nil)))))))) (dss_cons (ds_for (passes_of rfl) rfl (di_seq (d_bin opr_add opd_add (d_bin opr_add opd_add (d_var 3) (de_lst (da_cons (de_tup (da_cons d_str (da_cons d_bl da_nil))) (da_cons (de_c1 (ok__law_deep T) tk hr (by decide) hgd (da_cons (d_var 0) da_nil) (len_cons len_nil)) da_nil)))) (w_lc [("lap_on", 8)] nd (w_range1 T.n_range (da_cons d_int da_nil)) (fun s1 H1 C1 cl1 fp1 => (w_name 8 nd)) (fun s1 H1 C1 cl1 fp1 => dts_nil) (fun s1 H1 C1 cl1 fp1 => (de_c1 (ok__law_bent T 6) takes0 hr (by omega) hgd (da_cons (d_var 0) (da_cons (d_var 6) (da_cons d_int da_nil))) (len_cons (len_cons (len_cons len_nil)))))))) (w_name 4 nd) (dss_cons (w_set 7 nd (w_callB (cr_reprU hgd u) cd_repr T.n_repr (da_cons (d_var 4) da_nil))) (dss_one (ds_if (dt_w (dw_or (dt_cmp (opr_neU u) opd_ne (w_callB (cr_reprU hgd u) cd_repr T.n_repr (da_cons (de_c0 (ok_is_moved_shown T) tk hr (by decide) hgd (da_cons (d_var 1) (da_cons (d_var 2) (da_cons (d_var 4) da_nil))) (len_cons (len_cons (len_cons len_nil)))) da_nil)) (w_callB (cr_reprU hgd u) cd_repr T.n_repr (da_cons (d_cmp (opr_eqU u) opd_eq (d_var 7) (w_callB (cr_reprU hgd u) cd_repr T.n_repr (da_cons (d_var 5) da_nil)) (nomark _)) da_nil)) (nomark _)) (dw_or1 (dt_cmp (opr_neU u) opd_ne (w_callB (cr_reprU hgd u) cd_repr T.n_repr (da_cons (d_var 4) da_nil)) (d_var 7) (nomark _))))) (dss_one (ds_ret d_bl)) dss_nil)))) (dss_one (ds_ret d_bl))))))))
def E_law_1 : M Val := (mTup (mCons (m2 fAdd (mVar 8) (m2 fIx (mVar 4) (mC (.int 0)))) (mCons (m2 fAdd (mVar 9) (m2 fIx (mVar 4) (mC (.int 1)))) mNil)))
def C_law_1 : M Val := mLc [8, 9] (mAny 3) (gT (gsCons (gN 8) (gsCons (gN 9) gsNil))) (M.ret true) E_law_1
def E_law_2 : M Val := (mCall1 F__law_is_right (mCons (mVar 1) (mCons (mVar 3) (mCons (mVar 7) mNil))))
def C_law_2 : M Val := mLc [7] (mSeq (mTup (mCons (mVar 5) (mCons (mVar 6) (mCons (mCall1 F__law_crowd (mCons (mVar 1) (mCons (mCB fLen (mCons (mVar 3) mNil)) (mCons (mC (.int 5)) mNil)))) mNil))))) (gN 7) (M.ret true) E_law_2
def K_law_1 : M Flw := (sSeq (sSet 3 (mCall1 F__law_crowd (mCons (mVar 1) (mCons (m2 fAdd (mC (.int 3)) (mCall1 F__law_draw (mCons (mVar 1) (mCons (mC (.int 5)) mNil)))) (mCons (mC (.int 5)) mNil))))) (sSeq (sSet 4 (mTup (mCons (m2 fSub (mCall1 F__law_draw (mCons (mVar 1) (mCons (mC (.int 9)) mNil))) (mC (.int 4))) (mCons (m2 fSub (mCall1 F__law_draw (mCons (mVar 1) (mCons (mC (.int 9)) mNil))) (mC (.int 4))) mNil)))) (sSeq (sSet 5 (mCB fTuple (mCons (mCall1 F__law_mixed (mCons (mVar 1) (mCons C_law_1 mNil))) mNil))) (sSeq (sSet 6 (m2 fAdd (mSl fSl (mVar 5) none (some (m1 fNeg (mC (.int 1))))) (mTup (mCons (mTup (mCons (mC (.int 19)) (mCons (mCall1 F__law_draw (mCons (mVar 1) (mCons (mC (.int 9)) mNil))) mNil))) mNil)))) (sIf (mNot (mTru (mCB fAll (mCons C_law_2 mNil)))) (sRet (mC (.bl false))) sNx)))))
def L_law_1 : M Flw := sFor (mR1 (mCons (mC (.int 5)) mNil)) (gN 2) K_law_1
def B_law : M Flw := (sSeq (sSet 1 (mCall0 F__law_hand (mCons (mVar 0) mNil))) (sSeq (sIf (mB (m2 fNe (mCall0 F_step_counts (mCons (mTup (mCons (mTup (mCons (mC (.int 0)) (mCons (mC (.int 0)) mNil))) (mCons (mTup (mCons (mC (.int 1)) (mCons (mC (.int 0)) mNil))) (mCons (mTup (mCons (mC (.int 2)) (mCons (mC (.int 0)) mNil))) mNil)))) mNil)) (mTup (mCons (mTup (mCons (mTup (mCons (m1 fNeg (mC (.int 2))) (mCons (mC (.int 0)) mNil))) (mCons (mC (.int 1)) mNil))) (mCons (mTup (mCons (mTup (mCons (m1 fNeg (mC (.int 1))) (mCons (mC (.int 0)) mNil))) (mCons (mC (.int 2)) mNil))) (mCons (mTup (mCons (mTup (mCons (mC (.int 1)) (mCons (mC (.int 0)) mNil))) (mCons (mC (.int 2)) mNil))) (mCons (mTup (mCons (mTup (mCons (mC (.int 2)) (mCons (mC (.int 0)) mNil))) (mCons (mC (.int 1)) mNil))) mNil))))))) (sRet (mC (.bl false))) sNx) (sSeq (sIf (mB (m2 fNe (mCall0 F_moved_shown (mCons (mTup (mCons (mTup (mCons (mC (.int 0)) (mCons (mC (.int 0)) mNil))) (mCons (mTup (mCons (mC (.int 1)) (mCons (mC (.int 0)) mNil))) (mCons (mTup (mCons (mC (.int 3)) (mCons (mC (.int 1)) mNil))) mNil)))) (mCons (mTup (mCons (mTup (mCons (mC (.int 5)) (mCons (mC (.int 5)) mNil))) (mCons (mTup (mCons (mC (.int 7)) (mCons (mC (.int 6)) mNil))) (mCons (mTup (mCons (mC (.int 4)) (mCons (mC (.int 5)) mNil))) mNil)))) mNil))) (mTup (mCons (mC (.str (Str.ofString "moved"))) (mCons (mTup (mCons (mC (.int 4)) (mCons (mC (.int 5)) mNil))) mNil))))) (sRet (mC (.bl false))) sNx) (sSeq L_law_1 (sRet (mC (.bl true)))))))
def F_law : List D → FR := run0 1 9 B_law
theorem sc_law : FnScope ["script", "hand", "lap_on", "crowd", "by", "twin", "bent", "some", "x", "y"] ["script"] (defScope Hd.s_law) := ⟨rfl, rfl, rfl, by decide +kernel, rfl, by decide +kernel, by decide +kernel⟩
theorem fn_law {P : Program} {w : World} {K : PySem.W.Frag} {mg : Str → Option Value} {base : Heap} {f : Addr} {fd : FuncData} (T : Tops K mg) (F : FunD K "law" "law" (defArgs Hd.s_law) (defBody Hd.s_law) (defScope Hd.s_law) [] [] f fd) : FnG P w K mg base 11 f fd ["script"] (Prom0 K mg 1 F_law) := by
  refine fn0 (k := 10) (m := 9) F sc_law rfl rfl fun cdv A outer s H E hr hgd => ?_
  have u := room_u hr
  have nd := sc_law.nd
  have tk : Takes (cxOf (L2.CX P w) P w K mg base ["script", "hand", "lap_on", "crowd", "by", "twin", "bent", "some", "x", "y"] "law" (defScope Hd.s_law) f cdv A outer s H E) (fun cls d _ H => E cls d H) := takes_of rfl rfl rfl rfl
  exact (dss_cons (w_set 1 nd (de_c0 (ok__law_hand T) tk hr (by decide) hgd (da_cons (d_var 0) da_nil) (len_cons len_nil))) (dss_cons (ds_if (dt_cmp (opr_neU u) opd_ne (de_c0 (ok_step_counts T) tk hr (by decide) hgd (da_cons (de_tup (da_cons (de_tup (da_cons d_int (da_cons d_int da_nil))) (da_cons (de_tup (da_cons d_int (da_cons d_int da_nil))) (da_cons (de_tup (da_cons d_int (da_cons d_int da_nil))) da_nil)))) da_nil) (len_cons len_nil)) (de_tup (da_cons (de_tup (da_cons (de_tup (da_cons (d_un un_neg und_neg d_int) (da_cons d_int da_nil))) (da_cons d_int da_nil))) (da_cons (de_tup (da_cons (de_tup (da_cons (d_un un_neg und_neg d_int) (da_cons d_int da_nil))) (da_cons d_int da_nil))) (da_cons (de_tup (da_cons (de_tup (da_cons d_int (da_cons d_int da_nil))) (da_cons d_int da_nil))) (da_cons (de_tup (da_cons (de_tup (da_cons d_int (da_cons d_int da_nil))) (da_cons d_int da_nil))) da_nil))))) (nomark _)) (dss_one (ds_ret d_bl)) dss_nil) (dss_cons (ds_if (dt_cmp (opr_neU u) opd_ne (de_c0 (ok_moved_shown T) tk hr (by decide) hgd (da_cons (de_tup (da_cons (de_tup (da_cons d_int (da_cons d_int da_nil))) (da_cons (de_tup (da_cons d_int (da_cons d_int da_nil))) (da_cons (de_tup (da_cons d_int (da_cons d_int da_nil))) da_nil)))) (da_cons (de_tup (da_cons (de_tup (da_cons d_int (da_cons d_int da_nil))) (da_cons (de_tup (da_cons d_int (da_cons d_int da_nil))) (da_cons (de_tup (da_cons d_int (da_cons d_int da_nil))) da_nil)))) da_nil)) (len_cons (len_cons len_nil))) (de_tup (da_cons d_str (da_cons (de_tup (da_cons d_int (da_cons d_int da_nil))) da_nil))) (nomark _)) (dss_one (ds_ret d_bl)) dss_nil) (dss_cons (ds_for (passes_of rfl) rfl (w_range1 T.n_range (da_cons d_int da_nil)) (w_name 2 nd) (dss_cons (w_set 3 nd (de_c1 (ok__law_crowd T) tk hr (by decide) hgd (da_cons (d_var 1) (da_cons (d_bin opr_add opd_add d_int (de_c1 (ok__law_draw T) tk hr (by decide) hgd (da_cons (d_var 1) (da_cons d_int da_nil)) (len_cons (len_cons len_nil)))) (da_cons d_int da_nil))) (len_cons (len_cons (len_cons len_nil))))) (dss_cons (w_set 4 nd (de_tup (da_cons (d_bin op_sub opd_sub (de_c1 (ok__law_draw T) tk hr (by decide) hgd (da_cons (d_var 1) (da_cons d_int da_nil)) (len_cons (len_cons len_nil))) d_int) (da_cons (d_bin op_sub opd_sub (de_c1 (ok__law_draw T) tk hr (by decide) hgd (da_cons (d_var 1) (da_cons d_int da_nil)) (len_cons (len_cons len_nil))) d_int) da_nil)))) (dss_cons (w_set 5 nd (w_callTy call_tuple_of cd_tuple T.n_tuple (da_cons (de_c1 (ok__law_mixed T) tk hr (by decide) hgd (da_cons (d_var 1) (da_cons (w_lcN 3 [("x", 8), ("y", 9)] nd (pv 3) (d_var 3) (fun s1 H1 C1 cl1 fp1 => (w_tup 2 (dgs_cons (w_name 8 nd) (dgs_cons (w_name 9 nd) dgs_nil)) (gs_len1 (gs_len1 gs_len0)))) (fun s1 H1 C1 cl1 fp1 => dts_nil) (fun s1 H1 C1 cl1 fp1 => (de_tup (da_cons (d_bin opr_add opd_add (d_var 8) (de_sub (u1 u) (d_var 4) d_int)) (da_cons (d_bin opr_add opd_add (d_var 9) (de_sub (u1 u) (d_var 4) d_int)) da_nil))))) da_nil)) (len_cons (len_cons len_nil))) da_nil))) (dss_cons (w_set 6 nd (d_bin opr_add opd_add (de_sl (d_var 5) trivial (d_un un_neg und_neg d_int)) (de_tup (da_cons (de_tup (da_cons d_int (da_cons (de_c1 (ok__law_draw T) tk hr (by decide) hgd (da_cons (d_var 1) (da_cons d_int da_nil)) (len_cons (len_cons len_nil))) da_nil))) da_nil)))) (dss_one (ds_if (dt_not (dt_truth (w_callB (cr_all rfl) cd_all T.n_all (da_cons (w_lc [("some", 7)] nd (di_seq (de_tup (da_cons (d_var 5) (da_cons (d_var 6) (da_cons (de_c1 (ok__law_crowd T) tk hr (by decide) hgd (da_cons (d_var 1) (da_cons (w_callB cr_lenA cd_len T.n_len (da_cons (d_var 3) da_nil)) (da_cons d_int da_nil))) (len_cons (len_cons (len_cons len_nil)))) da_nil))))) (fun s1 H1 C1 cl1 fp1 => (w_name 7 nd)) (fun s1 H1 C1 cl1 fp1 => dts_nil) (fun s1 H1 C1 cl1 fp1 => (de_c1 (ok__law_is_right T) takes0 hr (by decide) hgd (da_cons (d_var 1) (da_cons (d_var 3) (da_cons (d_var 7) da_nil))) (len_cons (len_cons (len_cons len_nil)))))) da_nil)))) (dss_one (ds_ret d_bl)) dss_nil))))))) (dss_one (ds_ret d_bl))))))
end
end Lw
namespace Lw
section
open PySem PySem.Spec PyProof.Rows L2 VS
noncomputable def G_is_integer : List D → P D := f1_ fun x1 => (((P.op (fIsi [x1, (D.op (.ty "int"))])).bind P.tb).bind fun x4 => if x4 = true then ((((P.op (fIsi [x1, (D.op (.ty "bool"))])).bind P.tb).bind fun x2 => P.ok !x2).bind fun x3 => P.ok (D.bl x3)) else P.ok (D.bl false))
theorem g_is_integer : Call0 false F_is_integer G_is_integer := fnG0 (n1_ _) (fun ds hl => match ds, hl with | [x1], _ => (show T (Zf0 false) [.s x1] _ ((((P.op (fIsi [x1, (D.op (.ty "int"))])).bind P.tb).bind fun x4 => if x4 = true then ((((P.op (fIsi [x1, (D.op (.ty "bool"))])).bind P.tb).bind fun x2 => P.ok !x2).bind fun x3 => P.ok (D.bl x3)) else P.ok (D.bl false))) from (t_ret0 (pAndV (pCBV gd_fIsi (plV (PE.l (pVs 0)) (plV (PE.l pC) plNil))) (pBv (pNot (pB (pCBV gd_fIsi (plV (PE.l (pVs 0)) (plV (PE.l pC) plNil))))))))))
noncomputable def G_is_within : List D → P D := f3_ fun x1 x2 x3 => (((G_is_integer [x1]).bind P.tb).bind fun x9 => if x9 = true then ((P.ok x2).bind fun x4 => (P.ok x1).bind fun x5 => (P.op (fLe x4 x5)).bind fun x6 => (P.tb x6).bind fun x7 => if x7 = true then (P.ok x3).bind fun x8 => P.op (fLe x5 x8) else P.ok (D.bl false)) else P.ok (D.bl false))
theorem g_is_within : Call0 false F_is_within G_is_within := fnG0 (n3_ _) (fun ds hl => match ds, hl with | [x1, x2, x3], _ => (show T (Zf0 false) [.s x1, .s x2, .s x3] _ ((((G_is_integer [x1]).bind P.tb).bind fun x9 => if x9 = true then ((P.ok x2).bind fun x4 => (P.ok x1).bind fun x5 => (P.op (fLe x4 x5)).bind fun x6 => (P.tb x6).bind fun x7 => if x7 = true then (P.ok x3).bind fun x8 => P.op (fLe x5 x8) else P.ok (D.bl false)) else P.ok (D.bl false))) from (t_ret0 (pAndV (pCall0V g_is_integer (paV (pVs 0) paNil)) (pChain gd_fLe gd_fLe (PE.l (pVs 1)) (PE.l (pVs 0)) (PE.l (pVs 2)))))))
noncomputable def GE_is_dot_1 : D → P (Option D) := fun x8 => (P.of (some x8)).bind fun x7 => ((((P.op (fNeg (D.int 10000))).bind fun x10 => P.ok (x10 :: [(D.int 10000)])).bind fun x11 => P.ok (x7 :: x11)).bind G_is_within).bind fun x9 => P.ok (some x9)
noncomputable def G_is_dot : List D → P D := f1_ fun x1 => (((((P.op (fIsi [x1, (D.op (.ty "tuple"))])).bind fun x2 => P.of (dTru x2)).bind fun x3 => P.ok !x3).bind fun x5 => if x5 = true then P.ok true else (((P.op (fLen [x1])).bind fun x4 => P.op (fNe x4 (D.int 2))).bind P.tb)).bind fun x6 => if x6 = true then (P.ok (D.bl false)) else ((((P.any x1).bind fun x12 => P.lc GE_is_dot_1 x12).bind fun x13 => P.ok (x13 :: [])).bind fun x14 => P.op (fAll x14)))
theorem g_is_dot : Call0 false F_is_dot G_is_dot := fnG0 (n1_ _) (fun ds hl => match ds, hl with | [x1], _ => (show T (Zf0 false) [.s x1, .u] _ ((((((P.op (fIsi [x1, (D.op (.ty "tuple"))])).bind fun x2 => P.of (dTru x2)).bind fun x3 => P.ok !x3).bind fun x5 => if x5 = true then P.ok true else (((P.op (fLen [x1])).bind fun x4 => P.op (fNe x4 (D.int 2))).bind P.tb)).bind fun x6 => if x6 = true then (P.ok (D.bl false)) else ((((P.any x1).bind fun x12 => P.lc GE_is_dot_1 x12).bind fun x13 => P.ok (x13 :: [])).bind fun x14 => P.op (fAll x14)))) from (t_push (t_if (pOr (pNot (pTru (PE.l (pCBV gd_fIsi (plV (PE.l (pVs 0)) (plV (PE.l pC) plNil)))))) (pB (p2pv gd_fNe (PE.l (pCBV gd_fLen (plV (PE.l (pVs 0)) plNil))) (PE.l pC)))) (t_cutR (t_ret0 pC)) (t_skip (t_ret0 (pCB gd_fAll (plPv (PE.l (PW.e (pLc (vs := [1]) (ownU ownNil) (iAnyS 0) (lb0 (tN 1) (fun x7 => (pCall0 g_is_within (paVp (pVs 1) (paPv (p1v gd_fNeg (PE.l pC)) (paV pC paNil))))) (fun _ => rfl))))) plNil))))))))
noncomputable def GE_is_crowd_1 : D → P (Option D) := fun x13 => (P.of (some x13)).bind fun x12 => (G_is_dot [x12]).bind fun x14 => P.ok (some x14)
noncomputable def GE_is_crowd_2 : D → P (Option (D × D)) := fun x19 => (P.of (some x19)).bind fun x18 => (P.ok x18).bind fun x21 => (P.ok (D.bl true)).bind fun x20 => P.ok (some (x21, x20))
noncomputable def G_is_crowd : List D → P D := f1_ fun x1 => (((((P.op (fIsi [x1, (D.op (.ty "tuple"))])).bind fun x2 => P.of (dTru x2)).bind fun x3 => P.ok !x3).bind fun x10 => if x10 = true then P.ok true else ((((P.ok (D.int 3)).bind fun x4 => (P.op (fLen [x1])).bind fun x5 => (P.op (fLe x4 x5)).bind fun x6 => (P.tb x6).bind fun x7 => if x7 = true then (P.ok (D.int 12)).bind fun x8 => P.op (fLe x5 x8) else P.ok (D.bl false)).bind P.tb).bind fun x9 => P.ok !x9)).bind fun x11 => if x11 = true then (P.ok (D.bl false)) else ((((((P.any x1).bind fun x15 => P.lc GE_is_crowd_1 x15).bind fun x16 => P.ok (x16 :: [])).bind fun x17 => P.op (fAll x17)).bind P.tb).bind fun x27 => if x27 = true then (((((P.seq x1).bind fun x22 => P.dc true GE_is_crowd_2 x22).bind fun x23 => P.ok (x23 :: [])).bind fun x24 => P.op (fLen x24)).bind fun x25 => (P.op (fLen [x1])).bind fun x26 => P.op (fEq x25 x26)) else P.ok (D.bl false)))
theorem g_is_crowd : Call0 false F_is_crowd G_is_crowd := fnG0 (n1_ _) (fun ds hl => match ds, hl with | [x1], _ => (show T (Zf0 false) [.s x1, .u] _ ((((((P.op (fIsi [x1, (D.op (.ty "tuple"))])).bind fun x2 => P.of (dTru x2)).bind fun x3 => P.ok !x3).bind fun x10 => if x10 = true then P.ok true else ((((P.ok (D.int 3)).bind fun x4 => (P.op (fLen [x1])).bind fun x5 => (P.op (fLe x4 x5)).bind fun x6 => (P.tb x6).bind fun x7 => if x7 = true then (P.ok (D.int 12)).bind fun x8 => P.op (fLe x5 x8) else P.ok (D.bl false)).bind P.tb).bind fun x9 => P.ok !x9)).bind fun x11 => if x11 = true then (P.ok (D.bl false)) else ((((((P.any x1).bind fun x15 => P.lc GE_is_crowd_1 x15).bind fun x16 => P.ok (x16 :: [])).bind fun x17 => P.op (fAll x17)).bind P.tb).bind fun x27 => if x27 = true then (((((P.seq x1).bind fun x22 => P.dc true GE_is_crowd_2 x22).bind fun x23 => P.ok (x23 :: [])).bind fun x24 => P.op (fLen x24)).bind fun x25 => (P.op (fLen [x1])).bind fun x26 => P.op (fEq x25 x26)) else P.ok (D.bl false)))) from (t_push (t_if (pOr (pNot (pTru (PE.l (pCBV gd_fIsi (plV (PE.l (pVs 0)) (plV (PE.l pC) plNil)))))) (pNot (pB (pChain gd_fLe gd_fLe (PE.l pC) (PE.l (pCBV gd_fLen (plV (PE.l (pVs 0)) plNil))) (PE.l pC))))) (t_cutR (t_ret0 pC)) (t_skip (t_ret0 (pAndV (pCB gd_fAll (plPv (PE.l (PW.e (pLc (vs := [1]) (ownU ownNil) (iAnyS 0) (lb0 (tN 1) (fun x12 => (pCall0V g_is_dot (paV (pVs 1) paNil))) (fun _ => rfl))))) plNil)) (p2 gd_fEq (PE.l (pCB gd_fLen (plPv (PE.l (PW.e (pDc (vs := [1]) (ownU ownNil) (iSeqV (pVs 0)) (ld0 (tN 1) (fun x18 => (pVs 1)) (fun x18 => pC) (fun _ => rfl))))) plNil))) (PE.l (pCBV gd_fLen (plV (PE.l (pVs 0)) plNil)))))))))))
noncomputable def G_check_crowd : List D → P D := f1_ fun x1 => ((((G_is_crowd [x1]).bind fun x2 => P.of (dTru x2)).bind fun x3 => P.ok !x3).bind fun x4 => if x4 = true then (P.ex ⟨Str.ofString "NoCrowd", []⟩) else (P.ok D.non))
theorem g_check_crowd : Call0 false F_check_crowd G_check_crowd := fnG0 (n1_ _) (fun ds hl => match ds, hl with | [x1], _ => (show T (Zf0 false) [.s x1] _ (((((G_is_crowd [x1]).bind fun x2 => P.of (dTru x2)).bind fun x3 => P.ok !x3).bind fun x4 => if x4 = true then (P.ex ⟨Str.ofString "NoCrowd", []⟩) else (P.ok D.non))) from (t_if (pNot (pTru (PE.l (pCall0V g_is_crowd (paV (pVs 0) paNil))))) (t_raise _) t_end0)))
noncomputable def GE_as_pairs_1 (x1 : D) : D → P (Option D) := fun x3 => (P.of (some x3)).bind fun x2 => ((((P.op (fIx x1 x2)).bind fun x5 => P.ok (x5 :: [])).bind fun x6 => P.ok (x2 :: x6)).bind P.tup).bind fun x4 => P.ok (some x4)
noncomputable def G_as_pairs : List D → P D := f1_ fun x1 => (((((P.op (fSortB [x1])).bind P.seq).bind fun x7 => P.lc (GE_as_pairs_1 x1) x7).bind fun x8 => P.ok (x8 :: [])).bind fun x9 => P.op (fTuple x9))
theorem g_as_pairs : Call0 false F_as_pairs G_as_pairs := fnG0 (n1_ _) (fun ds hl => match ds, hl with | [x1], _ => (show T (Zf0 false) [.s x1, .u] _ ((((((P.op (fSortB [x1])).bind P.seq).bind fun x7 => P.lc (GE_as_pairs_1 x1) x7).bind fun x8 => P.ok (x8 :: [])).bind fun x9 => P.op (fTuple x9))) from (t_ret0 (pCB gd_fTuple (plPv (PE.l (PW.e (pLc (vs := [1]) (ownU ownNil) (iSeq (pCBV gd_fSortB (plV (PE.l (pVs 0)) plNil))) (lb0 (tN 1) (fun x2 => (pTup (paVp (pVs 1) (paPv (p2vv gd_fIx (PE.l (pVs 0)) (PE.l (pVs 1))) paNil)))) (fun _ => rfl))))) plNil)))))
noncomputable def G_check_two_crowds : List D → P D := f2_ fun x1 x2 => ((G_check_crowd [x1]).bind fun x3 => ((G_check_crowd [x2]).bind fun x4 => (P.ok D.non)))
theorem g_check_two_crowds : Call0 false F_check_two_crowds G_check_two_crowds := fnG0 (n2_ _) (fun ds hl => match ds, hl with | [x1, x2], _ => (show T (Zf0 false) [.s x1, .s x2] _ (((G_check_crowd [x1]).bind fun x3 => ((G_check_crowd [x2]).bind fun x4 => (P.ok D.non)))) from (t_seq (s_ex (PE.l (pCall0V g_check_crowd (paV (pVs 0) paNil)))) (fun x3 => (t_last (s_ex (PE.l (pCall0V g_check_crowd (paV (pVs 1) paNil)))) (fun x4 => t_end0))))))
noncomputable def G_raw_step : List D → P D := f2_ fun x1 x2 => ((((P.op (fIx x2 (D.int 0))).bind fun x6 => (P.op (fIx x1 (D.int 0))).bind fun x7 => P.op (fSub x6 x7)).bind fun x8 => (((P.op (fIx x2 (D.int 1))).bind fun x3 => (P.op (fIx x1 (D.int 1))).bind fun x4 => P.op (fSub x3 x4)).bind fun x5 => P.ok (x5 :: [])).bind fun x9 => P.ok (x8 :: x9)).bind P.tup)
theorem g_raw_step : Call0 false F_raw_step G_raw_step := fnG0 (n2_ _) (fun ds hl => match ds, hl with | [x1, x2], _ => (show T (Zf0 false) [.s x1, .s x2] _ (((((P.op (fIx x2 (D.int 0))).bind fun x6 => (P.op (fIx x1 (D.int 0))).bind fun x7 => P.op (fSub x6 x7)).bind fun x8 => (((P.op (fIx x2 (D.int 1))).bind fun x3 => (P.op (fIx x1 (D.int 1))).bind fun x4 => P.op (fSub x3 x4)).bind fun x5 => P.ok (x5 :: [])).bind fun x9 => P.ok (x8 :: x9)).bind P.tup)) from (t_ret0 (pTup (paCons (p2 gd_fSub (PE.l (p2vv gd_fIx (PE.l (pVs 1)) (PE.l pC))) (PE.l (p2vv gd_fIx (PE.l (pVs 0)) (PE.l pC)))) (paPv (p2 gd_fSub (PE.l (p2vv gd_fIx (PE.l (pVs 1)) (PE.l pC))) (PE.l (p2vv gd_fIx (PE.l (pVs 0)) (PE.l pC)))) paNil))))))
noncomputable def GK_step_counts_1 (x6 : D × D × Unit) : D → (D × D × Unit) → P (D) := fun x8 x9 => (((P.op (fNe x6.1 x9.1)).bind P.tb).bind fun x10 => if x10 = true then ((G_raw_step [x6.2.1, x9.2.1]).bind fun x11 => (((((P.ok x8).bind fun x12 => (P.dct x12).bind fun x15 => (P.ok x11).bind fun x13 => (P.ok (D.int 0)).bind fun x14 => P.of (fGet2 x12 x13 x14)).bind fun x16 => P.op (fAdd x16 (D.int 1))).bind fun x17 => (P.ok x11).bind fun x18 => P.of (stD x8 x18 x17)).bind fun x19 => (P.ok x19))) else (P.ok x8))
noncomputable def GK_step_counts_2 (x1 : D) : D → (D × D × Unit) → P (D) := fun x5 x6 => (((P.enum x1).bind fun x7 => P.for (fun x21 x20 => (P.of ((tupO (consO some (consO some nilO))) x20)).bind fun x9 => (GK_step_counts_1 x6) x21 x9) x5 x7).bind fun x22 => (P.ok x22))
noncomputable def G_step_counts : List D → P D := f1_ fun x1 => ((G_check_crowd [x1]).bind fun x2 => ((P.ok (D.dct true [])).bind fun x3 => (((P.enum x1).bind fun x4 => P.for (fun x24 x23 => (P.of ((tupO (consO some (consO some nilO))) x23)).bind fun x6 => (GK_step_counts_2 x1) x24 x6) x3 x4).bind fun x25 => (G_as_pairs [x25]))))
theorem g_step_counts : Call0 false F_step_counts G_step_counts := fnG0 (n1_ _) (fun ds hl => match ds, hl with | [x1], _ => (show T (Zf0 false) [.s x1, .u, .u, .u, .u, .u, .u] _ (((G_check_crowd [x1]).bind fun x2 => ((P.ok (D.dct true [])).bind fun x3 => (((P.enum x1).bind fun x4 => P.for (fun x24 x23 => (P.of ((tupO (consO some (consO some nilO))) x23)).bind fun x6 => (GK_step_counts_2 x1) x24 x6) x3 x4).bind fun x25 => (G_as_pairs [x25]))))) from (t_seq (s_ex (PE.l (pCall0V g_check_crowd (paV (pVs 0) paNil)))) (fun x2 => (t_seq (s_setO (i := 1) wNewD) (fun x3 => (t_seq (s_for (Γi := (fun (x5 : D) => [.s x1, .o x5, .u, .u, .u, .u, .u])) (s0 := x3) (.cons wS (.cons wS (.cons wS (.cons wS (.cons wS (.cons wS (.cons wS Wk.nil))))))) (iEnV (pVs 0)) (fun x5 => (tT (tsCons (tN 2) (fun _ => (tsCons (tN 3) (fun _ => tsNil)))))) (fun x5 x6 => (t_last (s_for (Γi := (fun (x8 : D) => [.s x1, .o x8, .s x6.1, .s x6.2.1, .u, .u, .u])) (s0 := x5) (.cons wS (.cons wS (.cons wS (.cons wS (.cons wS (.cons wS (.cons wS Wk.nil))))))) (iEnV (pVs 0)) (fun x8 => (tT (tsCons (tN 4) (fun _ => (tsCons (tN 5) (fun _ => tsNil)))))) (fun x8 x9 => (t_if (pB (p2vv gd_fNe (PE.l (pVs 2)) (PE.l (pVs 4)))) (t_seq (s_set (i := 6) (pCall0V g_raw_step (paV (pVs 3) (paV (pVs 5) paNil)))) (fun x11 => (t_last (s_store (i := 1) 0 rfl (pVv 6) (p2pv gd_fAdd (PE.l (pGet2 (PQ.l (qVo 1)) (PE.l (pVv 6)) pC)) (PE.l pC))) (fun x19 => (t_nx (.cons wS (.cons wS (.cons wS (.cons wS (.cons wsu (.cons wsu (.cons wvu Wk.nil)))))))))))) (t_nx (.cons wS (.cons wS (.cons wS (.cons wS (.cons wsu (.cons wsu (.cons wS Wk.nil))))))))))) (fun x22 => (t_nx (.cons wS (.cons wS (.cons wsu (.cons wsu (.cons wS (.cons wS (.cons wS Wk.nil)))))))))))) (fun x25 => (T.wk (.cons wS (.cons wov (.cons wS (.cons wS (.cons wS (.cons wS (.cons wS Wk.nil))))))) (t_ret0 (pCall0V g_as_pairs (paV (pVv 1) paNil))))))))))))
noncomputable def GE_raw_moved_shown_1 : D → P (Option D) := fun x6 => (P.of ((tupO (consO some (consO some nilO))) x6)).bind fun x5 => (G_raw_step [x5.1, x5.2.1]).bind fun x7 => P.ok (some x7)
noncomputable def GE_raw_moved_shown_2 (x9 : D) : D → P (Option D) := fun x11 => (P.of ((tupO (consO some (consO some nilO))) x11)).bind fun x10 => (((P.op (fIx x9 (D.int 0))).bind fun x13 => P.op (fNe x10.2.1 x13)).bind P.tb).bind fun x14 => if x14 = true then (P.ok x10.1).bind fun x12 => P.ok (some x12) else P.ok none
noncomputable def G_raw_moved_shown : List D → P D := f2_ fun x1 x2 => ((((P.op (fSortB [x1])).bind fun x3 => (P.op (fSortB [x2])).bind fun x4 => P.zip x3 x4).bind fun x8 => P.lc GE_raw_moved_shown_1 x8).bind fun x9 => (((P.enum x9).bind fun x15 => P.lc (GE_raw_moved_shown_2 x9) x15).bind fun x16 => ((((P.op (fLen [x16])).bind fun x17 => P.op (fGt x17 (D.int 0))).bind P.tb).bind fun x22 => if x22 = true then ((((P.op (fIx x16 (D.int 0))).bind fun x18 => P.ok (x18 :: [])).bind fun x19 => P.ok ((D.str (Str.ofString "parts")) :: x19)).bind P.tup) else ((((P.op (fIx x9 (D.int 0))).bind fun x20 => P.ok (x20 :: [])).bind fun x21 => P.ok ((D.str (Str.ofString "moved")) :: x21)).bind P.tup))))
theorem g_raw_moved_shown : Call0 false F_raw_moved_shown G_raw_moved_shown := fnG0 (n2_ _) (fun ds hl => match ds, hl with | [x1, x2], _ => (show T (Zf0 false) [.s x1, .s x2, .u, .u, .u, .u, .u, .u] _ (((((P.op (fSortB [x1])).bind fun x3 => (P.op (fSortB [x2])).bind fun x4 => P.zip x3 x4).bind fun x8 => P.lc GE_raw_moved_shown_1 x8).bind fun x9 => (((P.enum x9).bind fun x15 => P.lc (GE_raw_moved_shown_2 x9) x15).bind fun x16 => ((((P.op (fLen [x16])).bind fun x17 => P.op (fGt x17 (D.int 0))).bind P.tb).bind fun x22 => if x22 = true then ((((P.op (fIx x16 (D.int 0))).bind fun x18 => P.ok (x18 :: [])).bind fun x19 => P.ok ((D.str (Str.ofString "parts")) :: x19)).bind P.tup) else ((((P.op (fIx x9 (D.int 0))).bind fun x20 => P.ok (x20 :: [])).bind fun x21 => P.ok ((D.str (Str.ofString "moved")) :: x21)).bind P.tup))))) from (t_seq (s_setO (i := 2) (pLc (vs := [4, 5]) (ownU (ownU ownNil)) (iZip (pCBV gd_fSortB (plV (PE.l (pVs 0)) plNil)) (pCBV gd_fSortB (plV (PE.l (pVs 1)) plNil))) (lb0 (tT (tsCons (tN 4) (fun _ => (tsCons (tN 5) (fun _ => tsNil))))) (fun x5 => (pCall0V g_raw_step (paV (pVs 4) (paV (pVs 5) paNil)))) (fun _ => rfl)))) (fun x9 => (T.wk (.cons wS (.cons wS (.cons wov (.cons wS (.cons wS (.cons wS (.cons wS (.cons wS Wk.nil)))))))) (t_seq (s_setO (i := 3) (pLc (vs := [6, 7]) (ownU (ownU ownNil)) (iEnV (pVv 2)) (lb (tT (tsCons (tN 6) (fun _ => (tsCons (tN 7) (fun _ => tsNil))))) (fun x10 => (pB (p2vp gd_fNe (PE.l (pVs 7)) (PE.l (p2vv gd_fIx (PE.l (pVv 2)) (PE.l pC)))))) (fun x10 => (pVs 6)) (fun _ => rfl)))) (fun x16 => (t_ret0 (pIf (pB (p2pv gd_fGt (PE.l (pCBV gd_fLen (plV (PQ.l (qVo 3)) plNil))) (PE.l pC))) (pTup (paVp pC (paPv (p2vv gd_fIx (PQ.l (qVo 3)) (PE.l pC)) paNil))) (pTup (paVp pC (paPv (p2vv gd_fIx (PE.l (pVv 2)) (PE.l pC)) paNil))))))))))))
noncomputable def G_check_as_many : List D → P D := f2_ fun x1 x2 => ((G_check_two_crowds [x1, x2]).bind fun x3 => ((((P.op (fLen [x1])).bind fun x4 => (P.op (fLen [x2])).bind fun x5 => P.op (fNe x4 x5)).bind P.tb).bind fun x6 => if x6 = true then (P.ex ⟨Str.ofString "Unlike", []⟩) else (P.ok D.non)))
theorem g_check_as_many : Call0 false F_check_as_many G_check_as_many := fnG0 (n2_ _) (fun ds hl => match ds, hl with | [x1, x2], _ => (show T (Zf0 false) [.s x1, .s x2] _ (((G_check_two_crowds [x1, x2]).bind fun x3 => ((((P.op (fLen [x1])).bind fun x4 => (P.op (fLen [x2])).bind fun x5 => P.op (fNe x4 x5)).bind P.tb).bind fun x6 => if x6 = true then (P.ex ⟨Str.ofString "Unlike", []⟩) else (P.ok D.non)))) from (t_seq (s_ex (PE.l (pCall0V g_check_two_crowds (paV (pVs 0) (paV (pVs 1) paNil))))) (fun x3 => (t_if (pB (p2 gd_fNe (PE.l (pCBV gd_fLen (plV (PE.l (pVs 0)) plNil))) (PE.l (pCBV gd_fLen (plV (PE.l (pVs 1)) plNil))))) (t_raise _) t_end0)))))
noncomputable def G_moved_shown : List D → P D := f2_ fun x1 x2 => ((G_check_as_many [x1, x2]).bind fun x3 => (G_raw_moved_shown [x1, x2]))
theorem g_moved_shown : Call0 false F_moved_shown G_moved_shown := fnG0 (n2_ _) (fun ds hl => match ds, hl with | [x1, x2], _ => (show T (Zf0 false) [.s x1, .s x2] _ (((G_check_as_many [x1, x2]).bind fun x3 => (G_raw_moved_shown [x1, x2]))) from (t_seq (s_ex (PE.l (pCall0V g_check_as_many (paV (pVs 0) (paV (pVs 1) paNil))))) (fun x3 => (t_ret0 (pCall0V g_raw_moved_shown (paV (pVs 0) (paV (pVs 1) paNil))))))))
noncomputable def G_is_moved_shown : List D → P D := f3_ fun x1 x2 x3 => ((G_check_as_many [x1, x2]).bind fun x4 => (((P.op (fIsi [x3, (D.op (.ty "tuple"))])).bind P.tb).bind fun x11 => if x11 = true then ((((P.op (fLen [x3])).bind fun x5 => P.op (fEq x5 (D.int 2))).bind P.tb).bind fun x10 => if x10 = true then ((P.op (fRepr [x3])).bind fun x8 => (((G_raw_moved_shown [x1, x2]).bind fun x6 => P.ok (x6 :: [])).bind fun x7 => P.op (fRepr x7)).bind fun x9 => P.op (fEq x8 x9)) else P.ok (D.bl false)) else P.ok (D.bl false)))
theorem g_is_moved_shown : Call0 false F_is_moved_shown G_is_moved_shown := fnG0 (n3_ _) (fun ds hl => match ds, hl with | [x1, x2, x3], _ => (show T (Zf0 false) [.s x1, .s x2, .s x3] _ (((G_check_as_many [x1, x2]).bind fun x4 => (((P.op (fIsi [x3, (D.op (.ty "tuple"))])).bind P.tb).bind fun x11 => if x11 = true then ((((P.op (fLen [x3])).bind fun x5 => P.op (fEq x5 (D.int 2))).bind P.tb).bind fun x10 => if x10 = true then ((P.op (fRepr [x3])).bind fun x8 => (((G_raw_moved_shown [x1, x2]).bind fun x6 => P.ok (x6 :: [])).bind fun x7 => P.op (fRepr x7)).bind fun x9 => P.op (fEq x8 x9)) else P.ok (D.bl false)) else P.ok (D.bl false)))) from (t_seq (s_ex (PE.l (pCall0V g_check_as_many (paV (pVs 0) (paV (pVs 1) paNil))))) (fun x4 => (t_ret0 (pAndV (pCBV gd_fIsi (plV (PE.l (pVs 2)) (plV (PE.l pC) plNil))) (pAndV (p2pv gd_fEq (PE.l (pCBV gd_fLen (plV (PE.l (pVs 2)) plNil))) (PE.l pC)) (p2 gd_fEq (PE.l (pCBV gd_fRepr (plV (PE.l (pVs 2)) plNil))) (PE.l (pCB gd_fRepr (plPv (PE.l (pCall0V g_raw_moved_shown (paV (pVs 0) (paV (pVs 1) paNil)))) plNil)))))))))))
noncomputable def GE__law_hand_1 : D → P (Option D) := fun x7 => (P.of (some x7)).bind fun x6 => (((P.op (fInt [x6])).bind fun x9 => P.ok (x9 :: [])).bind fun x10 => P.op (fAbs x10)).bind fun x8 => P.ok (some x8)
noncomputable def G__law_hand : List D → P D := f1_ fun x1 => (((((P.ok x1).bind fun x3 => (P.ok none).bind fun x4 => ((P.int (D.int 63)).bind fun x2 => P.ok (some x2)).bind fun x5 => P.op (fSl x3 x4 x5)).bind P.seq).bind fun x11 => P.lc GE__law_hand_1 x11).bind fun x12 => ((((((((P.op (fLen [x12])).bind fun x18 => P.op (fMulI (D.int 7) x18)).bind fun x19 => P.op (fAdd (D.int 4963) x19)).bind fun x20 => P.ok (x20 :: [(D.int 0)])).bind fun x21 => P.ok ((D.int 0) :: x21)).bind fun x22 => P.ok ((D.int 0) :: x22)).bind fun x23 => P.ok (x12 :: x23)).bind P.lst))
theorem g__law_hand : Call0 true F__law_hand G__law_hand := fnG0 (n1_ _) (fun ds hl => match ds, hl with | [x1], _ => (show T (Zf0 true) [.s x1, .u, .u] _ ((((((P.ok x1).bind fun x3 => (P.ok none).bind fun x4 => ((P.int (D.int 63)).bind fun x2 => P.ok (some x2)).bind fun x5 => P.op (fSl x3 x4 x5)).bind P.seq).bind fun x11 => P.lc GE__law_hand_1 x11).bind fun x12 => ((((((((P.op (fLen [x12])).bind fun x18 => P.op (fMulI (D.int 7) x18)).bind fun x19 => P.op (fAdd (D.int 4963) x19)).bind fun x20 => P.ok (x20 :: [(D.int 0)])).bind fun x21 => P.ok ((D.int 0) :: x21)).bind fun x22 => P.ok ((D.int 0) :: x22)).bind fun x23 => P.ok (x12 :: x23)).bind P.lst))) from (t_seq (s_setO (i := 1) (pLc (vs := [2]) (ownU ownNil) (iSeq (pSl gd_fSl (PE.l (pVs 0)) poN (poSV pC))) (lb0 (tN 2) (fun x6 => (pCB gd_fAbs (plPv (PE.l (pCBV gd_fInt (plV (PE.l (pVs 2)) plNil))) plNil))) (fun _ => rfl)))) (fun x12 => (T.wk (.cons wS (.cons wov (.cons wS Wk.nil))) (t_retW (wLst (paVp (pVv 1) (paVp pC (paVp pC (paPv (p2vp gd_fAdd (PE.l pC) (PE.l (p2vp gd_fMulI (PE.l pC) (PE.l (pCBV gd_fLen (plV (PE.l (pVv 1)) plNil)))))) (paV pC paNil))))))))))))
noncomputable def H__law_draw : D → List D → P (D × D) := fun x1 => f1_ fun x2 => (((((((P.op (fIx x1 (D.int 2))).bind fun x4 => P.op (fEq x4 (D.int 0))).bind P.tb).bind fun x9 => if x9 = true then (((P.op (fIx x1 (D.int 1))).bind fun x7 => (((P.op (fIx x1 (D.int 0))).bind fun x5 => P.ok (x5 :: [])).bind fun x6 => P.op (fLen x6)).bind fun x8 => P.op (fLt x7 x8)).bind P.tb) else P.ok false).bind fun x10 => if x10 = true then (((P.op (fIx x1 (D.int 0))).bind fun x11 => (P.op (fIx x1 (D.int 1))).bind fun x12 => P.op (fIx x11 x12)).bind fun x13 => ((((P.op (fIx x1 (D.int 1))).bind fun x14 => P.op (fAdd x14 (D.int 1))).bind fun x15 => (P.ok (D.int 1)).bind fun x16 => P.of (stD x1 x16 x15)).bind fun x17 => (((((((((P.op (fIx x17 (D.int 3))).bind fun x18 => P.op (fMulI x18 (D.int 69621))).bind fun x19 => (P.op (fMulI x13 (D.int 40692))).bind fun x20 => P.op (fAdd x19 x20)).bind fun x21 => P.op (fAdd x21 (D.int 31))).bind fun x22 => P.ok (x22 :: [])).bind fun x23 => P.op (fInt x23)).bind fun x24 => P.op (fMod x24 (D.int 2147483629))).bind fun x25 => (P.ok (D.int 3)).bind fun x26 => P.of (stD x17 x26 x25)).bind fun x27 => ((((P.op (fPow (D.int 10) (D.int 18))).bind fun x28 => P.op (fGe x13 x28)).bind P.tb).bind fun x29 => if x29 = true then (((P.ok x13).bind fun x30 => (P.ok (D.int 2)).bind fun x31 => P.of (stD x27 x31 x30)).bind fun x32 => (P.ok x32)) else (P.ok x27))))) else (P.ok x1)) : P D).bind fun x3 => ((((P.op (fIx x3 (D.int 2))).bind fun x33 => P.op (fGt x33 (D.int 0))).bind P.tb).bind fun x34 => if x34 = true then (((((P.op (fIx x3 (D.int 2))).bind fun x35 => P.ok (x35 :: [])).bind fun x36 => P.op (fInt x36)).bind fun x37 => P.op (fMod x37 x2)).bind fun x38 => ((((P.op (fIx x3 (D.int 2))).bind fun x39 => P.op (fDiv x39 x2)).bind fun x40 => (P.ok (D.int 2)).bind fun x41 => P.of (stD x3 x41 x40)).bind fun x42 => ((P.ok x38).bind fun x43 => P.ok (x43, x42)))) else ((((P.op (fIx x3 (D.int 4))).bind fun x44 => P.op (fAdd x44 (D.int 1))).bind fun x45 => (P.ok (D.int 4)).bind fun x46 => P.of (stD x3 x46 x45)).bind fun x47 => (((((((((P.op (fIx x47 (D.int 3))).bind fun x49 => ((P.op (fIx x47 (D.int 4))).bind fun x48 => P.op (fMulI (D.int 7919) x48)).bind fun x50 => P.op (fAdd x49 x50)).bind fun x51 => P.ok (x51 :: [])).bind fun x52 => P.op (fInt x52)).bind fun x53 => P.op (fMulI x53 (D.int 48271))).bind fun x54 => P.ok (x54 :: [])).bind fun x55 => P.op (fInt x55)).bind fun x56 => P.op (fMod x56 (D.int 2147483647))).bind fun x57 => (((((((P.op (fDiv x57 (D.int 1009))).bind fun x58 => P.op (fAdd x58 (D.int 69621))).bind fun x59 => P.op (fMulI x57 x59)).bind fun x60 => P.ok (x60 :: [])).bind fun x61 => P.op (fInt x61)).bind fun x62 => P.op (fMod x62 (D.int 2147483647))).bind fun x63 => (((((((P.op (fDiv x63 (D.int 2003))).bind fun x64 => P.op (fAdd x64 (D.int 40014))).bind fun x65 => P.op (fMulI x63 x65)).bind fun x66 => P.ok (x66 :: [])).bind fun x67 => P.op (fInt x67)).bind fun x68 => P.op (fMod x68 (D.int 2147483563))).bind fun x69 => (((((P.op (fDiv x69 (D.int 16))).bind fun x70 => P.ok (x70 :: [])).bind fun x71 => P.op (fInt x71)).bind fun x72 => P.op (fMod x72 x2)).bind fun x73 => P.ok (x73, x47))))))))
noncomputable def G__law_draw : D → List D → P (D × D) := fun h ds => (H__law_draw h ds).nox
theorem g__law_draw : Call1 false F__law_draw G__law_draw := fnG1 (G := H__law_draw) (fun _ => n1_ _) (fun x1 ds hl => match ds, hl with | [x2], _ => (show T Zf1 [.l x1, .s x2, .u, .u, .u] _ ((((((((P.op (fIx x1 (D.int 2))).bind fun x4 => P.op (fEq x4 (D.int 0))).bind P.tb).bind fun x9 => if x9 = true then (((P.op (fIx x1 (D.int 1))).bind fun x7 => (((P.op (fIx x1 (D.int 0))).bind fun x5 => P.ok (x5 :: [])).bind fun x6 => P.op (fLen x6)).bind fun x8 => P.op (fLt x7 x8)).bind P.tb) else P.ok false).bind fun x10 => if x10 = true then (((P.op (fIx x1 (D.int 0))).bind fun x11 => (P.op (fIx x1 (D.int 1))).bind fun x12 => P.op (fIx x11 x12)).bind fun x13 => ((((P.op (fIx x1 (D.int 1))).bind fun x14 => P.op (fAdd x14 (D.int 1))).bind fun x15 => (P.ok (D.int 1)).bind fun x16 => P.of (stD x1 x16 x15)).bind fun x17 => (((((((((P.op (fIx x17 (D.int 3))).bind fun x18 => P.op (fMulI x18 (D.int 69621))).bind fun x19 => (P.op (fMulI x13 (D.int 40692))).bind fun x20 => P.op (fAdd x19 x20)).bind fun x21 => P.op (fAdd x21 (D.int 31))).bind fun x22 => P.ok (x22 :: [])).bind fun x23 => P.op (fInt x23)).bind fun x24 => P.op (fMod x24 (D.int 2147483629))).bind fun x25 => (P.ok (D.int 3)).bind fun x26 => P.of (stD x17 x26 x25)).bind fun x27 => ((((P.op (fPow (D.int 10) (D.int 18))).bind fun x28 => P.op (fGe x13 x28)).bind P.tb).bind fun x29 => if x29 = true then (((P.ok x13).bind fun x30 => (P.ok (D.int 2)).bind fun x31 => P.of (stD x27 x31 x30)).bind fun x32 => (P.ok x32)) else (P.ok x27))))) else (P.ok x1)) : P D).bind fun x3 => ((((P.op (fIx x3 (D.int 2))).bind fun x33 => P.op (fGt x33 (D.int 0))).bind P.tb).bind fun x34 => if x34 = true then (((((P.op (fIx x3 (D.int 2))).bind fun x35 => P.ok (x35 :: [])).bind fun x36 => P.op (fInt x36)).bind fun x37 => P.op (fMod x37 x2)).bind fun x38 => ((((P.op (fIx x3 (D.int 2))).bind fun x39 => P.op (fDiv x39 x2)).bind fun x40 => (P.ok (D.int 2)).bind fun x41 => P.of (stD x3 x41 x40)).bind fun x42 => ((P.ok x38).bind fun x43 => P.ok (x43, x42)))) else ((((P.op (fIx x3 (D.int 4))).bind fun x44 => P.op (fAdd x44 (D.int 1))).bind fun x45 => (P.ok (D.int 4)).bind fun x46 => P.of (stD x3 x46 x45)).bind fun x47 => (((((((((P.op (fIx x47 (D.int 3))).bind fun x49 => ((P.op (fIx x47 (D.int 4))).bind fun x48 => P.op (fMulI (D.int 7919) x48)).bind fun x50 => P.op (fAdd x49 x50)).bind fun x51 => P.ok (x51 :: [])).bind fun x52 => P.op (fInt x52)).bind fun x53 => P.op (fMulI x53 (D.int 48271))).bind fun x54 => P.ok (x54 :: [])).bind fun x55 => P.op (fInt x55)).bind fun x56 => P.op (fMod x56 (D.int 2147483647))).bind fun x57 => (((((((P.op (fDiv x57 (D.int 1009))).bind fun x58 => P.op (fAdd x58 (D.int 69621))).bind fun x59 => P.op (fMulI x57 x59)).bind fun x60 => P.ok (x60 :: [])).bind fun x61 => P.op (fInt x61)).bind fun x62 => P.op (fMod x62 (D.int 2147483647))).bind fun x63 => (((((((P.op (fDiv x63 (D.int 2003))).bind fun x64 => P.op (fAdd x64 (D.int 40014))).bind fun x65 => P.op (fMulI x63 x65)).bind fun x66 => P.ok (x66 :: [])).bind fun x67 => P.op (fInt x67)).bind fun x68 => P.op (fMod x68 (D.int 2147483563))).bind fun x69 => (((((P.op (fDiv x69 (D.int 16))).bind fun x70 => P.ok (x70 :: [])).bind fun x71 => P.op (fInt x71)).bind fun x72 => P.op (fMod x72 x2)).bind fun x73 => P.ok (x73, x47))))))))) from (t_seq (Γ' := (fun (x3 : D) => [.l x3, .s x2, .u, .u, .u])) (t_if (pAnd (pB (p2pv gd_fEq (PE.l (p2vv gd_fIx (pVl 0) (PE.l pC))) (PE.l pC))) (pB (p2 gd_fLt (PE.l (p2vv gd_fIx (pVl 0) (PE.l pC))) (PE.l (pCB gd_fLen (plPv (PE.l (p2vv gd_fIx (pVl 0) (PE.l pC))) plNil)))))) (t_seq (s_set (i := 3) (p2 gd_fIx (PE.l (p2vv gd_fIx (pVl 0) (PE.l pC))) (PE.l (p2vv gd_fIx (pVl 0) (PE.l pC))))) (fun x13 => (t_seq (s_store (i := 0) 2 rfl pC (p2pv gd_fAdd (PE.l (p2vv gd_fIx (pVl 0) (PE.l pC))) (PE.l pC))) (fun x17 => (t_seq (s_store (i := 0) 2 rfl pC (p2pv gd_fMod (PE.l (pCB gd_fInt (plPv (PE.l (p2pv gd_fAdd (PE.l (p2 gd_fAdd (PE.l (p2pv gd_fMulI (PE.l (p2vv gd_fIx (pVl 0) (PE.l pC))) (PE.l pC))) (PE.l (p2vv gd_fMulI (PE.l (pVv 3)) (PE.l pC))))) (PE.l pC))) plNil))) (PE.l pC))) (fun x27 => (t_if (pB (p2vp gd_fGe (PE.l (pVv 3)) (PE.l (p2vv gd_fPow (PE.l pC) (PE.l pC))))) (t_last (s_store (i := 0) 2 rfl pC (pVv 3)) (fun x32 => (t_nx (.cons wS (.cons wS (.cons wS (.cons wvu (.cons wS Wk.nil)))))))) (t_nx (.cons wS (.cons wS (.cons wS (.cons wvu (.cons wS Wk.nil))))))))))))) (t_nx (.cons wS (.cons wS (.cons wS (.cons wS (.cons wS Wk.nil))))))) (fun x3 => (t_push (t_if (pB (p2pv gd_fGt (PE.l (p2vv gd_fIx (pVl 0) (PE.l pC))) (PE.l pC))) (t_assoc (t_seq (s_set (i := 4) (p2pv gd_fMod (PE.l (pCB gd_fInt (plPv (PE.l (p2vv gd_fIx (pVl 0) (PE.l pC))) plNil))) (PE.l (pVs 1)))) (fun x38 => (t_assoc (t_seq (s_store (i := 0) 2 rfl pC (p2pv gd_fDiv (PE.l (p2vv gd_fIx (pVl 0) (PE.l pC))) (PE.l (pVs 1)))) (fun x42 => (t_cutR (t_ret1 (pVv 4))))))))) (t_skip (t_seq (s_store (i := 0) 2 rfl pC (p2pv gd_fAdd (PE.l (p2vv gd_fIx (pVl 0) (PE.l pC))) (PE.l pC))) (fun x47 => (t_seq (s_set (i := 2) (p2pv gd_fMod (PE.l (pCB gd_fInt (plPv (PE.l (p2pv gd_fMulI (PE.l (pCB gd_fInt (plPv (PE.l (p2 gd_fAdd (PE.l (p2vv gd_fIx (pVl 0) (PE.l pC))) (PE.l (p2vp gd_fMulI (PE.l pC) (PE.l (p2vv gd_fIx (pVl 0) (PE.l pC))))))) plNil))) (PE.l pC))) plNil))) (PE.l pC))) (fun x57 => (t_seq (s_set (i := 2) (p2pv gd_fMod (PE.l (pCB gd_fInt (plPv (PE.l (p2vp gd_fMulI (PE.l (pVv 2)) (PE.l (p2pv gd_fAdd (PE.l (p2vv gd_fDiv (PE.l (pVv 2)) (PE.l pC))) (PE.l pC))))) plNil))) (PE.l pC))) (fun x63 => (t_seq (s_set (i := 2) (p2pv gd_fMod (PE.l (pCB gd_fInt (plPv (PE.l (p2vp gd_fMulI (PE.l (pVv 2)) (PE.l (p2pv gd_fAdd (PE.l (p2vv gd_fDiv (PE.l (pVv 2)) (PE.l pC))) (PE.l pC))))) plNil))) (PE.l pC))) (fun x69 => (t_ret1 (p2pv gd_fMod (PE.l (pCB gd_fInt (plPv (PE.l (p2vv gd_fDiv (PE.l (pVv 2)) (PE.l pC))) plNil))) (PE.l (pVs 1)))))))))))))))))))
noncomputable def H__law_any : D → List D → P (D × D) := fun x1 => f1_ fun x2 => (((P.ok (x2, x1)).bind fun x3 => ((((P.op (fLen [x2])).bind fun x4 => P.ok (x4 :: [])).map fun x5 => (x5, x3.2)).bind fun x6 => G__law_draw x6.2 x6.1).bind fun x7 => (P.op (fIx x3.1 x7.1)).map fun x8 => (x8, x7.2)).bind fun x9 => P.ok (x9.1, x9.2))
noncomputable def G__law_any : D → List D → P (D × D) := fun h ds => (H__law_any h ds).nox
theorem g__law_any : Call1 false F__law_any G__law_any := fnG1 (G := H__law_any) (fun _ => n1_ _) (fun x1 ds hl => match ds, hl with | [x2], _ => (show T Zf1 [.l x1, .s x2] _ ((((P.ok (x2, x1)).bind fun x3 => ((((P.op (fLen [x2])).bind fun x4 => P.ok (x4 :: [])).map fun x5 => (x5, x3.2)).bind fun x6 => G__law_draw x6.2 x6.1).bind fun x7 => (P.op (fIx x3.1 x7.1)).map fun x8 => (x8, x7.2)).bind fun x9 => P.ok (x9.1, x9.2))) from (t_ret1F (Γ := (fun (s : D) => [.l s, .s x2])) (s := x1) (get := fun s => s) (f2 (stb_l (Γ := [.u, .s x2]) 0) gd_fIx (PQ.fV (PE.q (pVs 1))) (fun x3 => (FE.q (fCall1D true (Cel.mk (get := fun s => s) (put := fun s d => d) (fun _ => rfl) (fun _ _ => rfl)) g__law_draw (PA.f (paPv (pCBV gd_fLen (plV (PE.l (pVs 1)) plNil)) paNil)))))) (fun _ => rfl))))
noncomputable def G__law_is_int : List D → P D := f1_ fun x1 => (((P.op (fIsi [x1, (D.op (.ty "int"))])).bind P.tb).bind fun x4 => if x4 = true then ((((P.op (fIsi [x1, (D.op (.ty "bool"))])).bind P.tb).bind fun x2 => P.ok !x2).bind fun x3 => P.ok (D.bl x3)) else P.ok (D.bl false))
theorem g__law_is_int : Call0 false F__law_is_int G__law_is_int := fnG0 (n1_ _) (fun ds hl => match ds, hl with | [x1], _ => (show T (Zf0 false) [.s x1] _ ((((P.op (fIsi [x1, (D.op (.ty "int"))])).bind P.tb).bind fun x4 => if x4 = true then ((((P.op (fIsi [x1, (D.op (.ty "bool"))])).bind P.tb).bind fun x2 => P.ok !x2).bind fun x3 => P.ok (D.bl x3)) else P.ok (D.bl false))) from (t_ret0 (pAndV (pCBV gd_fIsi (plV (PE.l (pVs 0)) (plV (PE.l pC) plNil))) (pBv (pNot (pB (pCBV gd_fIsi (plV (PE.l (pVs 0)) (plV (PE.l pC) plNil))))))))))
noncomputable def GT__law_mixed_1 : (D × D × D) → P Bool := fun x6 => (((P.op (fLen [x6.2.1])).bind fun x20 => P.op (fGt x20 (D.int 0))).bind P.tb)
noncomputable def GK__law_mixed_1 : (D × D × D) → P (D × D × D) := fun x6 => (((P.isl x6.2.2).bind fun x16 => (((P.isl (x6.1, x6.2.1).2).bind fun x12 => (((((P.op (fLen [(x6.1, x6.2.1).2])).bind fun x7 => P.ok (x7 :: [])).map fun x8 => (x8, (x6.1, x6.2.1))).bind fun x10 => (G__law_draw x10.2.1 x10.1).map fun x9 => (x9.1, (x9.2, x10.2.2))).bind fun x11 => P.ok ([x11.1], x11.2)).bind fun x13 => (P.mut fPopAt x13.2.2 x13.1).map fun x14 => (x14.1, (x13.2.1, x14.2))).bind fun x15 => P.ok ([x15.1], x15.2)).bind fun x17 => (P.mut fAppend x6.2.2 x17.1).map fun x18 => (x18.2, x17.2)).bind fun x19 => (P.ok (x19.2.1, x19.2.2, x19.1)))
noncomputable def H__law_mixed : D → List D → P (D × D) := fun x1 => f1_ fun x2 => (((P.op (fList [x2])).bind fun x3 => (P.lst []).bind fun x4 => P.ok (x3, x4)).bind fun x5 => ((P.while GT__law_mixed_1 GK__law_mixed_1 1000000000 (x1, x5.1, x5.2)).bind fun x21 => (P.ok (x21.2.2, x21.1))))
noncomputable def G__law_mixed : D → List D → P (D × D) := fun h ds => (H__law_mixed h ds).nox
theorem g__law_mixed : Call1 false F__law_mixed G__law_mixed := fnG1 (G := H__law_mixed) (fun _ => n1_ _) (fun x1 ds hl => match ds, hl with | [x2], _ => (show T Zf1 [.l x1, .s x2, .u, .u] _ ((((P.op (fList [x2])).bind fun x3 => (P.lst []).bind fun x4 => P.ok (x3, x4)).bind fun x5 => ((P.while GT__law_mixed_1 GK__law_mixed_1 1000000000 (x1, x5.1, x5.2)).bind fun x21 => (P.ok (x21.2.2, x21.1))))) from (t_seq (k2_ (i := 2) (j := 3) (k1 := true) (k2 := true) (wCBV gdO_fList (plV (PE.l (pVs 1)) plNil)) (wLstV paNil)) (fun x5 => (t_seq (s_while (Γi := (fun (x6 : D × D × D) => [.l x6.1, .s x2, .o x6.2.1, .o x6.2.2])) (s0 := (x1, x5.1, x5.2)) 1000000000 (.cons wS (.cons wS (.cons wS (.cons wS Wk.nil)))) (fun x6 => (pB (p2pv gd_fGt (PE.l (pCBV gd_fLen (plV (PQ.l (qVo 2)) plNil))) (PE.l pC)))) (fun x6 => (t_last (s_mutF (Γ := (fun (s : D × D) => [.l s.1, .s x2, .o s.2, .o x6.2.2])) (s := (x6.1, x6.2.1)) (i := 3) (f := fAppend) (fun _ => rfl) (faOne (fMut (Cel.mk (get := fun s => s.2) (put := fun s d => (s.1, d)) (fun _ => rfl) (fun _ _ => rfl)) (faOne (fCall1 true (Cel.mk (get := fun s => s.1) (put := fun s d => (d, s.2)) (fun _ => rfl) (fun _ _ => rfl)) g__law_draw (PA.f (paPv (pCBV gd_fLen (plV (PQ.l (qVo 2)) plNil)) paNil))))))) (fun x19 => (t_nx (.cons wS (.cons wS (.cons wS (.cons wS Wk.nil))))))))) (fun x21 => (t_ret1Ov (i := 3))))))))
noncomputable def GE__law_crowd_1 (x3 : D) (x7 : D) : D → P (Option D) := fun x9 => (P.of (some x9)).bind fun x8 => ((((P.op (fDiv x3 (D.int 2))).bind fun x13 => P.op (fSub x7 x13)).bind fun x14 => (((P.op (fDiv x3 (D.int 2))).bind fun x11 => P.op (fSub x8 x11)).bind fun x12 => P.ok (x12 :: [])).bind fun x15 => P.ok (x14 :: x15)).bind P.tup).bind fun x10 => P.ok (some x10)
noncomputable def GK__law_crowd_1 (x3 : D) : D → D → P (D) := fun x6 x7 => (((P.isl x6).bind fun x18 => (((P.range [x3]).bind fun x16 => P.lc (GE__law_crowd_1 x3 x7) x16).bind fun x17 => P.ok (x17 :: [])).bind fun x19 => P.mut fExtend x6 x19).bind fun x20 => (P.ok x20.2))
noncomputable def H__law_crowd : D → List D → P (D × D) := fun x1 => f2_ fun x2 x3 => ((P.lst []).bind fun x4 => (((P.range [x3]).bind fun x5 => P.for (fun x22 x21 => (P.of (some x21)).bind fun x7 => (GK__law_crowd_1 x3) x22 x7) x4 x5).bind fun x23 => ((((G__law_mixed x1 [x23]).bind fun x26 => ((P.ok none).map fun x27 => (x27, x26.2)).bind fun x28 => (((P.int x2).bind fun x29 => P.ok (some x29)).map fun x30 => (x30, x28.2)).bind fun x31 => (P.op (fSl x26.1 x28.1 x31.1)).map fun x32 => (x32, x31.2)).bind fun x33 => (P.op (fTuple [x33.1])).map fun x25 => (x25, x33.2)).bind fun x34 => P.ok (x34.1, x34.2))))
noncomputable def G__law_crowd : D → List D → P (D × D) := fun h ds => (H__law_crowd h ds).nox
theorem g__law_crowd : Call1 false F__law_crowd G__law_crowd := fnG1 (G := H__law_crowd) (fun _ => n2_ _) (fun x1 ds hl => match ds, hl with | [x2, x3], _ => (show T Zf1 [.l x1, .s x2, .s x3, .u, .u, .u] _ (((P.lst []).bind fun x4 => (((P.range [x3]).bind fun x5 => P.for (fun x22 x21 => (P.of (some x21)).bind fun x7 => (GK__law_crowd_1 x3) x22 x7) x4 x5).bind fun x23 => ((((G__law_mixed x1 [x23]).bind fun x26 => ((P.ok none).map fun x27 => (x27, x26.2)).bind fun x28 => (((P.int x2).bind fun x29 => P.ok (some x29)).map fun x30 => (x30, x28.2)).bind fun x31 => (P.op (fSl x26.1 x28.1 x31.1)).map fun x32 => (x32, x31.2)).bind fun x33 => (P.op (fTuple [x33.1])).map fun x25 => (x25, x33.2)).bind fun x34 => P.ok (x34.1, x34.2))))) from (t_seq (s_setO (i := 3) (wLstV paNil)) (fun x4 => (t_seq (s_for (Γi := (fun (x6 : D) => [.l x1, .s x2, .s x3, .o x6, .u, .u])) (s0 := x4) (.cons wS (.cons wS (.cons wS (.cons wS (.cons wS (.cons wS Wk.nil)))))) (iR1V (pVs 2)) (fun x6 => (tN 4)) (fun x6 x7 => (t_last (s_mut (i := 3) (f := fExtend) rfl (paPv (PW.e (pLc (vs := [5]) (ownU ownNil) (iR1V (pVs 2)) (lb0 (tN 5) (fun x8 => (pTup (paCons (p2vp gd_fSub (PE.l (pVs 4)) (PE.l (p2vv gd_fDiv (PE.l (pVs 2)) (PE.l pC)))) (paPv (p2vp gd_fSub (PE.l (pVs 5)) (PE.l (p2vv gd_fDiv (PE.l (pVs 2)) (PE.l pC)))) paNil)))) (fun _ => rfl)))) paNil)) (fun x20 => (t_nx (.cons wS (.cons wS (.cons wS (.cons wS (.cons wsu (.cons wS Wk.nil))))))))))) (fun x23 => (T.wk (.cons wS (.cons wS (.cons wS (.cons wov (.cons wS (.cons wS Wk.nil)))))) (t_ret1F (Γ := (fun (s : D) => [.l s, .s x2, .s x3, .v x23, .u, .u])) (s := x1) (get := fun s => s) (fCB1 gd_fTuple (FE.q (fSlE (stb_l (Γ := [.u, .s x2, .s x3, .v x23, .u, .u]) 0) gd_fSl (FE.q (fCall1DV true (Cel.mk (get := fun s => s) (put := fun s d => d) (fun _ => rfl) (fun _ _ => rfl)) g__law_mixed (paV (pVv 3) paNil))) (fun x26 => (PO.f poN)) (fun x28 => (PO.f (poSV (pVs 1))))))) (fun _ => rfl)))))))))
noncomputable def GK__law_deep_1 : (D × D) → D → P (D × D) := fun x9 x10 => (((((G__law_draw x9.1 [(D.int 2)]).bind fun x11 => (P.ok ((D.int 0), x11.2)).bind fun x12 => (P.op (fEq x11.1 x12.1)).map fun x13 => (x13, x12.2)).bind fun x14 => (P.tb x14.1).map fun x15 => (x15, x14.2)).bind fun x16 => if x16.1 = true then ((P.tup [x9.2]).map fun x17 => (x17, x16.2)) else ((P.lst [x9.2]).map fun x18 => (x18, x16.2))).bind fun x19 => (P.ok (x19.2, x19.1)))
noncomputable def H__law_deep : D → List D → P (D × D) := fun x1 => f0_ ((P.ok (D.non)).bind fun x2 => (((((P.ok ((D.int 1), x1)).bind fun x3 => (G__law_draw x3.2 [(D.int 40)]).bind fun x4 => (P.op (fAdd x3.1 x4.1)).map fun x5 => (x5, x4.2)).bind fun x6 => (P.range [x6.1]).map fun x7 => (x7, x6.2)).bind fun x8 => P.for (fun x21 x20 => (P.of (some x20)).bind fun x10 => GK__law_deep_1 x21 x10) (x8.2, x2) x8.1).bind fun x23 => ((P.ok x23.2).bind fun x24 => P.ok (x24, x23.1))))
noncomputable def G__law_deep : D → List D → P (D × D) := fun h ds => (H__law_deep h ds).nox
theorem g__law_deep : Call1 false F__law_deep G__law_deep := fnG1 (G := H__law_deep) (fun _ => n0_ _) (fun x1 ds hl => match ds, hl with | [], _ => (show T Zf1 [.l x1, .u, .u] _ (((P.ok (D.non)).bind fun x2 => (((((P.ok ((D.int 1), x1)).bind fun x3 => (G__law_draw x3.2 [(D.int 40)]).bind fun x4 => (P.op (fAdd x3.1 x4.1)).map fun x5 => (x5, x4.2)).bind fun x6 => (P.range [x6.1]).map fun x7 => (x7, x6.2)).bind fun x8 => P.for (fun x21 x20 => (P.of (some x20)).bind fun x10 => GK__law_deep_1 x21 x10) (x8.2, x2) x8.1).bind fun x23 => ((P.ok x23.2).bind fun x24 => P.ok (x24, x23.1))))) from (t_seq (s_set (i := 1) pC) (fun x2 => (t_seq (s_forF (Γ := (fun (s : D) => [.l s, .v x2, .u])) (s := x1) (Γi := (fun (x9 : D × D) => [.l x9.1, .v x9.2, .u])) (s0 := fun x22 => (x22, x2)) (fun _ => (.cons wS (.cons wS (.cons wS Wk.nil)))) (iR1F (f2 (stb_l (Γ := [.u, .v x2, .u]) 0) gd_fAdd (PQ.fV (PE.q pC)) (fun x3 => (FE.q (fCall1DV true (Cel.mk (get := fun s => s) (put := fun s d => d) (fun _ => rfl) (fun _ _ => rfl)) g__law_draw (paV pC paNil)))))) (fun x9 => (tN 2)) (fun x9 x10 => (t_last (s_setF (i := 1) (Γ := (fun (s : D) => [.l s, .v x9.2, .s x10])) (s := x9.1) (fIf (fB (f2 (stb_l (Γ := [.u, .v x9.2, .s x10]) 0) gd_fEq (FE.q (fCall1DV true (Cel.mk (get := fun s => s) (put := fun s d => d) (fun _ => rfl) (fun _ _ => rfl)) g__law_draw (paV pC paNil))) (fun x11 => (PQ.fV (PE.q pC))))) (fun x16 => (PE.f (pTupV (paV (pVv 1) paNil)))) (fun x16 => (PE.f (pLstV (paV (pVv 1) paNil))))) (fun _ => ⟨_, rfl, trivial⟩)) (fun x19 => (t_nx (.cons wS (.cons wS (.cons wsu Wk.nil)))))))) (fun x23 => (t_ret1 (pVv 1))))))))
noncomputable def H__law_bent (rg : D → List D → P (D × D)) : D → List D → P (D × D) := fun x1 => f2_ fun x2 x3 => (((((P.op (fIsi [x2, (D.op (.ty "tuple"))])).bind fun x4 => P.of (dTru x4)).bind fun x5 => P.ok !x5).bind fun x8 => if x8 = true then P.ok true else ((((P.op (fLen [x2])).bind fun x6 => P.op (fEq x6 (D.int 0))).bind P.tb).bind fun x7 => if x7 = true then P.ok true else ((P.op (fEq x3 (D.int 0))).bind P.tb))).bind fun x9 => if x9 = true then (((((G__law_is_int [x2]).bind fun x10 => P.of (dTru x10)).map fun x11 => (x11, x1)).bind fun x12 => if x12.1 = true then (((G__law_draw x12.2 [(D.int 3)]).bind fun x13 => (P.ok ((D.int 0), x13.2)).bind fun x14 => (P.op (fGt x13.1 x14.1)).map fun x15 => (x15, x14.2)).bind fun x16 => (P.tb x16.1).map fun x17 => (x17, x16.2)) else P.ok (false, x12.2)).bind fun x18 => if x18.1 = true then (((P.ok (x2, x18.2)).bind fun x19 => (((((((P.op (fNeg (D.int 1))).bind fun x20 => P.ok (x20 :: [])).bind fun x21 => P.ok ((D.int 1) :: x21)).bind P.lst).bind fun x22 => P.ok (x22 :: [])).map fun x23 => (x23, x19.2)).bind fun x24 => G__law_any x24.2 x24.1).bind fun x25 => (P.op (fAdd x19.1 x25.1)).map fun x26 => (x26, x25.2)).bind fun x27 => P.ok (x27.1, x27.2)) else (((((((((((P.op (fNeg (D.int 1))).bind fun x40 => (((P.tup []).bind fun x37 => ((P.tup [(D.int 0)]).bind fun x35 => ((P.tup [(D.int 1)]).bind fun x33 => ((P.tup [(D.int 0), (D.int 1)]).bind fun x31 => ((P.lst []).bind fun x29 => ((P.ok (D.dct false [])).bind fun x28 => P.ok (x28 :: [(D.str (Str.ofString "x")), (D.str (Str.ofString "apart"))])).bind fun x30 => P.ok (x29 :: x30)).bind fun x32 => P.ok (x31 :: x32)).bind fun x34 => P.ok (x33 :: x34)).bind fun x36 => P.ok (x35 :: x36)).bind fun x38 => P.ok (x37 :: x38)).bind fun x39 => P.ok ((D.bl true) :: x39)).bind fun x41 => P.ok (x40 :: x41)).bind fun x42 => P.ok ((D.int 5) :: x42)).bind fun x43 => P.ok ((D.int 1) :: x43)).bind fun x44 => P.ok ((D.int 0) :: x44)).bind fun x45 => P.ok ((D.non) :: x45)).bind P.lst).bind fun x46 => P.ok (x46 :: [])).map fun x47 => (x47, x18.2)).bind fun x48 => G__law_any x48.2 x48.1).bind fun x49 => P.ok (x49.1, x49.2))) else (((((((P.op (fLen [x2])).bind fun x50 => P.ok (x50 :: [])).map fun x51 => (x51, x1)).bind fun x52 => G__law_draw x52.2 x52.1).bind fun x53 => ((G__law_draw x53.2 [(D.int 6)]).bind fun x54 => P.ok ([x54.1], x54.2)).bind fun x55 => P.ok (x53.1 :: x55.1, x55.2)).bind fun x56 => f2_ (fun x57 x58 => P.ok ((x57, x58), x56.2)) x56.1).bind fun x59 => (((P.op (fEq x59.1.2 (D.int 0))).bind P.tb).bind fun x60 => if x60 = true then (((((((((P.ok x2).bind fun x73 => (P.ok none).bind fun x74 => ((P.int x59.1.1).bind fun x72 => P.ok (some x72)).bind fun x75 => P.op (fSl x73 x74 x75)).bind fun x81 => ((P.ok x2).bind fun x78 => ((P.op (fAdd x59.1.1 (D.int 1))).bind fun x77 => (P.int x77).bind fun x76 => P.ok (some x76)).bind fun x79 => (P.ok none).bind fun x80 => P.op (fSl x78 x79 x80)).bind fun x82 => P.op (fAdd x81 x82)).bind fun x83 => ((P.op (fList [x2])).bind fun x70 => ((P.op (fRevA x2)).bind fun x68 => ((((P.ok x2).bind fun x63 => ((P.op (fNeg (D.int 1))).bind fun x62 => (P.int x62).bind fun x61 => P.ok (some x61)).bind fun x64 => (P.ok none).bind fun x65 => P.op (fSl x63 x64 x65)).bind fun x66 => P.op (fAdd x2 x66)).bind fun x67 => P.ok (x67 :: [])).bind fun x69 => P.ok (x68 :: x69)).bind fun x71 => P.ok (x70 :: x71)).bind fun x84 => P.ok (x83 :: x84)).bind P.lst).bind fun x85 => P.ok (x85 :: [])).map fun x86 => (x86, x59.2)).bind fun x87 => G__law_any x87.2 x87.1).bind fun x88 => P.ok (x88.1, x88.2)) else ((((((P.ok x2).bind fun x90 => (P.ok none).bind fun x91 => ((P.int x59.1.1).bind fun x89 => P.ok (some x89)).bind fun x92 => P.op (fSl x90 x91 x92)).map fun x93 => (x93, x59.2)).bind fun x94 => ((((((P.op (fIx x2 x59.1.1)).bind fun x96 => ((P.op (fSub x3 (D.int 1))).bind fun x95 => P.ok (x95 :: [])).bind fun x97 => P.ok (x96 :: x97)).map fun x98 => (x98, x94.2)).bind fun x99 => rg x99.2 x99.1).bind fun x100 => P.ok ([x100.1], x100.2)).bind fun x101 => (P.tup x101.1).map fun x102 => (x102, x101.2)).bind fun x103 => (P.op (fAdd x94.1 x103.1)).map fun x104 => (x104, x103.2)).bind fun x105 => (((P.ok x2).bind fun x108 => ((P.op (fAdd x59.1.1 (D.int 1))).bind fun x107 => (P.int x107).bind fun x106 => P.ok (some x106)).bind fun x109 => (P.ok none).bind fun x110 => P.op (fSl x108 x109 x110)).map fun x111 => (x111, x105.2)).bind fun x112 => (P.op (fAdd x105.1 x112.1)).map fun x113 => (x113, x112.2)).bind fun x114 => P.ok (x114.1, x114.2)))))
noncomputable def G__law_bent : Nat → D → List D → P (D × D)
  | 0 => fun _ _ => P.no
  | n + 1 => fun h ds => (H__law_bent (G__law_bent n) h ds).nox
theorem h__law_bent {rf : List D → FR} {rg : D → List D → P (D × D)} (ih : Call1 false rf rg) : Call1 false (run1 3 2 (B__law_bent rf)) (fun h ds => (H__law_bent rg h ds).nox) := fnG1 (G := H__law_bent rg) (fun _ => n2_ _) (fun x1 ds hl => match ds, hl with | [x2, x3], _ => (show T Zf1 [.l x1, .s x2, .s x3, .u, .u] _ ((((((P.op (fIsi [x2, (D.op (.ty "tuple"))])).bind fun x4 => P.of (dTru x4)).bind fun x5 => P.ok !x5).bind fun x8 => if x8 = true then P.ok true else ((((P.op (fLen [x2])).bind fun x6 => P.op (fEq x6 (D.int 0))).bind P.tb).bind fun x7 => if x7 = true then P.ok true else ((P.op (fEq x3 (D.int 0))).bind P.tb))).bind fun x9 => if x9 = true then (((((G__law_is_int [x2]).bind fun x10 => P.of (dTru x10)).map fun x11 => (x11, x1)).bind fun x12 => if x12.1 = true then (((G__law_draw x12.2 [(D.int 3)]).bind fun x13 => (P.ok ((D.int 0), x13.2)).bind fun x14 => (P.op (fGt x13.1 x14.1)).map fun x15 => (x15, x14.2)).bind fun x16 => (P.tb x16.1).map fun x17 => (x17, x16.2)) else P.ok (false, x12.2)).bind fun x18 => if x18.1 = true then (((P.ok (x2, x18.2)).bind fun x19 => (((((((P.op (fNeg (D.int 1))).bind fun x20 => P.ok (x20 :: [])).bind fun x21 => P.ok ((D.int 1) :: x21)).bind P.lst).bind fun x22 => P.ok (x22 :: [])).map fun x23 => (x23, x19.2)).bind fun x24 => G__law_any x24.2 x24.1).bind fun x25 => (P.op (fAdd x19.1 x25.1)).map fun x26 => (x26, x25.2)).bind fun x27 => P.ok (x27.1, x27.2)) else (((((((((((P.op (fNeg (D.int 1))).bind fun x40 => (((P.tup []).bind fun x37 => ((P.tup [(D.int 0)]).bind fun x35 => ((P.tup [(D.int 1)]).bind fun x33 => ((P.tup [(D.int 0), (D.int 1)]).bind fun x31 => ((P.lst []).bind fun x29 => ((P.ok (D.dct false [])).bind fun x28 => P.ok (x28 :: [(D.str (Str.ofString "x")), (D.str (Str.ofString "apart"))])).bind fun x30 => P.ok (x29 :: x30)).bind fun x32 => P.ok (x31 :: x32)).bind fun x34 => P.ok (x33 :: x34)).bind fun x36 => P.ok (x35 :: x36)).bind fun x38 => P.ok (x37 :: x38)).bind fun x39 => P.ok ((D.bl true) :: x39)).bind fun x41 => P.ok (x40 :: x41)).bind fun x42 => P.ok ((D.int 5) :: x42)).bind fun x43 => P.ok ((D.int 1) :: x43)).bind fun x44 => P.ok ((D.int 0) :: x44)).bind fun x45 => P.ok ((D.non) :: x45)).bind P.lst).bind fun x46 => P.ok (x46 :: [])).map fun x47 => (x47, x18.2)).bind fun x48 => G__law_any x48.2 x48.1).bind fun x49 => P.ok (x49.1, x49.2))) else (((((((P.op (fLen [x2])).bind fun x50 => P.ok (x50 :: [])).map fun x51 => (x51, x1)).bind fun x52 => G__law_draw x52.2 x52.1).bind fun x53 => ((G__law_draw x53.2 [(D.int 6)]).bind fun x54 => P.ok ([x54.1], x54.2)).bind fun x55 => P.ok (x53.1 :: x55.1, x55.2)).bind fun x56 => f2_ (fun x57 x58 => P.ok ((x57, x58), x56.2)) x56.1).bind fun x59 => (((P.op (fEq x59.1.2 (D.int 0))).bind P.tb).bind fun x60 => if x60 = true then (((((((((P.ok x2).bind fun x73 => (P.ok none).bind fun x74 => ((P.int x59.1.1).bind fun x72 => P.ok (some x72)).bind fun x75 => P.op (fSl x73 x74 x75)).bind fun x81 => ((P.ok x2).bind fun x78 => ((P.op (fAdd x59.1.1 (D.int 1))).bind fun x77 => (P.int x77).bind fun x76 => P.ok (some x76)).bind fun x79 => (P.ok none).bind fun x80 => P.op (fSl x78 x79 x80)).bind fun x82 => P.op (fAdd x81 x82)).bind fun x83 => ((P.op (fList [x2])).bind fun x70 => ((P.op (fRevA x2)).bind fun x68 => ((((P.ok x2).bind fun x63 => ((P.op (fNeg (D.int 1))).bind fun x62 => (P.int x62).bind fun x61 => P.ok (some x61)).bind fun x64 => (P.ok none).bind fun x65 => P.op (fSl x63 x64 x65)).bind fun x66 => P.op (fAdd x2 x66)).bind fun x67 => P.ok (x67 :: [])).bind fun x69 => P.ok (x68 :: x69)).bind fun x71 => P.ok (x70 :: x71)).bind fun x84 => P.ok (x83 :: x84)).bind P.lst).bind fun x85 => P.ok (x85 :: [])).map fun x86 => (x86, x59.2)).bind fun x87 => G__law_any x87.2 x87.1).bind fun x88 => P.ok (x88.1, x88.2)) else ((((((P.ok x2).bind fun x90 => (P.ok none).bind fun x91 => ((P.int x59.1.1).bind fun x89 => P.ok (some x89)).bind fun x92 => P.op (fSl x90 x91 x92)).map fun x93 => (x93, x59.2)).bind fun x94 => ((((((P.op (fIx x2 x59.1.1)).bind fun x96 => ((P.op (fSub x3 (D.int 1))).bind fun x95 => P.ok (x95 :: [])).bind fun x97 => P.ok (x96 :: x97)).map fun x98 => (x98, x94.2)).bind fun x99 => rg x99.2 x99.1).bind fun x100 => P.ok ([x100.1], x100.2)).bind fun x101 => (P.tup x101.1).map fun x102 => (x102, x101.2)).bind fun x103 => (P.op (fAdd x94.1 x103.1)).map fun x104 => (x104, x103.2)).bind fun x105 => (((P.ok x2).bind fun x108 => ((P.op (fAdd x59.1.1 (D.int 1))).bind fun x107 => (P.int x107).bind fun x106 => P.ok (some x106)).bind fun x109 => (P.ok none).bind fun x110 => P.op (fSl x108 x109 x110)).map fun x111 => (x111, x105.2)).bind fun x112 => (P.op (fAdd x105.1 x112.1)).map fun x113 => (x113, x112.2)).bind fun x114 => P.ok (x114.1, x114.2)))))) from (t_push (t_if (pOr (pNot (pTru (PE.l (pCBV gd_fIsi (plV (PE.l (pVs 1)) (plV (PE.l pC) plNil)))))) (pOr (pB (p2pv gd_fEq (PE.l (pCBV gd_fLen (plV (PE.l (pVs 1)) plNil))) (PE.l pC))) (pB (p2vv gd_fEq (PE.l (pVs 2)) (PE.l pC))))) (t_assoc (t_push (t_ifF (Γ := (fun (s : D) => [.l s, .s x2, .s x3, .u, .u])) (s := x1) (fAnd (PB.f (pTru (PE.l (pCall0V g__law_is_int (paV (pVs 1) paNil))))) (fun x12 => (fB (f2 (stb_l (Γ := [.u, .s x2, .s x3, .u, .u]) 0) gd_fGt (FE.q (fCall1DV true (Cel.mk (get := fun s => s) (put := fun s d => d) (fun _ => rfl) (fun _ _ => rfl)) g__law_draw (paV pC paNil))) (fun x13 => (PQ.fV (PE.q pC))))))) (fun x18 => (t_cutR (t_ret1F (Γ := (fun (s : D) => [.l s, .s x2, .s x3, .u, .u])) (s := x18.2) (get := fun s => s) (f2 (stb_l (Γ := [.u, .s x2, .s x3, .u, .u]) 0) gd_fAdd (PQ.fV (PE.q (pVs 1))) (fun x19 => (FE.q (fCall1D true (Cel.mk (get := fun s => s) (put := fun s d => d) (fun _ => rfl) (fun _ _ => rfl)) g__law_any (PA.f (paPv (pLst (paVp pC (paPv (p1v gd_fNeg (PE.l pC)) paNil))) paNil)))))) (fun _ => rfl)))) (fun x18 => (t_skip (t_cutR (t_ret1F (Γ := (fun (s : D) => [.l s, .s x2, .s x3, .u, .u])) (s := x18.2) (get := fun s => s) (fCall1D true (Cel.mk (get := fun s => s) (put := fun s d => d) (fun _ => rfl) (fun _ _ => rfl)) g__law_any (PA.f (paPv (pLst (paVp pC (paVp pC (paVp pC (paVp pC (paCons (p1v gd_fNeg (PE.l pC)) (paVp pC (paCons (pTupV paNil) (paCons (pTupV (paV pC paNil)) (paCons (pTupV (paV pC paNil)) (paCons (pTupV (paV pC (paV pC paNil))) (paCons (pLstV paNil) (paPv (PW.e wNewD) (paV pC (paV pC paNil))))))))))))))) paNil))) (fun _ => rfl)))))))) (t_skip (t_seq (s_parF2 (Γ := (fun (s : D) => [.l s, .s x2, .s x3, .u, .u])) (s := x1) (faCons (stb_l (Γ := [.u, .s x2, .s x3, .u, .u]) 0).v (fCall1D true (Cel.mk (get := fun s => s) (put := fun s d => d) (fun _ => rfl) (fun _ _ => rfl)) g__law_draw (PA.f (paPv (pCBV gd_fLen (plV (PE.l (pVs 1)) plNil)) paNil))) (fun x53 => (faOne (fCall1DV true (Cel.mk (get := fun s => s) (put := fun s d => d) (fun _ => rfl) (fun _ _ => rfl)) g__law_draw (paV pC paNil))))) (fun _ => nlCons (nlCons nlNil))) (fun x59 => (t_push (t_if (pB (p2vv gd_fEq (PE.l (pVv 4)) (PE.l pC))) (t_cutR (t_ret1F (Γ := (fun (s : D) => [.l s, .s x2, .s x3, .v x59.1.1, .v x59.1.2])) (s := x59.2) (get := fun s => s) (fCall1D true (Cel.mk (get := fun s => s) (put := fun s d => d) (fun _ => rfl) (fun _ _ => rfl)) g__law_any (PA.f (paPv (pLst (paCons (p2 gd_fAdd (PE.l (pSl gd_fSl (PE.l (pVs 1)) poN (poSV (pVv 3)))) (PE.l (pSl gd_fSl (PE.l (pVs 1)) (poS (p2vv gd_fAdd (PE.l (pVv 3)) (PE.l pC))) poN))) (paCons (pCBV gd_fList (plV (PE.l (pVs 1)) plNil)) (paCons (p1v gd_fRevA (PE.l (pVs 1))) (paPv (p2vp gd_fAdd (PE.l (pVs 1)) (PE.l (pSl gd_fSl (PE.l (pVs 1)) (poS (p1v gd_fNeg (PE.l pC))) poN))) paNil))))) paNil))) (fun _ => rfl))) (t_skip (t_ret1F (Γ := (fun (s : D) => [.l s, .s x2, .s x3, .v x59.1.1, .v x59.1.2])) (s := x59.2) (get := fun s => s) (f2 (stb_l (Γ := [.u, .s x2, .s x3, .v x59.1.1, .v x59.1.2]) 0) gd_fAdd (FE.q (f2 (stb_l (Γ := [.u, .s x2, .s x3, .v x59.1.1, .v x59.1.2]) 0) gd_fAdd (PQ.f (PE.q (pSl gd_fSl (PE.l (pVs 1)) poN (poSV (pVv 3))))) (fun x94 => (FE.q (fTup (faOne (fCall1D true (Cel.mk (get := fun s => s) (put := fun s d => d) (fun _ => rfl) (fun _ _ => rfl)) ih (PA.f (paCons (p2vv gd_fIx (PE.l (pVs 1)) (PE.l (pVv 3))) (paPv (p2vv gd_fSub (PE.l (pVs 2)) (PE.l pC)) paNil)))))))))) (fun x105 => (PQ.f (PE.q (pSl gd_fSl (PE.l (pVs 1)) (poS (p2vv gd_fAdd (PE.l (pVv 3)) (PE.l pC))) poN))))) (fun _ => rfl))))))))))))
theorem g__law_bent : ∀ n, Call1 false (F__law_bent n) (G__law_bent n)
  | 0 => fun _ _ => trivial
  | n + 1 => h__law_bent (g__law_bent n)
noncomputable def GK__law_steps_1 (x5 : D) : D → D → P (D) := fun x7 x8 => (((P.op (fNe x8 x5)).bind P.tb).bind fun x9 => if x9 = true then (((((P.op (fIx x8 (D.int 0))).bind fun x13 => (P.op (fIx x5 (D.int 0))).bind fun x14 => P.op (fSub x13 x14)).bind fun x15 => (((P.op (fIx x8 (D.int 1))).bind fun x10 => (P.op (fIx x5 (D.int 1))).bind fun x11 => P.op (fSub x10 x11)).bind fun x12 => P.ok (x12 :: [])).bind fun x16 => P.ok (x15 :: x16)).bind P.tup).bind fun x17 => (((((P.ok x7).bind fun x18 => (P.dct x18).bind fun x21 => (P.ok x17).bind fun x19 => (P.ok (D.int 0)).bind fun x20 => P.of (fGet2 x18 x19 x20)).bind fun x22 => P.op (fAdd x22 (D.int 1))).bind fun x23 => (P.ok x17).bind fun x24 => P.of (stD x7 x24 x23)).bind fun x25 => (P.ok x25))) else (P.ok x7))
noncomputable def GK__law_steps_2 (x1 : D) : D → D → P (D) := fun x4 x5 => (((P.seq x1).bind fun x6 => P.for (fun x27 x26 => (P.of (some x26)).bind fun x8 => (GK__law_steps_1 x5) x27 x8) x4 x6).bind fun x28 => (P.ok x28))
noncomputable def GE__law_steps_1 (x31 : D) : D → P (Option D) := fun x33 => (P.of (some x33)).bind fun x32 => ((((P.op (fIx x31 x32)).bind fun x35 => P.ok (x35 :: [])).bind fun x36 => P.ok (x32 :: x36)).bind P.tup).bind fun x34 => P.ok (some x34)
noncomputable def G__law_steps : List D → P D := f1_ fun x1 => ((P.ok (D.dct true [])).bind fun x2 => (((P.seq x1).bind fun x3 => P.for (fun x30 x29 => (P.of (some x29)).bind fun x5 => (GK__law_steps_2 x1) x30 x5) x2 x3).bind fun x31 => ((((((P.any x31).bind fun x37 => P.lc (GE__law_steps_1 x31) x37).bind fun x38 => P.ok (x38 :: [])).bind fun x39 => P.op (fSortB x39)).bind fun x40 => P.ok (x40 :: [])).bind fun x41 => P.op (fTuple x41))))
theorem g__law_steps : Call0 false F__law_steps G__law_steps := fnG0 (n1_ _) (fun ds hl => match ds, hl with | [x1], _ => (show T (Zf0 false) [.s x1, .u, .u, .u, .u] _ (((P.ok (D.dct true [])).bind fun x2 => (((P.seq x1).bind fun x3 => P.for (fun x30 x29 => (P.of (some x29)).bind fun x5 => (GK__law_steps_2 x1) x30 x5) x2 x3).bind fun x31 => ((((((P.any x31).bind fun x37 => P.lc (GE__law_steps_1 x31) x37).bind fun x38 => P.ok (x38 :: [])).bind fun x39 => P.op (fSortB x39)).bind fun x40 => P.ok (x40 :: [])).bind fun x41 => P.op (fTuple x41))))) from (t_seq (s_setO (i := 1) wNewD) (fun x2 => (t_seq (s_for (Γi := (fun (x4 : D) => [.s x1, .o x4, .u, .u, .u])) (s0 := x2) (.cons wS (.cons wS (.cons wS (.cons wS (.cons wS Wk.nil))))) (iSeqV (pVs 0)) (fun x4 => (tN 2)) (fun x4 x5 => (t_last (s_for (Γi := (fun (x7 : D) => [.s x1, .o x7, .s x5, .u, .u])) (s0 := x4) (.cons wS (.cons wS (.cons wS (.cons wS (.cons wS Wk.nil))))) (iSeqV (pVs 0)) (fun x7 => (tN 3)) (fun x7 x8 => (t_if (pB (p2vv gd_fNe (PE.l (pVs 3)) (PE.l (pVs 2)))) (t_seq (s_set (i := 4) (pTup (paCons (p2 gd_fSub (PE.l (p2vv gd_fIx (PE.l (pVs 3)) (PE.l pC))) (PE.l (p2vv gd_fIx (PE.l (pVs 2)) (PE.l pC)))) (paPv (p2 gd_fSub (PE.l (p2vv gd_fIx (PE.l (pVs 3)) (PE.l pC))) (PE.l (p2vv gd_fIx (PE.l (pVs 2)) (PE.l pC)))) paNil)))) (fun x17 => (t_last (s_store (i := 1) 0 rfl (pVv 4) (p2pv gd_fAdd (PE.l (pGet2 (PQ.l (qVo 1)) (PE.l (pVv 4)) pC)) (PE.l pC))) (fun x25 => (t_nx (.cons wS (.cons wS (.cons wS (.cons wsu (.cons wvu Wk.nil)))))))))) (t_nx (.cons wS (.cons wS (.cons wS (.cons wsu (.cons wS Wk.nil))))))))) (fun x28 => (t_nx (.cons wS (.cons wS (.cons wsu (.cons wS (.cons wS Wk.nil)))))))))) (fun x31 => (T.wk (.cons wS (.cons wov (.cons wS (.cons wS (.cons wS Wk.nil))))) (t_ret0 (pCB gd_fTuple (plPv (PE.l (pCB gd_fSortB (plPv (PE.l (PW.e (pLc (vs := [4]) (ownU ownNil) (iAnyV 1) (lb0 (tN 4) (fun x32 => (pTup (paVp (pVs 4) (paPv (p2vv gd_fIx (PE.l (pVv 1)) (PE.l (pVs 4))) paNil)))) (fun _ => rfl))))) plNil))) plNil))))))))))
noncomputable def GE__law_due_1 : D → P (Option D) := fun x6 => (P.of ((tupO (consO some (consO some nilO))) x6)).bind fun x5 => ((((P.op (fIx x5.2.1 (D.int 0))).bind fun x11 => (P.op (fIx x5.1 (D.int 0))).bind fun x12 => P.op (fSub x11 x12)).bind fun x13 => (((P.op (fIx x5.2.1 (D.int 1))).bind fun x8 => (P.op (fIx x5.1 (D.int 1))).bind fun x9 => P.op (fSub x8 x9)).bind fun x10 => P.ok (x10 :: [])).bind fun x14 => P.ok (x13 :: x14)).bind P.tup).bind fun x7 => P.ok (some x7)
noncomputable def GE__law_due_2 (x16 : D) : D → P (Option D) := fun x18 => (P.of ((tupO (consO some (consO some nilO))) x18)).bind fun x17 => (((P.op (fIx x16 (D.int 0))).bind fun x20 => P.op (fNe x17.2.1 x20)).bind P.tb).bind fun x21 => if x21 = true then (P.ok x17.1).bind fun x19 => P.ok (some x19) else P.ok none
noncomputable def G__law_due : List D → P D := f2_ fun x1 x2 => ((((P.op (fSortB [x1])).bind fun x3 => (P.op (fSortB [x2])).bind fun x4 => P.zip x3 x4).bind fun x15 => P.lc GE__law_due_1 x15).bind fun x16 => (((P.enum x16).bind fun x22 => P.lc (GE__law_due_2 x16) x22).bind fun x23 => ((((P.op (fLen [x23])).bind fun x24 => P.op (fGt x24 (D.int 0))).bind P.tb).bind fun x29 => if x29 = true then ((((P.op (fIx x23 (D.int 0))).bind fun x25 => P.ok (x25 :: [])).bind fun x26 => P.ok ((D.str (Str.ofString "parts")) :: x26)).bind P.tup) else ((((P.op (fIx x16 (D.int 0))).bind fun x27 => P.ok (x27 :: [])).bind fun x28 => P.ok ((D.str (Str.ofString "moved")) :: x28)).bind P.tup))))
theorem g__law_due : Call0 false F__law_due G__law_due := fnG0 (n2_ _) (fun ds hl => match ds, hl with | [x1, x2], _ => (show T (Zf0 false) [.s x1, .s x2, .u, .u, .u, .u, .u, .u] _ (((((P.op (fSortB [x1])).bind fun x3 => (P.op (fSortB [x2])).bind fun x4 => P.zip x3 x4).bind fun x15 => P.lc GE__law_due_1 x15).bind fun x16 => (((P.enum x16).bind fun x22 => P.lc (GE__law_due_2 x16) x22).bind fun x23 => ((((P.op (fLen [x23])).bind fun x24 => P.op (fGt x24 (D.int 0))).bind P.tb).bind fun x29 => if x29 = true then ((((P.op (fIx x23 (D.int 0))).bind fun x25 => P.ok (x25 :: [])).bind fun x26 => P.ok ((D.str (Str.ofString "parts")) :: x26)).bind P.tup) else ((((P.op (fIx x16 (D.int 0))).bind fun x27 => P.ok (x27 :: [])).bind fun x28 => P.ok ((D.str (Str.ofString "moved")) :: x28)).bind P.tup))))) from (t_seq (s_setO (i := 2) (pLc (vs := [4, 5]) (ownU (ownU ownNil)) (iZip (pCBV gd_fSortB (plV (PE.l (pVs 0)) plNil)) (pCBV gd_fSortB (plV (PE.l (pVs 1)) plNil))) (lb0 (tT (tsCons (tN 4) (fun _ => (tsCons (tN 5) (fun _ => tsNil))))) (fun x5 => (pTup (paCons (p2 gd_fSub (PE.l (p2vv gd_fIx (PE.l (pVs 5)) (PE.l pC))) (PE.l (p2vv gd_fIx (PE.l (pVs 4)) (PE.l pC)))) (paPv (p2 gd_fSub (PE.l (p2vv gd_fIx (PE.l (pVs 5)) (PE.l pC))) (PE.l (p2vv gd_fIx (PE.l (pVs 4)) (PE.l pC)))) paNil)))) (fun _ => rfl)))) (fun x16 => (T.wk (.cons wS (.cons wS (.cons wov (.cons wS (.cons wS (.cons wS (.cons wS (.cons wS Wk.nil)))))))) (t_seq (s_setO (i := 3) (pLc (vs := [6, 7]) (ownU (ownU ownNil)) (iEnV (pVv 2)) (lb (tT (tsCons (tN 6) (fun _ => (tsCons (tN 7) (fun _ => tsNil))))) (fun x17 => (pB (p2vp gd_fNe (PE.l (pVs 7)) (PE.l (p2vv gd_fIx (PE.l (pVv 2)) (PE.l pC)))))) (fun x17 => (pVs 6)) (fun _ => rfl)))) (fun x23 => (t_ret0 (pIf (pB (p2pv gd_fGt (PE.l (pCBV gd_fLen (plV (PQ.l (qVo 3)) plNil))) (PE.l pC))) (pTup (paVp pC (paPv (p2vv gd_fIx (PQ.l (qVo 3)) (PE.l pC)) paNil))) (pTup (paVp pC (paPv (p2vv gd_fIx (PE.l (pVv 2)) (PE.l pC)) paNil))))))))))))
noncomputable def GE__law_is_right_1 (x6 : D × D) : D → D → P (Option D × D) := fun x63 x64 => (P.of (some x64)).bind fun x65 => ((G__law_bent 6) x63 [x6.2, (D.int 2)]).bind fun x66 => P.ok (some x66.1, x66.2)
noncomputable def GK__law_is_right_1 (x2 : D) (x3 : D) (x6 : D × D) : D → D → P (Fl D (D × D)) := fun x73 x74 => ((P.op (fRepr [x74])).bind fun x75 => (((((((G_is_moved_shown [x2, x3, x74]).bind fun x76 => P.ok (x76 :: [])).bind fun x77 => P.op (fRepr x77)).bind fun x81 => ((((P.op (fRepr [x6.1])).bind fun x78 => P.op (fEq x75 x78)).bind fun x79 => P.ok (x79 :: [])).bind fun x80 => P.op (fRepr x80)).bind fun x82 => P.op (fNe x81 x82)).bind P.tb).bind fun x84 => if x84 = true then P.ok true else (((P.op (fRepr [x74])).bind fun x83 => P.op (fNe x83 x75)).bind P.tb)).bind fun x85 => if x85 = true then (((P.ok (D.bl false)).bind fun x86 => P.ok (x86, x73)).bind fun x87 => P.ok (Fl.rt x87)) else (P.ok (Fl.nx x73))))
noncomputable def H__law_is_right : D → List D → P (D × D) := fun x1 => f2_ fun x2 x3 => (((G__law_due [x2, x3]).bind fun x4 => (G_moved_shown [x2, x3]).bind fun x5 => P.ok (x4, x5)).bind fun x6 => (((((P.op (fRepr [x6.2])).bind fun x7 => (P.op (fRepr [x6.1])).bind fun x8 => P.op (fNe x7 x8)).bind P.tb).bind fun x15 => if x15 = true then P.ok true else (((((G_step_counts [x2]).bind fun x9 => P.ok (x9 :: [])).bind fun x10 => P.op (fRepr x10)).bind fun x13 => (((G__law_steps [x2]).bind fun x11 => P.ok (x11 :: [])).bind fun x12 => P.op (fRepr x12)).bind fun x14 => P.op (fNe x13 x14)).bind P.tb)).bind fun x16 => if x16 = true then ((P.ok (D.bl false)).bind fun x17 => P.ok (x17, x1)) else (((((P.op (fIx x6.1 (D.int 0))).bind fun x18 => P.op (fEq x18 (D.str (Str.ofString "moved")))).bind P.tb).bind fun x21 => if x21 = true then (((G_step_counts [x3]).bind fun x19 => (G_step_counts [x2]).bind fun x20 => P.op (fNe x19 x20)).bind P.tb) else P.ok false).bind fun x22 => if x22 = true then ((P.ok (D.bl false)).bind fun x23 => P.ok (x23, x1)) else ((((((P.ok x6.2).bind fun x31 => (P.ok none).bind fun x32 => ((P.int (D.int 1)).bind fun x30 => P.ok (some x30)).bind fun x33 => P.op (fSl x31 x32 x33)).bind fun x34 => (((P.tup [(D.int 0)]).bind fun x27 => P.op (fAdd x6.2 x27)).bind fun x28 => ((P.op (fList [x6.2])).bind fun x25 => ((P.op (fRevA x6.2)).bind fun x24 => P.ok (x24 :: [])).bind fun x26 => P.ok (x25 :: x26)).bind fun x29 => P.ok (x28 :: x29)).bind fun x35 => P.ok (x34 :: x35)).bind fun x36 => P.ok (x6.2 :: x36)).bind P.lst).bind fun x37 => (((((((((P.tup [(D.int 0), (D.int 0)]).bind fun x45 => P.ok (x45 :: [])).bind fun x46 => P.ok ((D.str (Str.ofString "moved")) :: x46)).bind P.tup).bind fun x47 => (((((P.lst [(D.int 1), (D.int 2)]).bind fun x41 => P.ok (x41 :: [])).bind fun x42 => P.ok ((D.str (Str.ofString "moved")) :: x42)).bind P.tup).bind fun x43 => ((P.tup [(D.str (Str.ofString "parts")), (D.int 0)]).bind fun x39 => ((P.tup [(D.str (Str.ofString "parts")), (D.int 1)]).bind fun x38 => P.ok (x38 :: [])).bind fun x40 => P.ok (x39 :: x40)).bind fun x44 => P.ok (x43 :: x44)).bind fun x48 => P.ok (x47 :: x48)).bind fun x49 => P.ok ((D.non) :: x49)).bind P.lst).bind fun x50 => P.op (fAdd x37 x50)).bind fun x51 => ((((((P.ok (x51, x1)).bind fun x52 => ((((P.tup [(D.str (Str.ofString "parts")), (D.bl true)]).map fun x53 => (x53, x52.2)).bind fun x54 => ((G__law_deep x54.2 []).bind fun x55 => P.ok ([x55.1], x55.2)).bind fun x56 => P.ok (x54.1 :: x56.1, x56.2)).bind fun x57 => (P.lst x57.1).map fun x58 => (x58, x57.2)).bind fun x59 => (P.op (fAdd x52.1 x59.1)).map fun x60 => (x60, x59.2)).bind fun x61 => (((P.range [(D.int 6)]).map fun x62 => (x62, x61.2)).bind fun x67 => P.lcF (GE__law_is_right_1 x6) x67.1 x67.2).bind fun x68 => (P.op (fAdd x61.1 x68.1)).map fun x69 => (x69, x68.2)).bind fun x70 => (P.seq x70.1).map fun x71 => (x71, x70.2)).bind fun x72 => P.forJ (fun x89 x88 => (P.of (some x88)).bind fun x74 => (GK__law_is_right_1 x2 x3 x6) x89 x74) x72.2 x72.1).bind (P.j (fun x91 => ((P.ok (D.bl true)).bind fun x92 => P.ok (x92, x91))) id)))))))
noncomputable def G__law_is_right : D → List D → P (D × D) := fun h ds => (H__law_is_right h ds).nox
theorem g__law_is_right : Call1 false F__law_is_right G__law_is_right := fnG1 (G := H__law_is_right) (fun _ => n2_ _) (fun x1 ds hl => match ds, hl with | [x2, x3], _ => (show T Zf1 [.l x1, .s x2, .s x3, .u, .u, .u, .u, .u, .u] _ ((((G__law_due [x2, x3]).bind fun x4 => (G_moved_shown [x2, x3]).bind fun x5 => P.ok (x4, x5)).bind fun x6 => (((((P.op (fRepr [x6.2])).bind fun x7 => (P.op (fRepr [x6.1])).bind fun x8 => P.op (fNe x7 x8)).bind P.tb).bind fun x15 => if x15 = true then P.ok true else (((((G_step_counts [x2]).bind fun x9 => P.ok (x9 :: [])).bind fun x10 => P.op (fRepr x10)).bind fun x13 => (((G__law_steps [x2]).bind fun x11 => P.ok (x11 :: [])).bind fun x12 => P.op (fRepr x12)).bind fun x14 => P.op (fNe x13 x14)).bind P.tb)).bind fun x16 => if x16 = true then ((P.ok (D.bl false)).bind fun x17 => P.ok (x17, x1)) else (((((P.op (fIx x6.1 (D.int 0))).bind fun x18 => P.op (fEq x18 (D.str (Str.ofString "moved")))).bind P.tb).bind fun x21 => if x21 = true then (((G_step_counts [x3]).bind fun x19 => (G_step_counts [x2]).bind fun x20 => P.op (fNe x19 x20)).bind P.tb) else P.ok false).bind fun x22 => if x22 = true then ((P.ok (D.bl false)).bind fun x23 => P.ok (x23, x1)) else ((((((P.ok x6.2).bind fun x31 => (P.ok none).bind fun x32 => ((P.int (D.int 1)).bind fun x30 => P.ok (some x30)).bind fun x33 => P.op (fSl x31 x32 x33)).bind fun x34 => (((P.tup [(D.int 0)]).bind fun x27 => P.op (fAdd x6.2 x27)).bind fun x28 => ((P.op (fList [x6.2])).bind fun x25 => ((P.op (fRevA x6.2)).bind fun x24 => P.ok (x24 :: [])).bind fun x26 => P.ok (x25 :: x26)).bind fun x29 => P.ok (x28 :: x29)).bind fun x35 => P.ok (x34 :: x35)).bind fun x36 => P.ok (x6.2 :: x36)).bind P.lst).bind fun x37 => (((((((((P.tup [(D.int 0), (D.int 0)]).bind fun x45 => P.ok (x45 :: [])).bind fun x46 => P.ok ((D.str (Str.ofString "moved")) :: x46)).bind P.tup).bind fun x47 => (((((P.lst [(D.int 1), (D.int 2)]).bind fun x41 => P.ok (x41 :: [])).bind fun x42 => P.ok ((D.str (Str.ofString "moved")) :: x42)).bind P.tup).bind fun x43 => ((P.tup [(D.str (Str.ofString "parts")), (D.int 0)]).bind fun x39 => ((P.tup [(D.str (Str.ofString "parts")), (D.int 1)]).bind fun x38 => P.ok (x38 :: [])).bind fun x40 => P.ok (x39 :: x40)).bind fun x44 => P.ok (x43 :: x44)).bind fun x48 => P.ok (x47 :: x48)).bind fun x49 => P.ok ((D.non) :: x49)).bind P.lst).bind fun x50 => P.op (fAdd x37 x50)).bind fun x51 => ((((((P.ok (x51, x1)).bind fun x52 => ((((P.tup [(D.str (Str.ofString "parts")), (D.bl true)]).map fun x53 => (x53, x52.2)).bind fun x54 => ((G__law_deep x54.2 []).bind fun x55 => P.ok ([x55.1], x55.2)).bind fun x56 => P.ok (x54.1 :: x56.1, x56.2)).bind fun x57 => (P.lst x57.1).map fun x58 => (x58, x57.2)).bind fun x59 => (P.op (fAdd x52.1 x59.1)).map fun x60 => (x60, x59.2)).bind fun x61 => (((P.range [(D.int 6)]).map fun x62 => (x62, x61.2)).bind fun x67 => P.lcF (GE__law_is_right_1 x6) x67.1 x67.2).bind fun x68 => (P.op (fAdd x61.1 x68.1)).map fun x69 => (x69, x68.2)).bind fun x70 => (P.seq x70.1).map fun x71 => (x71, x70.2)).bind fun x72 => P.forJ (fun x89 x88 => (P.of (some x88)).bind fun x74 => (GK__law_is_right_1 x2 x3 x6) x89 x74) x72.2 x72.1).bind (P.j (fun x91 => ((P.ok (D.bl true)).bind fun x92 => P.ok (x92, x91))) id)))))))) from (t_seq (k2_ (i := 5) (j := 6) (k1 := false) (k2 := false) (pCall0V g__law_due (paV (pVs 1) (paV (pVs 2) paNil))) (pCall0V g_moved_shown (paV (pVs 1) (paV (pVs 2) paNil)))) (fun x6 => (t_push (t_if (pOr (pB (p2 gd_fNe (PE.l (pCBV gd_fRepr (plV (PE.l (pVv 6)) plNil))) (PE.l (pCBV gd_fRepr (plV (PE.l (pVv 5)) plNil))))) (pB (p2 gd_fNe (PE.l (pCB gd_fRepr (plPv (PE.l (pCall0V g_step_counts (paV (pVs 1) paNil))) plNil))) (PE.l (pCB gd_fRepr (plPv (PE.l (pCall0V g__law_steps (paV (pVs 1) paNil))) plNil)))))) (t_cutR (t_ret1 pC)) (t_skip (t_push (t_if (pAnd (pB (p2pv gd_fEq (PE.l (p2vv gd_fIx (PE.l (pVv 5)) (PE.l pC))) (PE.l pC))) (pB (p2 gd_fNe (PE.l (pCall0V g_step_counts (paV (pVs 2) paNil))) (PE.l (pCall0V g_step_counts (paV (pVs 1) paNil)))))) (t_cutR (t_ret1 pC)) (t_skip (t_seq (s_setO (i := 3) (wLst (paVp (pVv 6) (paCons (pSl gd_fSl (PE.l (pVv 6)) poN (poSV pC)) (paCons (p2vp gd_fAdd (PE.l (pVv 6)) (PE.l (pTupV (paV pC paNil)))) (paCons (pCBV gd_fList (plV (PE.l (pVv 6)) plNil)) (paPv (p1v gd_fRevA (PE.l (pVv 6))) paNil))))))) (fun x37 => (t_seq (s_set (i := 3) (p2vp gd_fAdd (PQ.l (qVo 3)) (PE.l (pLst (paVp pC (paCons (pTup (paVp pC (paPv (pTupV (paV pC (paV pC paNil))) paNil))) (paCons (pTup (paVp pC (paPv (pLstV (paV pC (paV pC paNil))) paNil))) (paCons (pTupV (paV pC (paV pC paNil))) (paPv (pTupV (paV pC (paV pC paNil))) paNil))))))))) (fun x51 => (t_sJ z_id (t_forJF (Γ := (fun (s : D) => [.l s, .s x2, .s x3, .v x51, .u, .v x6.1, .v x6.2, .u, .u])) (s := x1) (Γi := (fun (x73 : D) => [.l x73, .s x2, .s x3, .v x51, .u, .v x6.1, .v x6.2, .u, .u])) (s0 := fun x90 => x90) (fun _ => (.cons wS (.cons wS (.cons wS (.cons wS (.cons wS (.cons wS (.cons wS (.cons wS (.cons wS Wk.nil)))))))))) (iSeqF (f2 (stb_l (Γ := [.u, .s x2, .s x3, .v x51, .u, .v x6.1, .v x6.2, .u, .u]) 0) gd_fAdd (FE.q (f2 (stb_l (Γ := [.u, .s x2, .s x3, .v x51, .u, .v x6.1, .v x6.2, .u, .u]) 0) gd_fAdd (PQ.fV (PE.q (pVv 3))) (fun x52 => (FE.q (fLst (faCons (stb_l (Γ := [.u, .s x2, .s x3, .v x51, .u, .v x6.1, .v x6.2, .u, .u]) 0).v (PE.f (pTupV (paV pC (paV pC paNil)))) (fun x54 => (faOne (fCall1DV true (Cel.mk (get := fun s => s) (put := fun s d => d) (fun _ => rfl) (fun _ _ => rfl)) g__law_deep paNil))))))))) (fun x61 => (FE.q (FW.e (fLc (vs := [8]) (fun _ => (ownU ownNil)) (hoCons hoNil) (PI_.f (iR1V pC)) (lbF0 (fun _ => (tN 8)) (fun x63 x65 => (fCall1DV true (Cel.mk (get := fun s => s) (put := fun s d => d) (fun _ => rfl) (fun _ _ => rfl)) (g__law_bent 6) (paV (pVv 6) (paV pC paNil)))) (fun _ _ => rfl)))))))) (fun x73 => (tN 4)) (fun x73 x74 => (t_seq (s_set (i := 7) (pCBV gd_fRepr (plV (PE.l (pVs 4)) plNil))) (fun x75 => (t_if (pOr (pB (p2 gd_fNe (PE.l (pCB gd_fRepr (plPv (PE.l (pCall0V g_is_moved_shown (paV (pVs 1) (paV (pVs 2) (paV (pVs 4) paNil))))) plNil))) (PE.l (pCB gd_fRepr (plPv (PE.l (p2vp gd_fEq (PE.l (pVv 7)) (PE.l (pCBV gd_fRepr (plV (PE.l (pVv 5)) plNil))))) plNil))))) (pB (p2pv gd_fNe (PE.l (pCBV gd_fRepr (plV (PE.l (pVs 4)) plNil))) (PE.l (pVv 7))))) (t_retL zf1 (t_ret1 pC)) (t_nxL (.cons wS (.cons wS (.cons wS (.cons wS (.cons wsu (.cons wS (.cons wS (.cons wvu (.cons wS Wk.nil))))))))))))))) (fun x91 => (t_ret1 pC)))))))))))))))))
noncomputable def GE_law_1 (x64 : D × D) : D → P (Option D) := fun x67 => (P.of ((tupO (consO some (consO some nilO))) x67)).bind fun x66 => ((((P.op (fIx x64.1 (D.int 0))).bind fun x71 => P.op (fAdd x66.1 x71)).bind fun x72 => (((P.op (fIx x64.1 (D.int 1))).bind fun x69 => P.op (fAdd x66.2.1 x69)).bind fun x70 => P.ok (x70 :: [])).bind fun x73 => P.ok (x72 :: x73)).bind P.tup).bind fun x68 => P.ok (some x68)
noncomputable def GE_law_2 (x52 : D × D) : D → D → P (Option D × D) := fun x111 x112 => (P.of (some x112)).bind fun x113 => (G__law_is_right x111 [x52.1, x113]).bind fun x114 => P.ok (some x114.1, x114.2)
noncomputable def GK_law_1 : D → D → P (Fl D (D)) := fun x44 x45 => (((((P.ok ((D.int 3), x44)).bind fun x46 => (G__law_draw x46.2 [(D.int 5)]).bind fun x47 => (P.op (fAdd x46.1 x47.1)).map fun x48 => (x48, x47.2)).bind fun x49 => (P.ok ([(D.int 5)], x49.2)).bind fun x50 => P.ok (x49.1 :: x50.1, x50.2)).bind fun x51 => G__law_crowd x51.2 x51.1).bind fun x52 => (((((G__law_draw x52.2 [(D.int 9)]).bind fun x53 => (P.ok ((D.int 4), x53.2)).bind fun x54 => (P.op (fSub x53.1 x54.1)).map fun x55 => (x55, x54.2)).bind fun x56 => (((G__law_draw x56.2 [(D.int 9)]).bind fun x57 => (P.ok ((D.int 4), x57.2)).bind fun x58 => (P.op (fSub x57.1 x58.1)).map fun x59 => (x59, x58.2)).bind fun x60 => P.ok ([x60.1], x60.2)).bind fun x61 => P.ok (x56.1 :: x61.1, x61.2)).bind fun x62 => (P.tup x62.1).map fun x63 => (x63, x62.2)).bind fun x64 => (((((((P.any x52.1).bind fun x74 => P.lc (GE_law_1 x64) x74).bind fun x75 => P.ok (x75 :: [])).map fun x76 => (x76, x64.2)).bind fun x77 => G__law_mixed x77.2 x77.1).bind fun x78 => (P.op (fTuple [x78.1])).map fun x65 => (x65, x78.2)).bind fun x79 => (((((P.ok x79.1).bind fun x82 => (P.ok none).bind fun x83 => ((P.op (fNeg (D.int 1))).bind fun x81 => (P.int x81).bind fun x80 => P.ok (some x80)).bind fun x84 => P.op (fSl x82 x83 x84)).map fun x85 => (x85, x79.2)).bind fun x86 => (((((P.ok ((D.int 19), x86.2)).bind fun x87 => ((G__law_draw x87.2 [(D.int 9)]).bind fun x88 => P.ok ([x88.1], x88.2)).bind fun x89 => P.ok (x87.1 :: x89.1, x89.2)).bind fun x90 => (P.tup x90.1).map fun x91 => (x91, x90.2)).bind fun x92 => P.ok ([x92.1], x92.2)).bind fun x93 => (P.tup x93.1).map fun x94 => (x94, x93.2)).bind fun x95 => (P.op (fAdd x86.1 x95.1)).map fun x96 => (x96, x95.2)).bind fun x97 => (((((((((P.ok (x79.1, x97.2)).bind fun x99 => ((P.ok (x97.1, x99.2)).bind fun x100 => (((((P.op (fLen [x52.1])).bind fun x101 => P.ok (x101 :: [(D.int 5)])).map fun x102 => (x102, x100.2)).bind fun x103 => G__law_crowd x103.2 x103.1).bind fun x104 => P.ok ([x104.1], x104.2)).bind fun x105 => P.ok (x100.1 :: x105.1, x105.2)).bind fun x106 => P.ok (x99.1 :: x106.1, x106.2)).bind fun x107 => (P.tup x107.1).map fun x108 => (x108, x107.2)).bind fun x109 => (P.seq x109.1).map fun x110 => (x110, x109.2)).bind fun x115 => P.lcF (GE_law_2 x52) x115.1 x115.2).bind fun x116 => (P.op (fAll [x116.1])).map fun x98 => (x98, x116.2)).bind fun x117 => (P.of (dTru x117.1)).map fun x118 => (x118, x117.2)).bind fun x119 => P.ok (!x119.1, x119.2)).bind fun x120 => if x120.1 = true then ((P.ok (D.bl false)).bind fun x121 => P.ok (Fl.rt x121)) else (P.ok (Fl.nx x120.2)))))))
noncomputable def G_law : List D → P D := f1_ fun x1 => (((P.ok [x1]).bind G__law_hand).bind fun x2 => ((((((((P.tup [(D.int 0), (D.int 0)]).bind fun x6 => ((P.tup [(D.int 1), (D.int 0)]).bind fun x4 => ((P.tup [(D.int 2), (D.int 0)]).bind fun x3 => P.ok (x3 :: [])).bind fun x5 => P.ok (x4 :: x5)).bind fun x7 => P.ok (x6 :: x7)).bind P.tup).bind fun x8 => P.ok (x8 :: [])).bind G_step_counts).bind fun x22 => (((((((P.op (fNeg (D.int 2))).bind fun x18 => P.ok (x18 :: [(D.int 0)])).bind P.tup).bind fun x19 => P.ok (x19 :: [(D.int 1)])).bind P.tup).bind fun x20 => ((((((P.op (fNeg (D.int 1))).bind fun x14 => P.ok (x14 :: [(D.int 0)])).bind P.tup).bind fun x15 => P.ok (x15 :: [(D.int 2)])).bind P.tup).bind fun x16 => ((((P.tup [(D.int 1), (D.int 0)]).bind fun x11 => P.ok (x11 :: [(D.int 2)])).bind P.tup).bind fun x12 => ((((P.tup [(D.int 2), (D.int 0)]).bind fun x9 => P.ok (x9 :: [(D.int 1)])).bind P.tup).bind fun x10 => P.ok (x10 :: [])).bind fun x13 => P.ok (x12 :: x13)).bind fun x17 => P.ok (x16 :: x17)).bind fun x21 => P.ok (x20 :: x21)).bind P.tup).bind fun x23 => P.op (fNe x22 x23)).bind P.tb).bind fun x24 => if x24 = true then (P.ok (D.bl false)) else ((((((((P.tup [(D.int 0), (D.int 0)]).bind fun x34 => ((P.tup [(D.int 1), (D.int 0)]).bind fun x32 => ((P.tup [(D.int 3), (D.int 1)]).bind fun x31 => P.ok (x31 :: [])).bind fun x33 => P.ok (x32 :: x33)).bind fun x35 => P.ok (x34 :: x35)).bind P.tup).bind fun x36 => ((((P.tup [(D.int 5), (D.int 5)]).bind fun x28 => ((P.tup [(D.int 7), (D.int 6)]).bind fun x26 => ((P.tup [(D.int 4), (D.int 5)]).bind fun x25 => P.ok (x25 :: [])).bind fun x27 => P.ok (x26 :: x27)).bind fun x29 => P.ok (x28 :: x29)).bind P.tup).bind fun x30 => P.ok (x30 :: [])).bind fun x37 => P.ok (x36 :: x37)).bind G_moved_shown).bind fun x40 => ((((P.tup [(D.int 4), (D.int 5)]).bind fun x38 => P.ok (x38 :: [])).bind fun x39 => P.ok ((D.str (Str.ofString "moved")) :: x39)).bind P.tup).bind fun x41 => P.op (fNe x40 x41)).bind P.tb).bind fun x42 => if x42 = true then (P.ok (D.bl false)) else (((P.range [(D.int 5)]).bind fun x43 => P.forJ (fun x123 x122 => (P.of (some x122)).bind fun x45 => GK_law_1 x123 x45) x2 x43).bind (P.j (fun x124 => (P.ok (D.bl true))) id)))))
theorem g_law : Call0 false F_law G_law := fnG0 (n1_ _) (fun ds hl => match ds, hl with | [x1], _ => (show T (Zf0 false) [.s x1, .u, .u, .u, .u, .u, .u, .u, .u, .u] _ ((((P.ok [x1]).bind G__law_hand).bind fun x2 => ((((((((P.tup [(D.int 0), (D.int 0)]).bind fun x6 => ((P.tup [(D.int 1), (D.int 0)]).bind fun x4 => ((P.tup [(D.int 2), (D.int 0)]).bind fun x3 => P.ok (x3 :: [])).bind fun x5 => P.ok (x4 :: x5)).bind fun x7 => P.ok (x6 :: x7)).bind P.tup).bind fun x8 => P.ok (x8 :: [])).bind G_step_counts).bind fun x22 => (((((((P.op (fNeg (D.int 2))).bind fun x18 => P.ok (x18 :: [(D.int 0)])).bind P.tup).bind fun x19 => P.ok (x19 :: [(D.int 1)])).bind P.tup).bind fun x20 => ((((((P.op (fNeg (D.int 1))).bind fun x14 => P.ok (x14 :: [(D.int 0)])).bind P.tup).bind fun x15 => P.ok (x15 :: [(D.int 2)])).bind P.tup).bind fun x16 => ((((P.tup [(D.int 1), (D.int 0)]).bind fun x11 => P.ok (x11 :: [(D.int 2)])).bind P.tup).bind fun x12 => ((((P.tup [(D.int 2), (D.int 0)]).bind fun x9 => P.ok (x9 :: [(D.int 1)])).bind P.tup).bind fun x10 => P.ok (x10 :: [])).bind fun x13 => P.ok (x12 :: x13)).bind fun x17 => P.ok (x16 :: x17)).bind fun x21 => P.ok (x20 :: x21)).bind P.tup).bind fun x23 => P.op (fNe x22 x23)).bind P.tb).bind fun x24 => if x24 = true then (P.ok (D.bl false)) else ((((((((P.tup [(D.int 0), (D.int 0)]).bind fun x34 => ((P.tup [(D.int 1), (D.int 0)]).bind fun x32 => ((P.tup [(D.int 3), (D.int 1)]).bind fun x31 => P.ok (x31 :: [])).bind fun x33 => P.ok (x32 :: x33)).bind fun x35 => P.ok (x34 :: x35)).bind P.tup).bind fun x36 => ((((P.tup [(D.int 5), (D.int 5)]).bind fun x28 => ((P.tup [(D.int 7), (D.int 6)]).bind fun x26 => ((P.tup [(D.int 4), (D.int 5)]).bind fun x25 => P.ok (x25 :: [])).bind fun x27 => P.ok (x26 :: x27)).bind fun x29 => P.ok (x28 :: x29)).bind P.tup).bind fun x30 => P.ok (x30 :: [])).bind fun x37 => P.ok (x36 :: x37)).bind G_moved_shown).bind fun x40 => ((((P.tup [(D.int 4), (D.int 5)]).bind fun x38 => P.ok (x38 :: [])).bind fun x39 => P.ok ((D.str (Str.ofString "moved")) :: x39)).bind P.tup).bind fun x41 => P.op (fNe x40 x41)).bind P.tb).bind fun x42 => if x42 = true then (P.ok (D.bl false)) else (((P.range [(D.int 5)]).bind fun x43 => P.forJ (fun x123 x122 => (P.of (some x122)).bind fun x45 => GK_law_1 x123 x45) x2 x43).bind (P.j (fun x124 => (P.ok (D.bl true))) id)))))) from (t_seq (s_setH (i := 1) g__law_hand (paV (pVs 0) paNil)) (fun x2 => (t_push (t_if (pB (p2 gd_fNe (PE.l (pCall0 g_step_counts (paPv (pTup (paCons (pTupV (paV pC (paV pC paNil))) (paCons (pTupV (paV pC (paV pC paNil))) (paPv (pTupV (paV pC (paV pC paNil))) paNil)))) paNil))) (PE.l (pTup (paCons (pTup (paPv (pTup (paPv (p1v gd_fNeg (PE.l pC)) (paV pC paNil))) (paV pC paNil))) (paCons (pTup (paPv (pTup (paPv (p1v gd_fNeg (PE.l pC)) (paV pC paNil))) (paV pC paNil))) (paCons (pTup (paPv (pTupV (paV pC (paV pC paNil))) (paV pC paNil))) (paPv (pTup (paPv (pTupV (paV pC (paV pC paNil))) (paV pC paNil))) paNil)))))))) (t_cutR (t_ret0 pC)) (t_skip (t_push (t_if (pB (p2 gd_fNe (PE.l (pCall0 g_moved_shown (paCons (pTup (paCons (pTupV (paV pC (paV pC paNil))) (paCons (pTupV (paV pC (paV pC paNil))) (paPv (pTupV (paV pC (paV pC paNil))) paNil)))) (paPv (pTup (paCons (pTupV (paV pC (paV pC paNil))) (paCons (pTupV (paV pC (paV pC paNil))) (paPv (pTupV (paV pC (paV pC paNil))) paNil)))) paNil)))) (PE.l (pTup (paVp pC (paPv (pTupV (paV pC (paV pC paNil))) paNil)))))) (t_cutR (t_ret0 pC)) (t_skip (t_sJ z_id (t_forJ (Γi := (fun (x44 : D) => [.s x1, .h x44, .u, .u, .u, .u, .u, .u, .u, .u])) (s0 := x2) (.cons wS (.cons wS (.cons wS (.cons wS (.cons wS (.cons wS (.cons wS (.cons wS (.cons wS (.cons wS Wk.nil)))))))))) (iR1V pC) (fun x44 => (tN 2)) (fun x44 x45 => (t_seq (s_setF (i := 3) (Γ := (fun (s : D) => [.s x1, .h s, .s x45, .u, .u, .u, .u, .u, .u, .u])) (s := x44) (fCall1D false (Cel.mk (get := fun s => s) (put := fun s d => d) (fun _ => rfl) (fun _ _ => rfl)) g__law_crowd (faCons (stb_h (Γ := [.s x1, .u, .s x45, .u, .u, .u, .u, .u, .u, .u]) 1).v (f2 (stb_h (Γ := [.s x1, .u, .s x45, .u, .u, .u, .u, .u, .u, .u]) 1) gd_fAdd (PQ.fV (PE.q pC)) (fun x46 => (FE.q (fCall1DV false (Cel.mk (get := fun s => s) (put := fun s d => d) (fun _ => rfl) (fun _ _ => rfl)) g__law_draw (paV pC paNil))))) (fun x49 => (PA.fV (paV pC paNil))))) (fun _ => ⟨_, rfl, trivial⟩)) (fun x52 => (t_seq (s_setF (i := 4) (Γ := (fun (s : D) => [.s x1, .h s, .s x45, .v x52.1, .u, .u, .u, .u, .u, .u])) (s := x52.2) (fTup (faCons (stb_h (Γ := [.s x1, .u, .s x45, .v x52.1, .u, .u, .u, .u, .u, .u]) 1).v (f2 (stb_h (Γ := [.s x1, .u, .s x45, .v x52.1, .u, .u, .u, .u, .u, .u]) 1) gd_fSub (FE.q (fCall1DV false (Cel.mk (get := fun s => s) (put := fun s d => d) (fun _ => rfl) (fun _ _ => rfl)) g__law_draw (paV pC paNil))) (fun x53 => (PQ.fV (PE.q pC)))) (fun x56 => (faOne (f2 (stb_h (Γ := [.s x1, .u, .s x45, .v x52.1, .u, .u, .u, .u, .u, .u]) 1) gd_fSub (FE.q (fCall1DV false (Cel.mk (get := fun s => s) (put := fun s d => d) (fun _ => rfl) (fun _ _ => rfl)) g__law_draw (paV pC paNil))) (fun x57 => (PQ.fV (PE.q pC)))))))) (fun _ => ⟨_, rfl, trivial⟩)) (fun x64 => (t_seq (s_setF (i := 5) (Γ := (fun (s : D) => [.s x1, .h s, .s x45, .v x52.1, .v x64.1, .u, .u, .u, .u, .u])) (s := x64.2) (fCB1 gd_fTuple (FE.q (fCall1D false (Cel.mk (get := fun s => s) (put := fun s d => d) (fun _ => rfl) (fun _ _ => rfl)) g__law_mixed (PA.f (paPv (PW.e (pLc (vs := [8, 9]) (ownU (ownU ownNil)) (iAnyV 3) (lb0 (tT (tsCons (tN 8) (fun _ => (tsCons (tN 9) (fun _ => tsNil))))) (fun x66 => (pTup (paCons (p2vp gd_fAdd (PE.l (pVs 8)) (PE.l (p2vv gd_fIx (PE.l (pVv 4)) (PE.l pC)))) (paPv (p2vp gd_fAdd (PE.l (pVs 9)) (PE.l (p2vv gd_fIx (PE.l (pVv 4)) (PE.l pC)))) paNil)))) (fun _ => rfl)))) paNil))))) (fun _ => ⟨_, rfl, trivial⟩)) (fun x79 => (t_seq (s_setF (i := 6) (Γ := (fun (s : D) => [.s x1, .h s, .s x45, .v x52.1, .v x64.1, .v x79.1, .u, .u, .u, .u])) (s := x79.2) (f2 (stb_h (Γ := [.s x1, .u, .s x45, .v x52.1, .v x64.1, .v x79.1, .u, .u, .u, .u]) 1) gd_fAdd (PQ.f (PE.q (pSl gd_fSl (PE.l (pVv 5)) poN (poS (p1v gd_fNeg (PE.l pC)))))) (fun x86 => (FE.q (fTup (faOne (fTup (faCons (stb_h (Γ := [.s x1, .u, .s x45, .v x52.1, .v x64.1, .v x79.1, .u, .u, .u, .u]) 1).v (PE.fV pC) (fun x87 => (faOne (fCall1DV false (Cel.mk (get := fun s => s) (put := fun s d => d) (fun _ => rfl) (fun _ _ => rfl)) g__law_draw (paV pC paNil))))))))))) (fun _ => ⟨_, rfl, trivial⟩)) (fun x97 => (t_ifF (Γ := (fun (s : D) => [.s x1, .h s, .s x45, .v x52.1, .v x64.1, .v x79.1, .v x97.1, .u, .u, .u])) (s := x97.2) (fNot (fTru (FE.q (fCB1 gd_fAll (FE.q (FW.e (fLc (vs := [7]) (fun _ => (ownU ownNil)) (hoCons hoNil) (iSeqF (fTup (faCons (stb_h (Γ := [.s x1, .u, .s x45, .v x52.1, .v x64.1, .v x79.1, .v x97.1, .u, .u, .u]) 1).v (PE.fV (pVv 5)) (fun x99 => (faCons (stb_h (Γ := [.s x1, .u, .s x45, .v x52.1, .v x64.1, .v x79.1, .v x97.1, .u, .u, .u]) 1).v (PE.fV (pVv 6)) (fun x100 => (faOne (fCall1D false (Cel.mk (get := fun s => s) (put := fun s d => d) (fun _ => rfl) (fun _ _ => rfl)) g__law_crowd (PA.f (paPv (pCBV gd_fLen (plV (PE.l (pVv 3)) plNil)) (paV pC paNil))))))))))) (lbF0 (fun _ => (tN 7)) (fun x111 x113 => (fCall1DV false (Cel.mk (get := fun s => s) (put := fun s d => d) (fun _ => rfl) (fun _ _ => rfl)) g__law_is_right (paV (pVv 3) (paV (pVs 7) paNil)))) (fun _ _ => rfl))))))))) (fun x120 => (t_retL zf0 (t_ret0 pC))) (fun x120 => (t_nxL (.cons wS (.cons wS (.cons wsu (.cons wvu (.cons wvu (.cons wvu (.cons wvu (.cons wS (.cons wS (.cons wS Wk.nil))))))))))))))))))))))) (fun x124 => (t_ret0 pC)))))))))))))
end
end Lw
namespace Lw
open PySem PySem.Spec PyProof.Rows L2 VS
/-! crowds as the modules take them -/
def crowdD (c : List (Int × Int)) : D := .tup (c.map dPair)
def near (p : Int × Int) : Prop := (-10000 ≤ p.1 ∧ p.1 ≤ 10000) ∧ -10000 ≤ p.2 ∧ p.2 ≤ 10000
structure Crowd (c : List (Int × Int)) : Prop where
  lo : 3 ≤ c.length
  hi : c.length ≤ 12
  nr : ∀ p ∈ c, near p
  nd : c.Nodup
theorem is_integer_int (i : Int) : G_is_integer [.int i] = .ok (.bl true) := by simp [G_is_integer]
theorem is_within_ok {i lo hi : Int} (h : lo ≤ i ∧ i ≤ hi) : G_is_within [.int i, .int lo, .int hi] = .ok (.bl true) := by
  simp [G_is_within, is_integer_int, h.1, h.2]
theorem is_dot_ok {p : Int × Int} (h : near p) : G_is_dot [dPair p] = .ok (.bl true) := by
  obtain ⟨a, b⟩ := h
  have e : P.lc GE_is_dot_1 [D.int p.1, D.int p.2] = .ok (.lst ([p.1, p.2].map fun _ => D.bl true)) := lc_map (xs := [p.1, p.2]) D.int (fun _ => .bl true) (fun x m => by
    simp at m
    rcases m with rfl | rfl
    · simp [GE_is_dot_1, is_within_ok a]
    · simp [GE_is_dot_1, is_within_ok b]) (by simp)
  simp [G_is_dot, dPair, e, oq_all_true [p.1, p.2], -List.map_cons]
theorem kk_dot (p : Int × Int) : keyT (dPair p) = some [.inl p.1, .inl p.2] := rfl
/-- a dict of new keys -/
theorem dc_dots {φ : D → P (Option (D × D))} {v : D} : ∀ (c : List (Int × Int)) (acc : List (Int × Int)), (∀ p ∈ c, φ (dPair p) = .ok (some (dPair p, v))) → (acc ++ c).Nodup → acc.length + c.length ≤ 1000000 → P.dcL true φ (c.map dPair) (acc.map fun p => (dPair p, v)) = .ok ((acc ++ c).map fun p => (dPair p, v))
  | [], acc, _, _, _ => by rw [List.map_nil, P.dcL, List.append_nil]
  | p :: c, acc, h, nd, l => by
    rw [List.length_cons] at l
    rw [List.map_cons, P.dcL, h p List.mem_cons_self]
    simp only
    rw [if_pos (by rw [List.length_map]; omega)]
    have hp : ∀ q ∈ acc, q ≠ p := fun q hq e => by
      subst e
      have := List.nodup_append.mp nd
      exact this.2.2 q hq q List.mem_cons_self rfl
    have : putD2 true (acc.map fun p => (dPair p, v)) (dPair p) v = some ((acc ++ [p]).map fun p => (dPair p, v)) := by
      simp only [putD2, kk_dot, Option.map_some]
      unfold putL
      rw [if_neg]
      · rw [List.map_append]; rfl
      · rw [List.any_map, Bool.not_eq_true, List.any_eq_false]
        intro q hq
        have ne := hp q hq
        simp only [Function.comp]
        rw [kk_dot]
        simp
        intro e1 e2
        exact ne (Prod.ext e1 e2)
    rw [this]
    simp only
    rw [dc_dots c (acc ++ [p]) (fun q m => h q (List.mem_cons_of_mem _ m)) (by rw [List.append_assoc]; exact nd) (by rw [List.length_append, List.length_singleton]; omega), List.append_assoc]
    rfl
theorem is_crowd_ok {c : List (Int × Int)} (h : Crowd c) : G_is_crowd [crowdD c] = .ok (.bl true) := by
  have lo := h.lo
  have hi := h.hi
  have e1 : P.lc GE_is_crowd_1 (c.map dPair) = .ok (.lst (c.map fun _ => D.bl true)) := lc_map dPair (fun _ => .bl true) (fun x m => by simp [GE_is_crowd_1, is_dot_ok (h.nr x m)]) (by omega)
  have e2 := dc_dots (φ := GE_is_crowd_2) (v := .bl true) c [] (fun p m => by simp [GE_is_crowd_2]) (by simpa using h.nd) (by simp; omega)
  rw [List.nil_append, List.map_nil] at e2
  have l1 : (3 : Int) ≤ (c.length : Int) := by omega
  have l2 : (c.length : Int) ≤ 12 := by omega
  simp [G_is_crowd, crowdD, e1, e2, P.dc, oq_all_true c, l1, l2, lo, hi, -List.map_map]
theorem check_crowd_ok {c : List (Int × Int)} (h : Crowd c) : G_check_crowd [crowdD c] = .ok .non := by
  simp [G_check_crowd, is_crowd_ok h]
end Lw

namespace Lw
open PySem PySem.Spec PyProof.Rows L2 VS
/-! the hand: a list of five, drawn from -/
def handD (cells : List Int) (p r n k : Int) : D := .lst [.lst (cells.map .int), .int p, .int r, .int n, .int k]
def Hand (h : D) : Prop := ∃ (cells : List Int) (p : Nat) (r n k : Int), h = handD cells p r n k ∧ 0 ≤ r
theorem small_mod (a b : Int) (h : 0 < b ∧ b ≤ 1000000000000000000) : -1000000000000000000 ≤ a % b ∧ a % b ≤ 1000000000000000000 := by
  have := Int.emod_nonneg a (show b ≠ 0 by omega)
  have := Int.emod_lt_of_pos a h.1
  omega
theorem st5_0 (a b c d e v : D) : stD (.lst [a, b, c, d, e]) (.int 0) v = some (.lst [v, b, c, d, e]) := rfl
theorem st5_1 (a b c d e v : D) : stD (.lst [a, b, c, d, e]) (.int 1) v = some (.lst [a, v, c, d, e]) := rfl
theorem st5_2 (a b c d e v : D) : stD (.lst [a, b, c, d, e]) (.int 2) v = some (.lst [a, b, v, d, e]) := rfl
theorem st5_3 (a b c d e v : D) : stD (.lst [a, b, c, d, e]) (.int 3) v = some (.lst [a, b, c, v, e]) := rfl
theorem st5_4 (a b c d e v : D) : stD (.lst [a, b, c, d, e]) (.int 4) v = some (.lst [a, b, c, d, v]) := rfl
theorem oq_pow18 : P.op (fPow (.int 10) (.int 18)) = .ok (.int 1000000000000000000) := by
  rw [oq_pow (by omega)]; rfl
/-- the number that is drawn where the hand has none -/
def num1 (n k : Int) : Int := (n + 7919 * k) * 48271 % 2147483647
def num2 (m : Int) : Int := m * (m / 1009 + 69621) % 2147483647
def num3 (m : Int) : Int := m * (m / 2003 + 40014) % 2147483563 / 16
def nextN (n cell : Int) : Int := (n * 69621 + cell * 40692 + 31) % 2147483629
theorem num1_s (n k : Int) : -1000000000000000000 ≤ num1 n k ∧ num1 n k ≤ 1000000000000000000 := small_mod _ 2147483647 (by decide)
theorem num2_s (m : Int) : -1000000000000000000 ≤ num2 m ∧ num2 m ≤ 1000000000000000000 := small_mod _ 2147483647 (by decide)
def numOf (n k : Int) : Int := num3 (num2 (num1 n k))
theorem draw_rest {cells : List Int} {p r n k b : Int} (hb : 0 < b ∧ b ≤ 1000000000) (hr : 0 < r) : G__law_draw (handD cells p r n k) [.int b] = .ok (.int (r % b), handD cells p (r / b) n k) := by
  have b1 := hb.1
  have z : ¬ r = 0 := by omega
  simp [G__law_draw, H__law_draw, handD, z, hr, oq_mod b1, oq_div hb, st5_2]
theorem draw_num {cells : List Int} {p n k b : Int} (hb : 0 < b) (hc : ¬ p < (cells.length : Int)) : G__law_draw (handD cells p 0 n k) [.int b] = .ok (.int (numOf n (k + 1) % b), handD cells p 0 n (k + 1)) := by
  have s1 := num1_s n (k + 1)
  have s2 := num2_s (num1 n (k + 1))
  unfold num2 at s2
  unfold num1 at s1 s2
  unfold numOf num3 num2 num1
  simp [G__law_draw, H__law_draw, handD, hc, oq_mul (i := 7919), oq_mul' (j := 48271), oq_mod (j := 2147483647), oq_mod (j := 2147483563), oq_div (j := 1009), oq_div (j := 2003), oq_div (j := 16), oq_mul s1, oq_mul s2, oq_mod hb, st5_4]
theorem draw_small {cells : List Int} {p : Nat} {n k b : Int} (hb : 0 < b) (hp : p < cells.length) (hs : dec (1000000000000000000 ≤ cells[p]) = false) : G__law_draw (handD cells p 0 n k) [.int b] = .ok (.int (numOf (nextN n cells[p]) (k + 1) % b), handD cells (p + 1) 0 (nextN n cells[p]) (k + 1)) := by
  have hp' : (p : Int) < (cells.length : Int) := by omega
  have hc : P.op (fIx (.lst (cells.map .int)) (.int (p : Int))) = .ok (.int cells[p]) := ix_lst_map hp
  have s1 := num1_s (nextN n cells[p]) (k + 1)
  have s2 := num2_s (num1 (nextN n cells[p]) (k + 1))
  unfold num2 at s2
  unfold num1 nextN at s1 s2
  unfold numOf num3 num2 num1 nextN
  simp [G__law_draw, H__law_draw, handD, hp', hp, hs, hc, oq_pow18, oq_mul (i := 7919), oq_mul' (j := 48271), oq_mul' (j := 69621), oq_mul' (j := 40692), oq_mod (j := 2147483629), oq_mod (j := 2147483647), oq_mod (j := 2147483563), oq_div (j := 1009), oq_div (j := 2003), oq_div (j := 16), oq_mul s1, oq_mul s2, oq_mod hb, st5_1, st5_3, st5_4, -dec_iff']
theorem draw_big {cells : List Int} {p : Nat} {n k b : Int} (hb : 0 < b ∧ b ≤ 1000000000) (hp : p < cells.length) (hs : dec (1000000000000000000 ≤ cells[p]) = true) (g : 0 < cells[p]) : G__law_draw (handD cells p 0 n k) [.int b] = .ok (.int (cells[p] % b), handD cells (p + 1) (cells[p] / b) (nextN n cells[p]) k) := by
  have hp' : (p : Int) < (cells.length : Int) := by omega
  have hc : P.op (fIx (.lst (cells.map .int)) (.int (p : Int))) = .ok (.int cells[p]) := ix_lst_map hp
  have b1 := hb.1
  unfold nextN
  simp [G__law_draw, H__law_draw, handD, hp', hp, hs, hc, g, oq_pow18, oq_mul' (j := 69621), oq_mul' (j := 40692), oq_mod (j := 2147483629), oq_mod b1, oq_div hb, st5_1, st5_2, st5_3]
theorem draw_ok {h : D} {b : Int} (H : Hand h) (hb : 0 < b ∧ b ≤ 1000000000) : ∃ (d : Int) (h' : D), G__law_draw h [.int b] = .ok (.int d, h') ∧ Hand h' ∧ 0 ≤ d ∧ d < b := by
  obtain ⟨cells, p, r, n, k, rfl, r0⟩ := H
  have m : ∀ x : Int, 0 ≤ x % b ∧ x % b < b := fun x => ⟨Int.emod_nonneg x (by omega), Int.emod_lt_of_pos x hb.1⟩
  by_cases hr : 0 < r
  · exact ⟨_, _, draw_rest hb hr, ⟨cells, p, _, n, k, rfl, Int.ediv_nonneg r0 (by omega)⟩, m _⟩
  · have : r = 0 := by omega
    subst this
    by_cases hp : p < cells.length
    · by_cases hs : 1000000000000000000 ≤ cells[p]
      · exact ⟨_, _, draw_big hb hp (dec_true hs) (by omega), ⟨cells, p + 1, _, _, k, rfl, Int.ediv_nonneg (by omega) (by omega)⟩, m _⟩
      · exact ⟨_, _, draw_small hb.1 hp (dec_false hs), ⟨cells, p + 1, _, _, _, rfl, by omega⟩, m _⟩
    · exact ⟨_, _, draw_num hb.1 (by omega), ⟨cells, p, _, _, _, rfl, by omega⟩, m _⟩
theorem law_hand_ok {ns : List Int} (hl : ns.length ≤ 63) : ∃ h, G__law_hand [.fl (ns.map .int)] = .ok h ∧ Hand h := by
  have e : P.lc GE__law_hand_1 (ns.map .int) = .ok (.lst (ns.map fun i => .int (if i < 0 then -i else i))) := lc_map D.int _ (fun i _ => by simp [GE__law_hand_1]) (by omega)
  have sl := sl_fl_63 (ns.map .int) (by simpa using hl)
  have l : ∃ z : Int, G__law_hand [.fl (ns.map .int)] = .ok (handD (ns.map fun i => if i < 0 then -i else i) (0 : Nat) 0 z 0) := by
    refine ⟨4963 + 7 * (ns.length : Int), ?_⟩
    simp [G__law_hand, sl, e, oq_mul (i := 7), handD, Function.comp_def]
  obtain ⟨z, l⟩ := l
  exact ⟨_, l, ⟨_, 0, 0, z, 0, rfl, by omega⟩⟩
theorem any_ok {h : D} {xs : List D} (H : Hand h) (h0 : xs ≠ []) (hl : xs.length ≤ 1000000) : ∃ (x : D) (h' : D), G__law_any h [.lst xs] = .ok (x, h') ∧ Hand h' ∧ x ∈ xs := by
  have hp := List.length_pos_iff.mpr h0
  obtain ⟨d, h', e, H', d0, d1⟩ := draw_ok H (b := xs.length) (by omega)
  obtain ⟨i, rfl⟩ : ∃ i : Nat, d = i := ⟨d.toNat, by omega⟩
  have hi : i < xs.length := by omega
  exact ⟨xs[i], h', by simp [G__law_any, H__law_any, e, ix_lst (List.getElem?_eq_getElem hi)], H', List.getElem_mem hi⟩
theorem perm_erase {α : Type} : ∀ {xs : List α} {i : Nat} (h : i < xs.length), (xs[i] :: xs.eraseIdx i).Perm xs
  | [], i, h => by simp at h
  | x :: xs, 0, _ => List.Perm.refl _
  | x :: xs, i + 1, h => by
    rw [List.getElem_cons_succ, List.eraseIdx_cons_succ]
    exact (List.Perm.swap _ _ _).trans ((perm_erase (by simpa using h)).cons x)
theorem mut_pop {xs : List D} {i : Nat} (h : i < xs.length) (hl : xs.length ≤ 1000000) : P.mut fPopAt (.lst xs) [.int (i : Int)] = .ok (xs[i], .lst (xs.eraseIdx i)) := by
  unfold P.mut
  simp only [fPopAt_ok (List.getElem?_eq_getElem h) hl]
theorem mut_append {xs : List D} {d : D} (hl : xs.length < 1000000) : P.mut fAppend (.lst xs) [d] = .ok (.non, .lst (xs ++ [d])) := by
  unfold P.mut
  simp only [fAppend_ok hl]
theorem mut_extend {xs ys : List D} (hl : xs.length + ys.length ≤ 1000000) : P.mut fExtend (.lst xs) [.lst ys] = .ok (.non, .lst (xs ++ ys)) := by
  unfold P.mut fExtend
  simp only [if_pos hl]
/-- things mixed: the same things -/
theorem mixed_ok {h : D} {xs : List D} {q : D} (H : Hand h) (hq : q = .lst xs ∨ q = .tup xs) (hl : xs.length ≤ 100000) : ∃ (ys : List D) (h' : D), G__law_mixed h [q] = .ok (.lst ys, h') ∧ Hand h' ∧ ys.Perm xs := by
  obtain ⟨s', mm, e1, ⟨h', left, found, H', rfl, hp, hm⟩, e2⟩ := while_inv (c := GT__law_mixed_1) (φ := GK__law_mixed_1) (fun m s => ∃ h left found, Hand h ∧ s = (h, .lst left, .lst found) ∧ (found ++ left).Perm xs ∧ left.length = m) (fun m s i => by
    obtain ⟨h, left, found, H, rfl, hp, rfl⟩ := i
    have hlen := hp.length_eq
    rw [List.length_append] at hlen
    by_cases c : 0 < left.length
    · left
      obtain ⟨d, h', e, H', d0, d1⟩ := draw_ok H (b := left.length) (by omega)
      obtain ⟨i, rfl⟩ : ∃ i : Nat, d = i := ⟨d.toNat, by omega⟩
      have hi : i < left.length := by omega
      refine ⟨by simp [GT__law_mixed_1, c], (h', .lst (left.eraseIdx i), .lst (found ++ [left[i]])), (left.eraseIdx i).length, ?_, ?_, h', left.eraseIdx i, found ++ [left[i]], H', rfl, ?_, rfl⟩
      · simp [GK__law_mixed_1, e, mut_pop hi (by omega), mut_append (xs := found) (by omega)]
      · rw [List.length_eraseIdx_of_lt hi]; omega
      · refine List.Perm.trans ?_ hp
        rw [List.append_assoc]
        exact List.Perm.append_left _ (perm_erase hi)
    · right
      simp [GT__law_mixed_1, c]) 1000000000 xs.length (h, .lst xs, .lst []) ⟨h, xs, [], H, rfl, List.Perm.refl _, rfl⟩ (by omega)
  have z : left = [] := by
    simp [GT__law_mixed_1] at e2
    exact e2
  subst z
  rw [List.append_nil] at hp
  refine ⟨found, h', ?_, H', hp⟩
  rcases hq with rfl | rfl <;> simp [G__law_mixed, H__law_mixed, e1]
end Lw

namespace Lw
open PySem PySem.Spec PyProof.Rows L2 VS
/-! drawn crowds, deep things, bent things -/
theorem perm_map_inv {α β : Type} {f : α → β} {l1 l2 : List β} (h : l1.Perm l2) : ∀ xs : List α, l2 = xs.map f → ∃ zs : List α, zs.Perm xs ∧ l1 = zs.map f := by
  induction h with
  | nil => intro xs e; cases xs with
    | nil => exact ⟨[], .refl _, rfl⟩
    | cons _ _ => cases e
  | cons x p ih => intro xs e; cases xs with
    | nil => cases e
    | cons a xs =>
      rw [List.map_cons] at e
      injection e with e1 e2
      obtain ⟨zs, h1, h2⟩ := ih xs e2
      exact ⟨a :: zs, h1.cons a, by rw [List.map_cons, e1, h2]⟩
  | swap x y l => intro xs e; match xs, e with
    | [], e => cases e
    | [_], e => cases e
    | a :: b :: xs, e =>
      rw [List.map_cons, List.map_cons] at e
      injection e with e1 e2
      injection e2 with e2 e3
      exact ⟨b :: a :: xs, .swap a b xs, by rw [List.map_cons, List.map_cons, e1, e2, e3]⟩
  | trans p q ih1 ih2 =>
    intro xs e
    obtain ⟨zs, h1, h2⟩ := ih2 xs e
    obtain ⟨ws, h3, h4⟩ := ih1 zs h2
    exact ⟨ws, h3.trans h1, h4⟩
def gridRow (n : Nat) (x : Nat) : List (Int × Int) := (List.range n).map fun y : Nat => ((x : Int) - (n : Int) / 2, (y : Int) - (n : Int) / 2)
def grid (n : Nat) : List (Int × Int) := (List.range n).flatMap (gridRow n)
theorem range_nat (n : Nat) (h : n ≤ 1000000) : P.range [.int (n : Int)] = .ok ((List.range n).map fun i : Nat => D.int (i : Int)) := by
  rw [range1 (by omega)]
  unfold intsD
  rw [Int.toNat_natCast]
  simp
theorem flat_len {α β : Type} (f : α → List β) (k : Nat) : ∀ xs : List α, (∀ x ∈ xs, (f x).length = k) → (xs.flatMap f).length = xs.length * k
  | [], _ => by simp
  | x :: xs, h => by rw [List.flatMap_cons, List.length_append, h x List.mem_cons_self, flat_len f k xs fun y m => h y (List.mem_cons_of_mem _ m), List.length_cons, Nat.succ_mul]; omega
theorem row_len (n x : Nat) : (gridRow n x).length = n := by unfold gridRow; rw [List.length_map, List.length_range]
theorem grid_row {n x : Nat} (hn : n ≤ 100) : P.lc (GE__law_crowd_1 (.int n) (.int x)) ((List.range n).map fun i : Nat => D.int (i : Int)) = .ok (.lst ((gridRow n x).map dPair)) := by
  have := lc_map (φ := GE__law_crowd_1 (.int n) (.int x)) (fun i : Nat => D.int (i : Int)) (fun y : Nat => dPair ((x : Int) - (n : Int) / 2, (y : Int) - (n : Int) / 2)) (xs := List.range n) (fun y m => by
    simp [GE__law_crowd_1, oq_div (j := 2), dPair]) (by rw [List.length_range]; omega)
  rw [this]
  unfold gridRow
  rw [List.map_map]; rfl
theorem grid_ok {n : Nat} (hn : n ≤ 100) : P.for (fun x22 x21 => GK__law_crowd_1 (.int n) x22 x21) (.lst []) ((List.range n).map fun i : Nat => D.int (i : Int)) = .ok (.lst ((grid n).map dPair)) := by
  obtain ⟨s', h1, h2⟩ := for_invE (φ := fun x22 x21 => GK__law_crowd_1 (.int n) x22 x21) (fun i : Nat => D.int (i : Int)) (fun s dn _ => s = .lst ((dn.flatMap (gridRow n)).map dPair)) (List.range n) (fun s dn x rs e i => by
    subst i
    have l : (dn.flatMap (gridRow n)).length = dn.length * n := flat_len _ n _ fun x _ => row_len n x
    have l2 : dn.length + 1 ≤ n := by
      have := congrArg List.length e
      rw [List.length_range, List.length_append, List.length_cons] at this
      omega
    have l3 : dn.length * n ≤ 100 * 100 := Nat.mul_le_mul (by omega) hn
    refine ⟨_, ?_, rfl⟩
    simp only [GK__law_crowd_1, P.ok_bind, P.isl_lst, range_nat n (by omega), grid_row hn]
    rw [mut_extend (by rw [List.length_map, List.length_map, row_len, l]; omega), P.ok_bind, List.flatMap_append, List.map_append, List.flatMap_cons, List.flatMap_nil, List.append_nil]) (s := .lst []) rfl
  rw [h1, h2]; rfl
theorem grid_mem {n : Nat} {p : Int × Int} (h : p ∈ grid n) : (-((n : Int) / 2) ≤ p.1 ∧ p.1 < n - (n : Int) / 2) ∧ -((n : Int) / 2) ≤ p.2 ∧ p.2 < n - (n : Int) / 2 := by
  unfold grid gridRow at h
  obtain ⟨x, hx, h⟩ := List.mem_flatMap.mp h
  obtain ⟨y, hy, rfl⟩ := List.mem_map.mp h
  have := List.mem_range.mp hx
  have := List.mem_range.mp hy
  simp only
  omega
theorem grid_nd (n : Nat) : (grid n).Nodup := by
  unfold grid
  refine List.nodup_iff_pairwise_ne.mpr (List.pairwise_flatMap.mpr ⟨fun x _ => ?_, ?_⟩)
  · unfold gridRow
    refine List.pairwise_map.mpr ?_
    exact (List.pairwise_lt_range (n := n)).imp fun h e => by injection e with _ e; omega
  · refine (List.pairwise_lt_range (n := n)).imp fun h p hp q hq e => ?_
    unfold gridRow at hp hq
    obtain ⟨y, _, rfl⟩ := List.mem_map.mp hp
    obtain ⟨z, _, rfl⟩ := List.mem_map.mp hq
    injection e with e _
    omega
theorem grid_len (n : Nat) : (grid n).length = n * n := by
  unfold grid
  rw [flat_len _ n _ fun x _ => row_len n x, List.length_range]
theorem crowd_ok {h : D} {many n : Nat} (H : Hand h) (hn : n ≤ 100) (hm : many ≤ n * n) : ∃ (c : List (Int × Int)) (h' : D), G__law_crowd h [.int many, .int n] = .ok (crowdD c, h') ∧ Hand h' ∧ c.length = many ∧ c.Nodup ∧ ∀ p ∈ c, p ∈ grid n := by
  have l3 : n * n ≤ 100 * 100 := Nat.mul_le_mul hn hn
  obtain ⟨ys, h', e, H', hp⟩ := mixed_ok (xs := (grid n).map dPair) H (.inl rfl) (by rw [List.length_map, grid_len]; omega)
  obtain ⟨zs, hz, rfl⟩ := perm_map_inv hp (grid n) rfl
  have zl : zs.length = n * n := by rw [hz.length_eq, grid_len]
  refine ⟨zs.take many, h', ?_, H', by rw [List.length_take]; omega, (hz.nodup_iff.mpr (grid_nd n)).sublist (List.take_sublist _ _), fun p m => hz.mem_iff.mp (List.mem_of_mem_take m)⟩
  simp [G__law_crowd, H__law_crowd, range_nat n (by omega), grid_ok hn, e, sl_lst_take, crowdD]
/-- nothing within lists and tuples -/
theorem deep_ok {h : D} (H : Hand h) : ∃ (d : D) (h' : D), G__law_deep h [] = .ok (d, h') ∧ Hand h' ∧ Tb 40 40 0 d := by
  obtain ⟨k, h1, e1, H1, k0, k1⟩ := draw_ok H (b := 40) (by omega)
  obtain ⟨m, rfl⟩ : ∃ m : Nat, k = m := ⟨k.toNat, by omega⟩
  obtain ⟨s', e2, h2, d, j, rfl, H2, hd, hj⟩ := for_inv (φ := fun x21 x20 => GK__law_deep_1 x21 x20) (fun s rs => ∃ h d j, s = (h, d) ∧ Hand h ∧ Tb j j 0 d ∧ j + rs.length = m + 1) (fun s d ds i => by
    obtain ⟨h, t, j, rfl, H, ht, hj⟩ := i
    rw [List.length_cons] at hj
    obtain ⟨b, h', e, H', b0, b1⟩ := draw_ok H (b := 2) (by omega)
    have ht1 : Tbs j (j + 1 + 0) 0 [t] := tbs_cons ht tbs_nil
    by_cases z : b = 0
    · subst z
      exact ⟨(h', .tup [t]), by simp [GK__law_deep_1, e], h', .tup [t], j + 1, rfl, H', tb_tup ht1, by omega⟩
    · exact ⟨(h', .lst [t]), by simp [GK__law_deep_1, e, z], h', .lst [t], j + 1, rfl, H', tb_lst ht1, by omega⟩) ((List.range (m + 1)).map fun i : Nat => D.int (i : Int)) (h1, .non) ⟨h1, .non, 0, rfl, H1, tb_non, by simp⟩
  have rg : P.range [.int (1 + (m : Int))] = .ok ((List.range (m + 1)).map fun i : Nat => D.int (i : Int)) := by
    have := range_nat (m + 1) (by omega)
    rwa [show ((m + 1 : Nat) : Int) = 1 + (m : Int) by omega] at this
  refine ⟨d, h2, ?_, H2, hd.mono (by simp at hj; omega) (by simp at hj; omega) (Nat.le_refl _)⟩
  simp [G__law_deep, H__law_deep, e1, rg, e2]
def bentD : List D := [.non, .int 0, .int 1, .int 5, .int (-1), .bl true, .tup [], .tup [.int 0], .tup [.int 1], .tup [.int 0, .int 1], .lst [], .dct false [], .str (Str.ofString "x"), .str (Str.ofString "apart")]
theorem bent_some : ∀ d ∈ bentD, Tb 1 410 5 d := by
  intro d m
  simp [bentD] at m
  rcases m with rfl | rfl | rfl | rfl | rfl | rfl | rfl | rfl | rfl | rfl | rfl | rfl | rfl | rfl
  · exact (tb_non (B := 5)).mono (by decide) (by decide) (Nat.le_refl _)
  · exact (tb_int (B := 5) (by decide) (by decide)).mono (by decide) (by decide) (by decide)
  · exact (tb_int (B := 5) (by decide) (by decide)).mono (by decide) (by decide) (by decide)
  · exact (tb_int (B := 5) (by decide) (by decide)).mono (by decide) (by decide) (by decide)
  · exact (tb_int (B := 5) (by decide) (by decide)).mono (by decide) (by decide) (by decide)
  · exact (tb_bl true).mono (by decide) (by decide) (Nat.le_refl _)
  · exact (tb_tup tbs_nil (n := 0)).mono (by decide) (by decide) (Nat.le_refl _)
  · exact (tb_tup (tbs_cons (tb_int (B := 5) (by decide) (by decide)) tbs_nil)).mono (by decide) (by decide) (by decide)
  · exact (tb_tup (tbs_cons (tb_int (B := 5) (by decide) (by decide)) tbs_nil)).mono (by decide) (by decide) (by decide)
  · exact (tb_tup (tbs_cons (tb_int (B := 5) (by decide) (by decide)) (tbs_cons (tb_int (B := 5) (by decide) (by decide)) tbs_nil))).mono (by decide) (by decide) (by decide)
  · exact (tb_lst tbs_nil (n := 0)).mono (by decide) (by decide) (Nat.le_refl _)
  · exact tb_dct.mono (by decide) (by decide) (Nat.le_refl _)
  · exact (tb_str (B := 5) (x := Str.ofString "x") (by decide) (by decide)).mono (by decide) (by decide) (by decide)
  · exact (tb_str (B := 5) (x := Str.ofString "apart") (by decide) (by decide)).mono (by decide) (by decide) (by decide)
theorem is_int_ok {d : D} (h : d.cl = true) : G__law_is_int [d] = .ok (.bl (d.isInt && !d.isBl)) := by
  simp [G__law_is_int, isi_int h, isi_bool h]
  cases d.isInt <;> simp
theorem int_of {d : D} (h1 : d.isInt = true) (h2 : d.isBl = false) : ∃ i, d = .int i := by
  cases d <;> simp [D.isInt, D.isBl] at h1 h2
  exact ⟨_, rfl⟩
/-- what is given where nothing goes further in -/
theorem bent_leaf {rg : D → List D → P (D × D)} {h thing : D} {deep : Int} {n w B : Nat} (H : Hand h) (T : Tb n w B thing) (hB : 5 ≤ B ∧ B < 1000000000000000000) (hx : thing.isTup = false ∨ thing = .tup [] ∨ deep = 0) : ∃ d h', (H__law_bent rg h [thing, .int deep]).nox = .ok (d, h') ∧ Hand h' ∧ Tb 1 410 (B + 1) d := by
  have c : ∃ v, (((((P.op (fIsi [thing, (D.op (.ty "tuple"))])).bind fun x4 => P.of (dTru x4)).bind fun x5 => P.ok !x5).bind fun x8 => if x8 = true then P.ok true else ((((P.op (fLen [thing])).bind fun x6 => P.op (fEq x6 (D.int 0))).bind P.tb).bind fun x7 => if x7 = true then P.ok true else ((P.op (fEq (.int deep) (D.int 0))).bind P.tb)))) = .ok v ∧ v = true := by
    refine ⟨_, ?_, rfl⟩
    by_cases t : thing.isTup = true
    · obtain ⟨xs, rfl⟩ : ∃ xs, thing = .tup xs := by cases thing <;> simp [D.isTup] at t; exact ⟨_, rfl⟩
      rcases hx with hx | hx | hx
      · simp [D.isTup] at hx
      · injection hx with hx; subst hx; simp
      · subst hx; simp
    · simp [isi_tup T.cl, t]
  obtain ⟨v, c, rfl⟩ := c
  have b0 : ∃ q h1, (((G__law_is_int [thing]).bind fun x10 => P.of (dTru x10)).map fun x11 => (x11, h)).bind (fun x12 => if x12.1 = true then (((G__law_draw x12.2 [(D.int 3)]).bind fun x13 => (P.ok ((D.int 0), x13.2)).bind fun x14 => (P.op (fGt x13.1 x14.1)).map fun x15 => (x15, x14.2)).bind fun x16 => (P.tb x16.1).map fun x17 => (x17, x16.2)) else P.ok (false, x12.2)) = .ok (q, h1) ∧ Hand h1 ∧ (q = true → ∃ i, thing = .int i) := by
    rw [is_int_ok T.cl]
    by_cases t : (thing.isInt && !thing.isBl) = true
    · obtain ⟨b, h', e, H', b0, b1⟩ := draw_ok H (b := 3) (by omega)
      refine ⟨dec (0 < b), h', by simp [t, e], H', fun _ => ?_⟩
      rw [Bool.and_eq_true] at t
      exact int_of t.1 (by simpa using t.2)
    · exact ⟨false, h, by simp [t], H, fun z => by cases z⟩
  obtain ⟨q, h1, b1, H1, hi⟩ := b0
  unfold H__law_bent
  rw [f2_e, c, P.ok_bind, if_pos rfl]
  rw [b1, P.ok_bind]
  cases q with
  | true =>
    obtain ⟨i, rfl⟩ := hi rfl
    obtain ⟨x, h2, e2, H2, m⟩ := any_ok (xs := [.int 1, .int (-1)]) H1 (by simp) (by simp)
    have hib := T.ib
    rw [D.ib] at hib
    simp at m
    rcases m with rfl | rfl
    · exact ⟨.int (i + 1), h2, by simp [e2], H2, (tb_int (B := B + 1) (by omega) (by omega)).mono (by omega) (by omega) (Nat.le_refl _)⟩
    · exact ⟨.int (i + -1), h2, by simp [e2], H2, (tb_int (B := B + 1) (by omega) (by omega)).mono (by omega) (by omega) (Nat.le_refl _)⟩
  | false =>
    obtain ⟨x, h2, e2, H2, m⟩ := any_ok (xs := bentD) H1 (by simp [bentD]) (by simp [bentD])
    refine ⟨x, h2, ?_, H2, (bent_some x m).mono (by omega) (by omega) (by omega)⟩
    have el : P.lst bentD = .ok (.lst bentD) := P.lst_ok (by decide)
    unfold bentD at el e2
    simp [el, e2]
theorem bent_ok : ∀ (N : Nat) {h thing : D} {deep : Nat} {n w B : Nat}, deep < N → Hand h → Tb n w B thing → (5 ≤ B ∧ B + deep < 1000000000000000000) → w ≤ 100000 → ∃ d h', G__law_bent N h [thing, .int deep] = .ok (d, h') ∧ Hand h' ∧ Tb (n + 1) ((deep + 1) * (w + 410) + w + 2) (B + 1) d
  | 0, _, _, _, _, _, _, l, _, _, _, _ => by omega
  | N + 1, h, thing, deep, n, w, B, l, H, T, hB, hw => by
    show ∃ d h', (H__law_bent (G__law_bent N) h [thing, .int deep]).nox = .ok (d, h') ∧ _
    have big : 410 ≤ (deep + 1) * (w + 410) := by
      have : 1 * 410 ≤ (deep + 1) * (w + 410) := Nat.mul_le_mul (by omega) (by omega)
      omega
    by_cases hx : thing.isTup = false ∨ thing = .tup [] ∨ (deep : Int) = 0
    · obtain ⟨d, h', e, H', t⟩ := bent_leaf (rg := G__law_bent N) H T (by omega) hx
      exact ⟨d, h', e, H', t.mono (by omega) (by omega) (Nat.le_refl _)⟩
    · have hx1 : thing.isTup = true := by
        cases z : thing.isTup with
        | true => rfl
        | false => exact absurd (.inl z) hx
      have hx2 : ¬ thing = .tup [] := fun z => hx (.inr (.inl z))
      have hx3 : ¬ (deep : Int) = 0 := fun z => hx (.inr (.inr z))
      have hx3' : ¬ deep = 0 := fun z => hx3 (by rw [z]; rfl)
      obtain ⟨xs, rfl⟩ : ∃ xs, thing = .tup xs := by cases thing <;> simp [D.isTup] at hx1; exact ⟨_, rfl⟩
      have hl : xs ≠ [] := fun z => hx2 (by rw [z])
      have hp := List.length_pos_iff.mpr hl
      have T1 := T.items.1
      have n1 := T.items.2
      have wl : xs.length ≤ w := by
        have : ∀ (ys : List D) (v : Nat), Tbs (n - 1) v B ys → ys.length ≤ v := by
          intro ys
          induction ys with
          | nil => intro v _; exact Nat.zero_le _
          | cons y ys ih => intro v q; obtain ⟨a, b⟩ := q.tl; have := ih _ a; rw [List.length_cons]; omega
        exact this xs w T1
      obtain ⟨at_, h1, e1, H1, a0, a1⟩ := draw_ok H (b := xs.length) (by omega)
      obtain ⟨i, rfl⟩ : ∃ i : Nat, at_ = i := ⟨at_.toNat, by omega⟩
      obtain ⟨kind, h2, e2, H2, k0, k1⟩ := draw_ok H1 (b := 6) (by omega)
      have hi : i < xs.length := by omega
      have t1 : P.op (fSl (.tup xs) none (some (i : Int))) = .ok (.tup (xs.take i)) := sl_tup_take xs i
      have t2 : P.op (fSl (.tup xs) (some ((i : Int) + 1)) none) = .ok (.tup (xs.drop (i + 1))) := sl_tup_drop xs (i + 1)
      have t3 : P.op (fSl (.tup xs) (some (-1)) none) = .ok (.tup (xs.drop (xs.length - 1))) := sl_tup_last xs
      by_cases z : kind = 0
      · subst z
        obtain ⟨x, h3, e3, H3, m⟩ := any_ok (xs := [.tup (xs.take i ++ xs.drop (i + 1)), .lst xs, .tup xs.reverse, .tup (xs ++ xs.drop (xs.length - 1))]) H2 (by simp) (by simp)
        refine ⟨x, h3, ?_, H3, ?_⟩
        · have ea1 : P.op (fAdd (.tup (xs.take i)) (.tup (xs.drop (i + 1)))) = .ok (.tup (xs.take i ++ xs.drop (i + 1))) := oq_add_tup (by rw [List.length_take, List.length_drop]; omega)
          have ea2 : P.op (fAdd (.tup xs) (.tup (xs.drop (xs.length - 1)))) = .ok (.tup (xs ++ xs.drop (xs.length - 1))) := oq_add_tup (by rw [List.length_drop]; omega)
          simp [H__law_bent, hl, hx3', e1, e2, t1, t2, t3, ea1, ea2, e3]
        · simp only [List.mem_cons, List.not_mem_nil, or_false] at m
          rcases m with rfl | rfl | rfl | rfl
          · exact (tb_tup (tbs_app (tbs_take i T1) (tbs_drop (i + 1) T1))).mono (by omega) (by
              have : 1 * (w + 410) ≤ (deep + 1) * (w + 410) := Nat.mul_le_mul (by omega) (Nat.le_refl _)
              omega) (by omega)
          · exact (tb_lst T1).mono (by omega) (by omega) (by omega)
          · exact (tb_tup (tbs_rev T1)).mono (by omega) (by omega) (by omega)
          · exact (tb_tup (tbs_app T1 (tbs_drop (xs.length - 1) T1))).mono (by omega) (by
              have : 1 * (w + 410) ≤ (deep + 1) * (w + 410) := Nat.mul_le_mul (by omega) (Nat.le_refl _)
              omega) (by omega)
      · have ti := T1.at_ xs[i] (List.getElem_mem hi)
        obtain ⟨y, h3, e3, H3, ty⟩ := bent_ok N (deep := deep - 1) (by omega) H2 ti (by omega) hw
        rw [show ((deep - 1 : Nat) : Int) = (deep : Int) - 1 by omega] at e3
        have t4 : P.op (fIx (.tup xs) (.int (i : Int))) = .ok xs[i] := ix_tup (List.getElem?_eq_getElem hi)
        have ea1 : P.op (fAdd (.tup (xs.take i)) (.tup [y])) = .ok (.tup (xs.take i ++ [y])) := oq_add_tup (by rw [List.length_take]; simp; omega)
        have ea2 : P.op (fAdd (.tup (xs.take i ++ [y])) (.tup (xs.drop (i + 1)))) = .ok (.tup (xs.take i ++ [y] ++ xs.drop (i + 1))) := oq_add_tup (by rw [List.length_append, List.length_take, List.length_drop]; simp; omega)
        refine ⟨.tup (xs.take i ++ [y] ++ xs.drop (i + 1)), h3, ?_, H3, ?_⟩
        · simp [H__law_bent, hl, hx3', z, e1, e2, t1, t2, t4, e3, ea1, ea2, -List.append_assoc]
        · have T1' : Tbs n w (B + 1) xs := T1.mono (by omega) (Nat.le_refl _) (by omega)
          have ty' : Tb n ((deep - 1 + 1) * (w + 410) + w + 2) (B + 1) y := ty.mono (by omega) (Nat.le_refl _) (Nat.le_refl _)
          refine (tb_tup (tbs_put i hi T1' ty')).mono (Nat.le_refl _) ?_ (Nat.le_refl _)
          have : (deep + 1) * (w + 410) = (deep - 1 + 1) * (w + 410) + (w + 410) := by
            rw [show deep - 1 + 1 = deep by omega, Nat.succ_mul]
          omega
end Lw

namespace Lw
open PySem PySem.Spec PyProof.Rows L2 VS
/-! steps -/
def stepP (a b : Int × Int) : Int × Int := (b.1 - a.1, b.2 - a.2)
def stepsAt (c : List (Int × Int)) (a : Int × Int) : List (Int × Int) := (c.filter fun b => decide (b ≠ a)).map (stepP a)
def stepsOf (c : List (Int × Int)) : List (Int × Int) := c.flatMap (stepsAt c)
def tab (l : List ((Int × Int) × Int)) : D := .dct true (encA dPair .int l)
theorem raw_step_ok (a b : Int × Int) : G_raw_step [dPair a, dPair b] = .ok (dPair (stepP a b)) := by simp [G_raw_step, dPair, stepP]
theorem law_in1 {a b : Int × Int} {l : List ((Int × Int) × Int)} (h : l.length < 1000000) : GK__law_steps_1 (dPair a) (tab l) (dPair b) = .ok (tab (if b = a then l else bumpA l (stepP a b))) := by
  unfold GK__law_steps_1
  rw [oq_ne_pair]
  by_cases c : b = a
  · simp [c]
  · have e : P.op (fIx (dPair b) (D.int 0)) = .ok (.int b.1) ∧ P.op (fIx (dPair b) (D.int 1)) = .ok (.int b.2) ∧ P.op (fIx (dPair a) (D.int 0)) = .ok (.int a.1) ∧ P.op (fIx (dPair a) (D.int 1)) = .ok (.int a.2) := by simp [dPair]
    have g := get2_T D.int l (stepP a b) (.int 0)
    have s := st_T D.int h (stepP a b) ((getA l (stepP a b)).getD 0 + 1)
    have g' : (((getA l (stepP a b)).map D.int).getD (.int 0)) = .int ((getA l (stepP a b)).getD 0) := by cases getA l (stepP a b) <;> rfl
    rw [g'] at g
    have sd : D.tup [D.int (b.1 - a.1), D.int (b.2 - a.2)] = dPair (stepP a b) := rfl
    simp [c, e.1, e.2.1, e.2.2.1, e.2.2.2, sd, tab, g, s, bumpA]
theorem law_in (a : Int × Int) : ∀ (c : List (Int × Int)) (l : List ((Int × Int) × Int)), l.length + c.length < 1000000 → P.for (fun s d => GK__law_steps_1 (dPair a) s d) (tab l) (c.map dPair) = .ok (tab ((stepsAt c a).foldl bumpA l))
  | [], l, _ => rfl
  | b :: c, l, h => by
    rw [List.length_cons] at h
    rw [List.map_cons, for_cons, law_in1 (by omega), P.ok_bind]
    unfold stepsAt
    by_cases e : b = a
    · rw [if_pos e, law_in a c l (by omega), List.filter_cons_of_neg (by simpa using e)]; rfl
    · have := putA_len l (stepP a b) ((getA l (stepP a b)).getD 0 + 1)
      rw [if_neg e, law_in a c _ (by unfold bumpA; omega), List.filter_cons_of_pos (by simpa using e)]; rfl
theorem at_len (c : List (Int × Int)) (a : Int × Int) : (stepsAt c a).length ≤ c.length := by
  unfold stepsAt
  rw [List.length_map]
  exact List.length_filter_le _ _
theorem law_out (c : List (Int × Int)) (hc : c.length ≤ 12) : ∀ (c' : List (Int × Int)) (l : List ((Int × Int) × Int)), l.length + c'.length * 12 < 100000 → P.for (fun s d => GK__law_steps_2 (crowdD c) s d) (tab l) (c'.map dPair) = .ok (tab ((c'.flatMap (stepsAt c)).foldl bumpA l))
  | [], l, _ => rfl
  | a :: c', l, h => by
    rw [List.length_cons] at h
    have e : GK__law_steps_2 (crowdD c) (tab l) (dPair a) = .ok (tab ((stepsAt c a).foldl bumpA l)) := by
      have := law_in a c l (by omega)
      simp [GK__law_steps_2, crowdD, this]
    have := fold_len (stepsAt c a) l
    have := at_len c a
    rw [List.map_cons, for_cons, e, P.ok_bind, law_out c hc c' _ (by omega), List.flatMap_cons, List.foldl_append]
def stepsD (c : List (Int × Int)) : D := .tup (((countA (stepsOf c)).mergeSort (pairLe lexLe)).map dCnt)
theorem steps_len {c : List (Int × Int)} (hc : c.length ≤ 12) : (stepsOf c).length ≤ 144 := by
  unfold stepsOf
  have : ∀ c' : List (Int × Int), (c'.flatMap (stepsAt c)).length ≤ c'.length * 12 := by
    intro c'
    induction c' with
    | nil => simp
    | cons a c' ih => rw [List.flatMap_cons, List.length_append, List.length_cons]; have := at_len c a; omega
  have := this c
  omega
theorem law_steps_ok {c : List (Int × Int)} (hc : c.length ≤ 12) : G__law_steps [crowdD c] = .ok (stepsD c) := by
  have e1 := law_out c hc c [] (by simp; omega)
  have nd := count_nd (stepsOf c)
  have cl := count_len (stepsOf c)
  have sl := steps_len hc
  have e0 : tab [] = .dct true [] := rfl
  rw [e0] at e1
  have e1 : P.for (fun s d => GK__law_steps_2 (crowdD c) s d) (.dct true []) (c.map dPair) = .ok (tab (countA (stepsOf c))) := e1
  have e2 : P.lc (GE__law_steps_1 (tab (countA (stepsOf c)))) (((countA (stepsOf c)).map (·.1)).map dPair) = .ok (.lst ((countA (stepsOf c)).map dCnt)) := by
    rw [List.map_map]
    refine lc_map (fun p : (Int × Int) × Int => dPair p.1) dCnt (fun p hp => ?_) (by omega)
    have := ix_T D.int (getA_mem nd hp)
    simp [GE__law_steps_1, tab, this, dCnt]
  have e3 := sort_lst_cnt (l := countA (stepsOf c)) (by omega)
  have ek : (encA dPair D.int (countA (stepsOf c))).map (·.1) = ((countA (stepsOf c)).map (·.1)).map dPair := encA_keys _ _ _
  unfold G__law_steps
  rw [f1_e]
  simp only [P.ok_bind, P.of_some]
  rw [show P.seq (crowdD c) = .ok (c.map dPair) from rfl]
  simp only [P.ok_bind, e1]
  rw [show P.any (tab (countA (stepsOf c))) = .ok (((countA (stepsOf c)).map (·.1)).map dPair) from by rw [← ek]; rfl]
  simp only [P.ok_bind, e2, e3, oq_tuple_lst]
  rfl
theorem pr_in1 {i j : Nat} {a b : Int × Int} {l : List ((Int × Int) × Int)} (h : l.length < 1000000) (hij : j = i ↔ b = a) : GK_step_counts_1 (.int i, dPair a, ()) (tab l) (.int j, dPair b, ()) = .ok (tab (if b = a then l else bumpA l (stepP a b))) := by
  unfold GK_step_counts_1
  by_cases c : b = a
  · have := hij.mpr c
    simp [c, this]
  · have c' : ¬ (i : Int) = (j : Int) := fun z => c (hij.mp (by omega))
    have g := get2_T D.int l (stepP a b) (.int 0)
    have s := st_T D.int h (stepP a b) ((getA l (stepP a b)).getD 0 + 1)
    have g' : (((getA l (stepP a b)).map D.int).getD (.int 0)) = .int ((getA l (stepP a b)).getD 0) := by cases getA l (stepP a b) <;> rfl
    rw [g'] at g
    have c2 : ¬ i = j := fun z => c' (by rw [z])
    simp [c, c', raw_step_ok, tab, g, s, bumpA]
def eI (p : (Int × Int) × Nat) : D := .tup [.int (p.2 : Int), dPair p.1]
theorem pr_in (i : Nat) (a : Int × Int) : ∀ (c : List ((Int × Int) × Nat)) (l : List ((Int × Int) × Int)), (∀ p ∈ c, p.2 = i ↔ p.1 = a) → l.length + c.length < 1000000 → P.for (fun x21 x20 => (P.of ((tupO (consO some (consO some nilO))) x20)).bind fun x9 => GK_step_counts_1 (.int i, dPair a, ()) x21 x9) (tab l) (c.map eI) = .ok (tab ((stepsAt (c.map (·.1)) a).foldl bumpA l))
  | [], l, _, _ => rfl
  | b :: c, l, hi, h => by
    rw [List.length_cons] at h
    have e : (P.of ((tupO (consO some (consO some nilO))) (eI b))).bind (fun x9 => GK_step_counts_1 (.int i, dPair a, ()) (tab l) x9) = .ok (tab (if b.1 = a then l else bumpA l (stepP a b.1))) := by
      have := pr_in1 (i := i) (j := b.2) (a := a) (b := b.1) (l := l) (by omega) (hi b List.mem_cons_self)
      simp [eI, this]
    rw [List.map_cons, for_cons, e, P.ok_bind]
    unfold stepsAt
    by_cases e : b.1 = a
    · rw [if_pos e, pr_in i a c l (fun p m => hi p (List.mem_cons_of_mem _ m)) (by omega), List.map_cons, List.filter_cons_of_neg (by simpa using e)]; rfl
    · have := putA_len l (stepP a b.1) ((getA l (stepP a b.1)).getD 0 + 1)
      rw [if_neg e, pr_in i a c _ (fun p m => hi p (List.mem_cons_of_mem _ m)) (by unfold bumpA; omega), List.map_cons, List.filter_cons_of_pos (by simpa using e)]; rfl
theorem zip_fst' {α : Type} (c : List α) : (c.zipIdx).map (·.1) = c := by simp
theorem pr_out {c : List (Int × Int)} (hc : c.length ≤ 12) (nd : c.Nodup) : ∀ (c' : List ((Int × Int) × Nat)) (l : List ((Int × Int) × Int)), (∀ p ∈ c', p ∈ c.zipIdx) → l.length + c'.length * 12 < 100000 → P.for (fun x24 x23 => (P.of ((tupO (consO some (consO some nilO))) x23)).bind fun x6 => GK_step_counts_2 (crowdD c) x24 x6) (tab l) (c'.map eI) = .ok (tab (((c'.map (·.1)).flatMap (stepsAt c)).foldl bumpA l))
  | [], l, _, _ => rfl
  | a :: c', l, hm, h => by
    rw [List.length_cons] at h
    have e : (P.of ((tupO (consO some (consO some nilO))) (eI a))).bind (fun x6 => GK_step_counts_2 (crowdD c) (tab l) x6) = .ok (tab ((stepsAt c a.1).foldl bumpA l)) := by
      have := pr_in a.2 a.1 c.zipIdx l (fun p m => idx_same nd m (hm a List.mem_cons_self)) (by rw [List.length_zipIdx]; omega)
      rw [zip_fst'] at this
      have en : P.enum (crowdD c) = .ok (c.zipIdx.map eI) := by
        show P.ok (enumD (c.map dPair)) = _
        rw [enum_map]; rfl
      simp [eI, GK_step_counts_2, en, this]
    have := fold_len (stepsAt c a.1) l
    have := at_len c a.1
    rw [List.map_cons, for_cons, e, P.ok_bind, pr_out hc nd c' _ (fun p m => hm p (List.mem_cons_of_mem _ m)) (by omega), List.map_cons, List.flatMap_cons, List.foldl_append]
theorem as_pairs_ok {l : List ((Int × Int) × Int)} (nd : (l.map (·.1)).Nodup) (h : l.length ≤ 100000) : G_as_pairs [tab l] = .ok (.tup ((l.mergeSort (pairLe lexLe)).map dCnt)) := by
  have e1 := sort_T D.int (l := l) (by omega)
  have e2 : P.lc (GE_as_pairs_1 (tab l)) (((l.map (·.1)).mergeSort lexLe).map dPair) = .ok (.lst (((l.map (·.1)).mergeSort lexLe).map fun k => dCnt (k, (getA l k).getD 0))) := by
    refine lc_map dPair _ (fun k hk => ?_) (by rw [List.length_mergeSort, List.length_map]; omega)
    obtain ⟨p, hp, rfl⟩ := List.mem_map.mp (List.mem_mergeSort.mp hk)
    have := ix_T D.int (getA_mem nd hp)
    simp [GE_as_pairs_1, tab, this, dCnt, getA_mem nd hp]
  unfold tab at *
  rw [sort_keys ord_lex nd, List.map_map]
  simp [G_as_pairs, e1, e2, Function.comp_def]
theorem step_counts_ok {c : List (Int × Int)} (h : Crowd c) : G_step_counts [crowdD c] = .ok (stepsD c) := by
  have hc := h.hi
  have e1 := pr_out hc h.nd c.zipIdx [] (fun _ m => m) (by simp; omega)
  rw [zip_fst'] at e1
  have nd := count_nd (stepsOf c)
  have cl := count_len (stepsOf c)
  have sl := steps_len hc
  have e0 : tab [] = .dct true [] := rfl
  rw [e0] at e1
  have e1 : P.for (fun x24 x23 => (P.of ((tupO (consO some (consO some nilO))) x23)).bind fun x6 => GK_step_counts_2 (crowdD c) x24 x6) (.dct true []) (c.zipIdx.map eI) = .ok (tab (countA (stepsOf c))) := e1
  have en : P.enum (crowdD c) = .ok (c.zipIdx.map eI) := by
    show P.ok (enumD (c.map dPair)) = _
    rw [enum_map]; rfl
  have e3 := as_pairs_ok nd (by omega)
  simp [G_step_counts, check_crowd_ok h, en, e1, e3, stepsD]
end Lw

namespace Lw
open PySem PySem.Spec PyProof.Rows L2 VS
/-! moved crowds -/
def sorted2 (c : List (Int × Int)) : List (Int × Int) := c.mergeSort lexLe
def movesOf (a b : List (Int × Int)) : List (Int × Int) := ((sorted2 a).zip (sorted2 b)).map fun p => stepP p.1 p.2
def otherAt (st : List (Int × Int)) (v : Int × Int) : List Nat := (st.zipIdx.filter fun p => decide (p.1 ≠ v)).map (·.2)
def toldD (a b : List (Int × Int)) : D :=
  match movesOf a b with
  | [] => .non
  | v :: r => match otherAt (v :: r) v with
    | k :: _ => .tup [.str (Str.ofString "parts"), .int (k : Int)]
    | [] => .tup [.str (Str.ofString "moved"), dPair v]
theorem sorted_len (c : List (Int × Int)) : (sorted2 c).length = c.length := by unfold sorted2; rw [List.length_mergeSort]
theorem moves_len {a b : List (Int × Int)} (h : a.length = b.length) : (movesOf a b).length = a.length := by
  unfold movesOf
  rw [List.length_map, List.length_zip, sorted_len, sorted_len]; omega
theorem due_ok {a b : List (Int × Int)} (h : a.length = b.length) (h0 : 0 < a.length) (h1 : a.length ≤ 12) : G__law_due [crowdD a, crowdD b] = .ok (toldD a b) := by
  have s1 := sort_tup (c := a) (by omega)
  have s2 := sort_tup (c := b) (by omega)
  have ml := moves_len h
  have z : P.zip (.lst ((a.mergeSort lexLe).map dPair)) (.lst ((b.mergeSort lexLe).map dPair)) = .ok (((sorted2 a).zip (sorted2 b)).map fun p => .tup [dPair p.1, dPair p.2]) := by
    rw [P.zip_lst, zip_map]; rfl
  have e1 : P.lc GE__law_due_1 (((sorted2 a).zip (sorted2 b)).map fun p => .tup [dPair p.1, dPair p.2]) = .ok (.lst ((movesOf a b).map dPair)) := by
    unfold movesOf
    rw [List.map_map]
    exact lc_map (fun p : (Int × Int) × (Int × Int) => D.tup [dPair p.1, dPair p.2]) _ (fun p _ => by simp [GE__law_due_1, dPair, stepP]) (by rw [List.length_zip, sorted_len]; omega)
  unfold toldD
  cases q : movesOf a b with
  | nil => rw [q] at ml; simp at ml; omega
  | cons v r =>
    rw [q] at e1 ml
    have e2 : P.lc (GE__law_due_2 (.lst ((v :: r).map dPair))) (enumD ((v :: r).map dPair)) = .ok (.lst ((otherAt (v :: r) v).map fun k : Nat => D.int (k : Int))) := by
      rw [enum_map]
      have := lc_fmE (φ := GE__law_due_2 (.lst ((v :: r).map dPair))) (fun p : (Int × Int) × Nat => D.tup [.int (p.2 : Int), dPair p.1]) (fun p => if p.1 = v then none else some (D.int (p.2 : Int))) (xs := (v :: r).zipIdx) (fun p _ => by
        by_cases c : p.1 = v
        · simp [GE__law_due_2, oq_ne_pair, c]
        · simp [GE__law_due_2, oq_ne_pair, c]) (by rw [List.length_zipIdx]; omega)
      rw [this]
      congr 2
      unfold otherAt
      rw [List.map_map]
      induction (v :: r).zipIdx with
      | nil => rfl
      | cons p ps ih =>
        by_cases c : p.1 = v
        · rw [List.filterMap_cons_none (by simp [c]), List.filter_cons_of_neg (by simp [c]), ih]
        · rw [List.filterMap_cons_some (b := D.int (p.2 : Int)) (by simp [c]), List.filter_cons_of_pos (by simp [c]), List.map_cons, ih]; rfl
    have a1 : crowdD a = .tup (a.map dPair) := rfl
    have a2 : crowdD b = .tup (b.map dPair) := rfl
    cases o : otherAt (v :: r) v with
    | nil =>
      rw [o] at e2
      simp only [List.map_cons, List.map_nil] at e1 e2
      simp [G__law_due, a1, a2, s1, s2, z, e1, e2, o]
    | cons k ks =>
      rw [o] at e2
      simp only [List.map_cons] at e1 e2
      simp [G__law_due, a1, a2, s1, s2, z, e1, e2, o]
theorem due_same : GE_raw_moved_shown_1 = GE__law_due_1 := by
  funext x
  simp only [GE_raw_moved_shown_1, GE__law_due_1, G_raw_step, f2_e]
theorem due_same2 : GE_raw_moved_shown_2 = GE__law_due_2 := rfl
theorem raw_due : G_raw_moved_shown = G__law_due := by
  unfold G_raw_moved_shown G__law_due
  rw [due_same, due_same2]
theorem check_as_many_ok {a b : List (Int × Int)} (ha : Crowd a) (hb : Crowd b) (h : a.length = b.length) : G_check_as_many [crowdD a, crowdD b] = .ok .non := by
  have e1 : P.op (fLen [crowdD a]) = .ok (.int a.length) := by simp [crowdD]
  have e2 : P.op (fLen [crowdD b]) = .ok (.int b.length) := by simp [crowdD]
  simp [G_check_as_many, G_check_two_crowds, check_crowd_ok ha, check_crowd_ok hb, e1, e2, h]
theorem moved_shown_ok {a b : List (Int × Int)} (ha : Crowd a) (hb : Crowd b) (h : a.length = b.length) : G_moved_shown [crowdD a, crowdD b] = .ok (toldD a b) := by
  have := ha.lo
  have := ha.hi
  simp [G_moved_shown, check_as_many_ok ha hb h, raw_due, due_ok h (by omega) (by omega)]
/-- what is told: one of two kinds -/
theorem told_kind {a b : List (Int × Int)} (h : a.length = b.length) (h0 : 0 < a.length) : (∃ k : Nat, k ≤ a.length ∧ toldD a b = .tup [.str (Str.ofString "parts"), .int (k : Int)]) ∨ ∃ v, v ∈ movesOf a b ∧ toldD a b = .tup [.str (Str.ofString "moved"), dPair v] ∧ ∀ s ∈ movesOf a b, s = v := by
  unfold toldD
  have ml := moves_len h
  cases q : movesOf a b with
  | nil => rw [q] at ml; simp at ml; omega
  | cons v r =>
    rw [q] at ml
    cases o : otherAt (v :: r) v with
    | nil =>
      right
      refine ⟨v, List.mem_cons_self, by simp only [o], fun s hs => ?_⟩
      unfold otherAt at o
      have o := List.map_eq_nil_iff.mp o
      rw [List.filter_eq_nil_iff] at o
      obtain ⟨i, hi, rfl⟩ := List.mem_iff_getElem.mp hs
      have := o ((v :: r)[i], i) (List.mk_mem_zipIdx_iff_getElem?.mpr (List.getElem?_eq_getElem hi))
      simpa using this
    | cons k ks =>
      left
      refine ⟨k, ?_, by simp only [o]⟩
      have : k ∈ otherAt (v :: r) v := by rw [o]; exact List.mem_cons_self
      unfold otherAt at this
      obtain ⟨p, hp, rfl⟩ := List.mem_map.mp this
      have := List.snd_lt_of_mem_zipIdx ((List.mem_filter.mp hp).1)
      omega
/-! a crowd moved has the same steps -/
theorem stepsAt_perm {c c' : List (Int × Int)} (h : c.Perm c') (a : Int × Int) : (stepsAt c a).Perm (stepsAt c' a) := by
  unfold stepsAt
  exact (h.filter _).map _
theorem flat_perm {α β : Type} {f g : α → List β} {c c' : List α} (h : c.Perm c') (k : ∀ a, (f a).Perm (g a)) : (c.flatMap f).Perm (c'.flatMap g) := by
  induction h with
  | nil => exact .refl _
  | cons x _ ih => rw [List.flatMap_cons, List.flatMap_cons]; exact (k x).append ih
  | swap x y l =>
    rw [List.flatMap_cons, List.flatMap_cons, List.flatMap_cons, List.flatMap_cons, ← List.append_assoc, ← List.append_assoc]
    refine List.Perm.append (((k y).append (k x)).trans List.perm_append_comm) ?_
    induction l with
    | nil => exact .refl _
    | cons a l ih => rw [List.flatMap_cons, List.flatMap_cons]; exact (k a).append ih
  | trans p q ih1 ih2 =>
    refine ih1.trans ?_
    refine List.Perm.trans ?_ ih2
    rename_i l1 l2 l3
    clear p q ih1 ih2
    induction l2 with
    | nil => exact .refl _
    | cons a l ih => rw [List.flatMap_cons, List.flatMap_cons]; exact (k a).symm.append ih
theorem steps_perm {c c' : List (Int × Int)} (h : c.Perm c') : (stepsOf c).Perm (stepsOf c') := by
  unfold stepsOf
  exact flat_perm h (stepsAt_perm h)
theorem stepsD_perm {c c' : List (Int × Int)} (h : (stepsOf c).Perm (stepsOf c')) : stepsD c = stepsD c' := by
  unfold stepsD
  rw [sort_perm (ord_pair ord_lex) (count_perm h)]
def shiftP (v p : Int × Int) : Int × Int := (p.1 + v.1, p.2 + v.2)
theorem steps_shift (v : Int × Int) (c : List (Int × Int)) : stepsOf (c.map (shiftP v)) = stepsOf c := by
  unfold stepsOf
  rw [List.flatMap_map]
  congr 1
  funext a
  unfold stepsAt
  rw [List.filter_map, List.map_map]
  have e1 : ((fun b : Int × Int => decide (b ≠ shiftP v a)) ∘ shiftP v) = fun b => decide (b ≠ a) := by
    funext b
    simp only [Function.comp, shiftP]
    congr 1
    simp only [ne_eq, Prod.ext_iff]
    apply propext
    constructor <;> (intro h z; apply h; omega)
  rw [e1]
  refine List.map_congr_left fun b _ => ?_
  simp only [Function.comp, stepP, shiftP]
  exact Prod.ext (by simp only; omega) (by simp only; omega)
theorem moved_same {a b : List (Int × Int)} (h : a.length = b.length) {v : Int × Int} (k : ∀ s ∈ movesOf a b, s = v) : stepsD b = stepsD a := by
  have e : sorted2 b = (sorted2 a).map (shiftP v) := by
    have l : (sorted2 a).length = (sorted2 b).length := by rw [sorted_len, sorted_len, h]
    apply List.ext_getElem
    · rw [List.length_map, l]
    · intro i h1 h2
      rw [List.length_map] at h2
      rw [List.getElem_map]
      have hz : i < ((sorted2 a).zip (sorted2 b)).length := by rw [List.length_zip]; omega
      have := k (stepP (sorted2 a)[i] (sorted2 b)[i]) (by
        unfold movesOf
        refine List.mem_map.mpr ⟨((sorted2 a)[i], (sorted2 b)[i]), ?_, rfl⟩
        refine List.mem_iff_getElem.mpr ⟨i, hz, ?_⟩
        rw [List.getElem_zip])
      subst this
      unfold shiftP stepP
      exact Prod.ext (by simp only; omega) (by simp only; omega)
  refine stepsD_perm ?_
  have p1 : (stepsOf b).Perm (stepsOf (sorted2 b)) := steps_perm (List.mergeSort_perm b lexLe).symm
  rw [e, steps_shift] at p1
  exact p1.trans (steps_perm (List.mergeSort_perm a lexLe))
end Lw

namespace Lw
open PySem PySem.Spec PyProof.Rows L2 VS
/-! the judge, the law -/
theorem near_b {p : Int × Int} (h : near p) : p.1.natAbs ≤ 10000 ∧ p.2.natAbs ≤ 10000 := by unfold near at h; omega
theorem tb_pair {p : Int × Int} {B : Nat} (h : p.1.natAbs ≤ B ∧ p.2.natAbs ≤ B) (hB : B ≤ 1000000000000000000) : Tb 1 402 B (dPair p) := (tb_tup (tbs_cons (tb_int h.1 hB) (tbs_cons (tb_int h.2 hB) tbs_nil))).mono (by omega) (by omega) (Nat.le_refl _)
theorem tb_steps {c : List (Int × Int)} (h : Crowd c) : Tb 3 87120 20000 (stepsD c) := by
  have sl := steps_len h.hi
  have cl := count_len (stepsOf c)
  have ln : ((countA (stepsOf c)).mergeSort (pairLe lexLe)).length ≤ 144 := by rw [List.length_mergeSort]; omega
  have all : ∀ d ∈ ((countA (stepsOf c)).mergeSort (pairLe lexLe)).map dCnt, Tb 2 604 20000 d := fun d hd => by
    obtain ⟨p, hp, rfl⟩ := List.mem_map.mp hd
    obtain ⟨m1, m2⟩ := (count_mem (stepsOf c) p).mp (List.mem_mergeSort.mp hp)
    have b1 : p.1.1.natAbs ≤ 20000 ∧ p.1.2.natAbs ≤ 20000 := by
      unfold stepsOf at m1
      obtain ⟨a, ha, m1⟩ := List.mem_flatMap.mp m1
      unfold stepsAt at m1
      obtain ⟨b, hb, e⟩ := List.mem_map.mp m1
      have x := h.nr a ha
      have y := h.nr b ((List.mem_filter.mp hb).1)
      rw [← e]
      unfold near at x y
      unfold stepP
      simp only
      omega
    have b2 : p.2.natAbs ≤ 20000 := by
      have := count_small (List.mem_mergeSort.mp hp)
      omega
    exact (tb_tup (tbs_cons ((tb_pair b1 (by omega)).mono (Nat.le_refl _) (Nat.le_refl _) (Nat.le_refl _)) (tbs_cons ((tb_int b2 (by omega)).mono (by omega) (Nat.le_refl _) (Nat.le_refl _)) tbs_nil))).mono (by omega) (by omega) (Nat.le_refl _)
  have := tbs_all all
  rw [List.length_map] at this
  refine (tb_tup this).mono (by omega) ?_ (Nat.le_refl _)
  have : ((countA (stepsOf c)).mergeSort (pairLe lexLe)).length * (604 + 1) ≤ 144 * (604 + 1) := Nat.mul_le_mul_right _ ln
  omega
theorem plain_steps (c : List (Int × Int)) : (stepsD c).plain = true := by
  unfold stepsD
  rw [D.plain]
  generalize (countA (stepsOf c)).mergeSort (pairLe lexLe) = l
  induction l with
  | nil => rfl
  | cons p l ih => rw [List.map_cons, plains, ih]; rfl
theorem moved_s : Tb 0 5 20000 (.str (Str.ofString "moved")) := tb_str (x := Str.ofString "moved") (B := 20000) (by decide) (by decide)
theorem parts_s : Tb 0 5 20000 (.str (Str.ofString "parts")) := tb_str (x := Str.ofString "parts") (B := 20000) (by decide) (by decide)
theorem tb_told {a b : List (Int × Int)} (ha : Crowd a) (hb : Crowd b) (h : a.length = b.length) : (∃ s x, toldD a b = .tup [.str (Str.ofString s), x]) ∧ Tb 3 1000 20000 (toldD a b) := by
  have lo := ha.lo
  have hi := ha.hi
  rcases told_kind h (by omega) with ⟨k, hk, e⟩ | ⟨v, hv, e, _⟩
  · refine ⟨⟨_, _, e⟩, ?_⟩
    rw [e]
    exact (tb_tup (tbs_cons parts_s (tbs_cons (tb_int (i := (k : Int)) (by omega) (by omega)) tbs_nil))).mono (by omega) (by omega) (Nat.le_refl _)
  · refine ⟨⟨_, _, e⟩, ?_⟩
    rw [e]
    have vb : v.1.natAbs ≤ 20000 ∧ v.2.natAbs ≤ 20000 := by
      unfold movesOf at hv
      obtain ⟨p, hp, rfl⟩ := List.mem_map.mp hv
      have m1 : p.1 ∈ a := List.mem_mergeSort.mp (List.of_mem_zip (a := p.1) (b := p.2) hp).1
      have m2 : p.2 ∈ b := List.mem_mergeSort.mp (List.of_mem_zip (a := p.1) (b := p.2) hp).2
      have x := ha.nr _ m1
      have y := hb.nr _ m2
      unfold near at x y
      unfold stepP
      simp only
      omega
    exact (tb_tup (tbs_cons (moved_s.mono (Nat.zero_le 1) (Nat.le_refl _) (Nat.le_refl _)) (tbs_cons (tb_pair vb (by omega)) tbs_nil))).mono (by omega) (by omega) (Nat.le_refl _)
theorem judge_ok {a b : List (Int × Int)} (ha : Crowd a) (hb : Crowd b) (h : a.length = b.length) {thing : D} {n w B : Nat} (T : Tb n w B thing) (hn : n ≤ 100) (hw : w ≤ 150000) (hB : B ≤ 1000000000000000000) : G_is_moved_shown [crowdD a, crowdD b, thing] = .ok (.bl (dec (thing = toldD a b))) := by
  have lo := ha.lo
  have hi := ha.hi
  obtain ⟨⟨s, x, e⟩, t⟩ := tb_told ha hb h
  have d := due_ok h (by omega) (by omega)
  have r1 := oq_repr (T.th hB) hn hw
  have r2 := oq_repr (t.th (by omega)) (by omega) (by omega)
  have q := oq_eq_sh (T.th hB) (t.th (by omega))
  unfold G_is_moved_shown
  rw [f3_e, check_as_many_ok ha hb h, P.ok_bind, isi_tup T.cl]
  by_cases tt : thing.isTup = true
  · obtain ⟨xs, rfl⟩ : ∃ xs, thing = .tup xs := by cases thing <;> simp [D.isTup] at tt; exact ⟨_, rfl⟩
    by_cases l : xs.length = 2
    · have l' : (xs.length : Int) = 2 := by omega
      simp [D.isTup, l', r1, raw_due, d, r2, q]
    · have : ¬ D.tup xs = toldD a b := fun z => by rw [e] at z; injection z with z; rw [z] at l; exact l rfl
      have l' : ¬ (xs.length : Int) = 2 := by omega
      simp [D.isTup, l', dec_false this]
  · have : ¬ thing = toldD a b := fun z => by rw [z, e] at tt; exact tt rfl
    simp [tt, dec_false this]
/-- one thing is judged as it is due -/
theorem turn_ok {a b : List (Int × Int)} (ha : Crowd a) (hb : Crowd b) (h : a.length = b.length) {thing : D} {n w B : Nat} (T : Tb n w B thing) (hn : n ≤ 100) (hw : w ≤ 150000) (hB : B ≤ 1000000000000000000) (x : D) (s : D) : GK__law_is_right_1 (crowdD a) (crowdD b) (toldD a b, x) s thing = .ok (.nx s) := by
  obtain ⟨_, t⟩ := tb_told ha hb h
  have j := judge_ok ha hb h T hn hw hB
  have r1 := oq_repr (T.th hB) hn hw
  have r2 := oq_repr (t.th (by omega)) (by omega) (by omega)
  have q := oq_eq_sh (T.th hB) (t.th (by omega))
  have q1 := oq_ne_sh (T.th hB) (T.th hB)
  have q2 := oq_ne_sh (th_bl (dec (thing = toldD a b))) (th_bl (dec (thing = toldD a b)))
  simp [GK__law_is_right_1, j, r1, r2, q, q1, q2, shD_bl]
theorem is_right_ok {h : D} {a b : List (Int × Int)} (H : Hand h) (ha : Crowd a) (hb : Crowd b) (hl : a.length = b.length) : ∃ h', G__law_is_right h [crowdD a, crowdD b] = .ok (.bl true, h') ∧ Hand h' := by
  have lo := ha.lo
  have hi := ha.hi
  obtain ⟨⟨s, x, e⟩, t⟩ := tb_told ha hb hl
  have d := due_ok hl (by omega) (by omega)
  have m := moved_shown_ok ha hb hl
  have r := oq_repr (t.th (by omega)) (by omega) (by omega)
  have q := oq_ne_sh (t.th (by omega)) (t.th (by omega))
  have s1 := step_counts_ok ha
  have s2 := law_steps_ok ha.hi
  have s3 := step_counts_ok hb
  have ts := tb_steps ha
  have rs := oq_repr (ts.th (by omega)) (by omega) (by omega)
  have qs := oq_ne_sh (ts.th (by omega)) (ts.th (by omega))
  have ns := oq_ne_same ts (plain_steps a) (by omega)
  -- the first word
  have wd : ∃ v, ((((P.op (fIx (toldD a b) (D.int 0))).bind fun x18 => P.op (fEq x18 (D.str (Str.ofString "moved")))).bind P.tb).bind fun x21 => if x21 = true then (((G_step_counts [crowdD b]).bind fun x19 => (G_step_counts [crowdD a]).bind fun x20 => P.op (fNe x19 x20)).bind P.tb) else P.ok false) = .ok v ∧ v = false := by
    refine ⟨_, ?_, rfl⟩
    rcases told_kind hl (by omega) with ⟨k, hk, e⟩ | ⟨v, hv, e, al⟩
    · have ne : ¬ Str.ofString "parts" = Str.ofString "moved" := fun z => absurd (ofS_inj z) (by decide)
      have c := oq_eq_str (x := Str.ofString "parts") (y := Str.ofString "moved") (strOk_ofString _) (strOk_ofString _)
      simp [e, c, ne]
    · have c := oq_eq_str (x := Str.ofString "moved") (y := Str.ofString "moved") (strOk_ofString _) (strOk_ofString _)
      have sm := moved_same hl al
      simp [e, c, s3, s1, sm, ns]
  obtain ⟨v, wd, rfl⟩ := wd
  -- what is judged
  obtain ⟨dp, h1, e1, H1, td⟩ := deep_ok H
  obtain ⟨bs, h2, e2, H2, tb, lb⟩ := lcF_all (φ := GE__law_is_right_1 (toldD a b, toldD a b)) Hand (fun d => Tb 4 100000 20002 d) (ds := intsD 0 6) (fun s H d _ => by
    obtain ⟨y, h', e, H', ty⟩ := bent_ok 6 (deep := 2) (by omega) H t (by omega) (by omega)
    exact ⟨y, h', by simp only [GE__law_is_right_1, P.of_some, P.ok_bind]; rw [show (D.int 2) = D.int ((2 : Nat) : Int) from rfl, e]; rfl, H', ty.mono (by omega) (by omega) (by omega)⟩) (by simp [intsD]) H1
  have T0 : P.op (fSl (toldD a b) none (some 1)) = .ok (.tup [.str (Str.ofString s)]) := by rw [e, sl_1]; rfl
  have T1 : P.op (fAdd (toldD a b) (.tup [.int 0])) = .ok (.tup [.str (Str.ofString s), x, .int 0]) := by rw [e, oq_add_tup (by simp)]; rfl
  have T2 : P.op (fList [toldD a b]) = .ok (.lst [.str (Str.ofString s), x]) := by rw [e]; simp
  have T3 : P.op (fRevA (toldD a b)) = .ok (.tup [x, .str (Str.ofString s)]) := by rw [e]; simp
  rw [e] at t
  obtain ⟨it, _⟩ := t.items
  have ts0 := it.hd
  have tx := it.tl.1.hd
  have i0 : Tb 0 200 20000 (.int 0) := tb_int (by decide) (by decide)
  have i1 : Tb 0 200 20000 (.int 1) := tb_int (by decide) (by decide)
  have i2 : Tb 0 200 20000 (.int 2) := tb_int (by decide) (by decide)
  have up : ∀ {n w B : Nat} {d : D}, Tb n w B d → n ≤ 41 → w ≤ 100000 → B ≤ 20002 → Tb 41 100000 20002 d := fun t a b c => t.mono a b c
  have all : ∀ y ∈ ([toldD a b, .tup [.str (Str.ofString s)], .tup [.str (Str.ofString s), x, .int 0], .lst [.str (Str.ofString s), x], .tup [x, .str (Str.ofString s)]] ++ [D.non, .tup [.str (Str.ofString "moved"), .tup [.int 0, .int 0]], .tup [.str (Str.ofString "moved"), .lst [.int 1, .int 2]], .tup [.str (Str.ofString "parts"), .int 0], .tup [.str (Str.ofString "parts"), .int 1]]) ++ [.tup [.str (Str.ofString "parts"), .bl true], dp] ++ bs, Tb 41 100000 20002 y := by
    intro y hy
    rcases List.mem_append.mp hy with hy | hy
    · rcases List.mem_append.mp hy with hy | hy
      · rw [e] at hy
        simp only [List.cons_append, List.nil_append, List.mem_cons, List.not_mem_nil, or_false] at hy
        have tn : ∀ {w : Nat} {ds : List D}, Tbs 2 w 20000 ds → w ≤ 100000 → Tb 41 100000 20002 (.tup ds) := fun t l => (tb_tup t).mono (by omega) l (by omega)
        have tl : ∀ {w : Nat} {ds : List D}, Tbs 2 w 20000 ds → w ≤ 100000 → Tb 41 100000 20002 (.lst ds) := fun t l => (tb_lst t).mono (by omega) l (by omega)
        have z : ∀ {w : Nat} {d : D}, Tb 0 w 20000 d → Tb 2 w 20000 d := fun t => t.mono (by omega) (Nat.le_refl _) (Nat.le_refl _)
        rcases hy with rfl | rfl | rfl | rfl | rfl | rfl | rfl | rfl | rfl | rfl
        · exact up t (by omega) (by omega) (by omega)
        · exact tn (tbs_cons ts0 tbs_nil) (by omega)
        · exact tn (tbs_cons ts0 (tbs_cons tx (tbs_cons (z i0) tbs_nil))) (by omega)
        · exact tl (tbs_cons ts0 (tbs_cons tx tbs_nil)) (by omega)
        · exact tn (tbs_cons tx (tbs_cons ts0 tbs_nil)) (by omega)
        · exact up tb_non (by omega) (by omega) (Nat.le_refl _)
        · exact tn (tbs_cons (z moved_s) (tbs_cons ((tb_tup (tbs_cons i0 (tbs_cons i0 tbs_nil))).mono (by omega) (Nat.le_refl _) (Nat.le_refl _)) tbs_nil)) (by omega)
        · exact tn (tbs_cons (z moved_s) (tbs_cons ((tb_lst (tbs_cons i1 (tbs_cons i2 tbs_nil))).mono (by omega) (Nat.le_refl _) (Nat.le_refl _)) tbs_nil)) (by omega)
        · exact tn (tbs_cons (z parts_s) (tbs_cons (z i0) tbs_nil)) (by omega)
        · exact tn (tbs_cons (z parts_s) (tbs_cons (z i1) tbs_nil)) (by omega)
      · simp only [List.mem_cons, List.not_mem_nil, or_false] at hy
        rcases hy with rfl | rfl
        · exact (tb_tup (tbs_cons parts_s (tbs_cons (tb_bl true) tbs_nil))).mono (by omega) (by omega) (by omega)
        · exact up td (by omega) (by omega) (by omega)
    · exact up (tb y hy) (by omega) (by omega) (by omega)
  obtain ⟨h3, e3, H3⟩ := forJ_all (φ := fun x89 x88 => GK__law_is_right_1 (crowdD a) (crowdD b) (toldD a b, toldD a b) x89 x88) Hand (([toldD a b, .tup [.str (Str.ofString s)], .tup [.str (Str.ofString s), x, .int 0], .lst [.str (Str.ofString s), x], .tup [x, .str (Str.ofString s)]] ++ [D.non, .tup [.str (Str.ofString "moved"), .tup [.int 0, .int 0]], .tup [.str (Str.ofString "moved"), .lst [.int 1, .int 2]], .tup [.str (Str.ofString "parts"), .int 0], .tup [.str (Str.ofString "parts"), .int 1]]) ++ [.tup [.str (Str.ofString "parts"), .bl true], dp] ++ bs) (fun s H y hy => ⟨s, turn_ok ha hb hl (all y hy) (by omega) (by omega) (by omega) _ s, H⟩) H2
  have rg : P.range [.int 6] = .ok (intsD 0 6) := range1 (by omega)
  have lbs : bs.length = 6 := by rw [lb]; rfl
  have A1 := oq_add_lst (xs := [toldD a b, .tup [.str (Str.ofString s)], .tup [.str (Str.ofString s), x, .int 0], .lst [.str (Str.ofString s), x], .tup [x, .str (Str.ofString s)]]) (ys := [D.non, .tup [.str (Str.ofString "moved"), .tup [.int 0, .int 0]], .tup [.str (Str.ofString "moved"), .lst [.int 1, .int 2]], .tup [.str (Str.ofString "parts"), .int 0], .tup [.str (Str.ofString "parts"), .int 1]]) (by simp)
  have A2 := oq_add_lst (xs := [toldD a b, .tup [.str (Str.ofString s)], .tup [.str (Str.ofString s), x, .int 0], .lst [.str (Str.ofString s), x], .tup [x, .str (Str.ofString s)]] ++ [D.non, .tup [.str (Str.ofString "moved"), .tup [.int 0, .int 0]], .tup [.str (Str.ofString "moved"), .lst [.int 1, .int 2]], .tup [.str (Str.ofString "parts"), .int 0], .tup [.str (Str.ofString "parts"), .int 1]]) (ys := [.tup [.str (Str.ofString "parts"), .bl true], dp]) (by simp)
  have A3 := oq_add_lst (xs := [toldD a b, .tup [.str (Str.ofString s)], .tup [.str (Str.ofString s), x, .int 0], .lst [.str (Str.ofString s), x], .tup [x, .str (Str.ofString s)]] ++ [D.non, .tup [.str (Str.ofString "moved"), .tup [.int 0, .int 0]], .tup [.str (Str.ofString "moved"), .lst [.int 1, .int 2]], .tup [.str (Str.ofString "parts"), .int 0], .tup [.str (Str.ofString "parts"), .int 1]] ++ [.tup [.str (Str.ofString "parts"), .bl true], dp]) (ys := bs) (by simp; omega)
  refine ⟨h3, ?_, H3⟩
  unfold G__law_is_right H__law_is_right
  rw [f2_e]
  simp only [d, m, P.ok_bind]
  rw [wd]
  simp only [List.cons_append, List.nil_append] at A1 A2 A3 e3
  simp [r, q, s1, s2, rs, qs, T0, T1, T2, T3, e1, rg, e2, A1, A2, A3, e3]
end Lw

namespace Lw
open PySem PySem.Spec PyProof.Rows L2 VS
theorem all_true {xs : List D} (h : ∀ x ∈ xs, x = .bl true) : P.op (fAll [.lst xs]) = .ok (.bl true) := by
  have : xs = (xs.map fun _ => true).map .bl := by
    rw [List.map_map]
    induction xs with
    | nil => rfl
    | cons x xs ih => rw [List.map_cons, ← ih fun y m => h y (List.mem_cons_of_mem _ m), h x List.mem_cons_self]; rfl
  rw [this, oq_all]
  congr 2
  rw [List.all_map]
  simp
theorem grid5 {p : Int × Int} (h : p ∈ grid 5) : (-2 ≤ p.1 ∧ p.1 ≤ 2) ∧ -2 ≤ p.2 ∧ p.2 ≤ 2 := by
  have := grid_mem h
  have e : ((5 : Nat) : Int) / 2 = 2 := by decide
  rw [e] at this
  omega
theorem crowd_of {c : List (Int × Int)} {n : Nat} (l : c.length = n) (h : 3 ≤ n ∧ n ≤ 12) (nd : c.Nodup) (g : ∀ p ∈ c, (-100 ≤ p.1 ∧ p.1 ≤ 100) ∧ -100 ≤ p.2 ∧ p.2 ≤ 100) : Crowd c :=
  ⟨by omega, by omega, fun p m => by have := g p m; unfold near; omega, nd⟩
theorem shift_inj {v p q : Int × Int} (h : shiftP v p = shiftP v q) : p = q := by
  unfold shiftP at h
  injection h with h1 h2
  exact Prod.ext (by omega) (by omega)
theorem law_turn {s x : D} (H : Hand s) : ∃ s', GK_law_1 s x = .ok (.nx s') ∧ Hand s' := by
  obtain ⟨d, h1, e1, H1, d0, d1⟩ := draw_ok H (b := 5) (by omega)
  obtain ⟨m, hm⟩ : ∃ m : Nat, (m : Int) = 3 + d := ⟨(3 + d).toNat, by omega⟩
  obtain ⟨c, h2, e2, H2, cl, cn, cg⟩ := crowd_ok (many := m) (n := 5) H1 (by omega) (by omega)
  rw [hm] at e2
  obtain ⟨a, h3, e3, H3, a0, a1⟩ := draw_ok H2 (b := 9) (by omega)
  obtain ⟨b, h4, e4, H4, b0, b1⟩ := draw_ok H3 (b := 9) (by omega)
  have hc : Crowd c := crowd_of cl (by omega) cn fun p hp => by have := grid5 (cg p hp); omega
  have el : P.lc (GE_law_1 (.tup [.int (a - 4), .int (b - 4)], h4)) (c.map dPair) = .ok (.lst ((c.map (shiftP (a - 4, b - 4))).map dPair)) := by
    rw [List.map_map]
    exact lc_map dPair _ (fun p _ => by simp [GE_law_1, dPair, shiftP]) (by omega)
  obtain ⟨ys, h5, e5, H5, hp⟩ := mixed_ok (xs := (c.map (shiftP (a - 4, b - 4))).map dPair) H4 (.inl rfl) (by simp; omega)
  obtain ⟨t, ht, rfl⟩ := perm_map_inv hp _ rfl
  have tl : t.length = m := by rw [ht.length_eq, List.length_map, cl]
  have tg : ∀ p ∈ t, (-6 ≤ p.1 ∧ p.1 ≤ 6) ∧ -6 ≤ p.2 ∧ p.2 ≤ 6 := fun p hp => by
    obtain ⟨q, hq, rfl⟩ := List.mem_map.mp (ht.mem_iff.mp hp)
    have := grid5 (cg q hq)
    unfold shiftP
    simp only
    omega
  have tn : t.Nodup := by
    refine ht.nodup_iff.mpr ?_
    rw [List.nodup_iff_pairwise_ne] at cn ⊢
    exact List.pairwise_map.mpr (cn.imp fun h e => h (shift_inj e))
  have hT : Crowd t := crowd_of tl (by omega) tn fun p hp => by have := tg p hp; omega
  obtain ⟨k, h6, e6, H6, k0, k1⟩ := draw_ok H5 (b := 9) (by omega)
  have hb : Crowd (t.dropLast ++ [(19, k)]) := by
    refine crowd_of (n := m) (by rw [List.length_append, List.length_dropLast]; simp; omega) (by omega) ?_ fun p hp => ?_
    · refine List.nodup_append.mpr ⟨tn.sublist (List.dropLast_sublist t), List.nodup_cons.mpr ⟨by simp, List.nodup_nil⟩, fun p hp q hq e => ?_⟩
      rw [List.mem_singleton.mp hq] at e
      have := tg p ((List.dropLast_sublist t).subset hp)
      rw [e] at this
      simp only at this
      omega
    · rcases List.mem_append.mp hp with hp | hp
      · have := tg p ((List.dropLast_sublist t).subset hp); omega
      · rw [List.mem_singleton.mp hp]; simp only; omega
  have hbl : c.length = (t.dropLast ++ [(19, k)]).length := by rw [List.length_append, List.length_dropLast]; simp; omega
  obtain ⟨o, h7, e7, H7, ol, on, og⟩ := crowd_ok (many := c.length) (n := 5) H6 (by omega) (by omega)
  have ho : Crowd o := crowd_of (n := m) (by omega) (by omega) on fun p hp => by have := grid5 (og p hp); omega
  obtain ⟨bs, h8, e8, H8, ab, lb⟩ := lcF_all (φ := GE_law_2 (crowdD c, h2)) Hand (fun d => d = .bl true) (ds := [crowdD t, crowdD (t.dropLast ++ [(19, k)]), crowdD o]) (fun s H y hy => by
    simp only [List.mem_cons, List.not_mem_nil, or_false] at hy
    rcases hy with rfl | rfl | rfl
    · obtain ⟨h', e, H'⟩ := is_right_ok H hc hT (by omega)
      exact ⟨.bl true, h', by simp [GE_law_2, e], H', rfl⟩
    · obtain ⟨h', e, H'⟩ := is_right_ok H hc hb hbl
      exact ⟨.bl true, h', by simp [GE_law_2, e], H', rfl⟩
    · obtain ⟨h', e, H'⟩ := is_right_ok H hc ho (by omega)
      exact ⟨.bl true, h', by simp [GE_law_2, e], H', rfl⟩) (by simp) H7
  have al := all_true ab
  have sl : P.op (fSl (crowdD t) none (some (-1))) = .ok (crowdD t.dropLast) := by
    unfold crowdD
    rw [sl_tup_init, List.map_dropLast]
  have ad : P.op (fAdd (crowdD t.dropLast) (.tup [.tup [.int 19, .int k]])) = .ok (crowdD (t.dropLast ++ [(19, k)])) := by
    unfold crowdD
    rw [oq_add_tup (by simp; omega), List.map_append]; rfl
  have an : P.any (crowdD c) = .ok (c.map dPair) := rfl
  have ln : P.op (fLen [crowdD c]) = .ok (.int c.length) := by simp [crowdD]
  have tp : P.op (fTuple [.lst (t.map dPair)]) = .ok (crowdD t) := rfl
  have e2 : G__law_crowd h1 [D.int (3 + d), D.int 5] = .ok (crowdD c, h2) := e2
  have e7 : G__law_crowd h6 [D.int c.length, D.int 5] = .ok (crowdD o, h7) := e7
  exact ⟨h8, by simp [GK_law_1, e1, e2, e3, e4, an, el, e5, tp, sl, e6, ad, ln, e7, e8, al, -List.map_map], H8⟩
theorem three_crowd : Crowd [(0, 0), (1, 0), (2, 0)] := crowd_of (n := 3) rfl (by decide) (by decide) (by decide)
theorem one_crowd : Crowd [(0, 0), (1, 0), (3, 1)] := crowd_of (n := 3) rfl (by decide) (by decide) (by decide)
theorem other_crowd : Crowd [(5, 5), (7, 6), (4, 5)] := crowd_of (n := 3) rfl (by decide) (by decide) (by decide)
theorem three_steps : (countA (stepsOf [(0, 0), (1, 0), (2, 0)])).mergeSort (pairLe lexLe) = [((-2, 0), 1), ((-1, 0), 2), ((1, 0), 2), ((2, 0), 1)] :=
  sort_eq (ord_pair ord_lex) (by decide +kernel) (by decide +kernel)
theorem sort1 : sorted2 [(0, 0), (1, 0), (3, 1)] = [(0, 0), (1, 0), (3, 1)] := sort_eq ord_lex (by decide +kernel) (by decide +kernel)
theorem sort2 : sorted2 [(5, 5), (7, 6), (4, 5)] = [(4, 5), (5, 5), (7, 6)] := sort_eq ord_lex (by decide +kernel) (by decide +kernel)
theorem told_const : toldD [(0, 0), (1, 0), (3, 1)] [(5, 5), (7, 6), (4, 5)] = .tup [.str (Str.ofString "moved"), .tup [.int 4, .int 5]] := by
  have m : movesOf [(0, 0), (1, 0), (3, 1)] [(5, 5), (7, 6), (4, 5)] = [(4, 5), (4, 5), (4, 5)] := by
    unfold movesOf
    rw [sort1, sort2]; rfl
  have o : otherAt [(4, 5), (4, 5), (4, 5)] (4, 5) = [] := by decide +kernel
  unfold toldD
  rw [m]
  simp only [o]
  rfl
theorem plainG {ns : List Int} (hl : ns.length ≤ 63) : G_law [.fl (ns.map .int)] = .ok (.bl true) := by
  obtain ⟨h, e0, H⟩ := law_hand_ok hl
  have s1 := step_counts_ok three_crowd
  have n1 := oq_ne_same (tb_steps three_crowd) (plain_steps _) (by omega)
  have m1 := moved_shown_ok one_crowd other_crowd rfl
  have t1 := (tb_told one_crowd other_crowd rfl).2
  rw [told_const] at m1 t1
  have n2 := oq_ne_same t1 (by decide) (by omega)
  unfold stepsD at s1 n1
  rw [three_steps] at s1 n1
  simp only [crowdD, dPair, dCnt, List.map_cons, List.map_nil] at s1 n1 m1
  obtain ⟨h', e1, H'⟩ := forJ_all (φ := fun x123 x122 => GK_law_1 x123 x122) Hand (intsD 0 5) (fun s H d _ => law_turn H) H
  have rg : P.range [.int 5] = .ok (intsD 0 5) := range1 (by omega)
  simp [G_law, e0, s1, n1, m1, n2, rg, e1]
theorem plain (ns : List Int) (hl : ns.length ≤ 63) : F_law [.fl (ns.map .int)] = .ok (.sh (.bl true)) .non := by
  have c := g_law [.fl (ns.map .int)]
  rw [plainG hl] at c
  obtain ⟨w, l, h1, h2⟩ := c
  have hw : w = .sh (.bl true) := by
    rcases h2 with rfl | ⟨rfl, h⟩
    · rfl
    · cases h
  subst hw
  have hn : l = .non := by
    unfold F_law run0 at h1
    split at h1
    · split at h1
      · split at h1
        · injection h1 with _ h1; exact h1.symm
        · cases h1
      · injection h1 with _ h1; exact h1.symm
      · cases h1
      · cases h1
    · cases h1
  rw [h1, hn]
end Lw

namespace Lw
open PySem PySem.Spec PyProof.Rows L2 VS
theorem tops {K : PySem.W.Frag} {h : Heap} {mg : Str → Option Value} (X : K.In h) (G : h.Ns mainGlobals mg) (c : He.SaysD Hd.fa Hd.fn K) : Tops K mg where
  n_ValueError := He.free_ok X G (c.fact 36 (f := .free "ValueError") rfl)
  n_abs := He.free_ok X G (c.fact 37 (f := .free "abs") rfl)
  n_all := He.free_ok X G (c.fact 38 (f := .free "all") rfl)
  n_bool := He.free_ok X G (c.fact 39 (f := .free "bool") rfl)
  n_enumerate := He.free_ok X G (c.fact 40 (f := .free "enumerate") rfl)
  n_int := He.free_ok X G (c.fact 41 (f := .free "int") rfl)
  n_isinstance := He.free_ok X G (c.fact 42 (f := .free "isinstance") rfl)
  n_len := He.free_ok X G (c.fact 43 (f := .free "len") rfl)
  n_list := He.free_ok X G (c.fact 44 (f := .free "list") rfl)
  n_range := He.free_ok X G (c.fact 45 (f := .free "range") rfl)
  n_repr := He.free_ok X G (c.fact 46 (f := .free "repr") rfl)
  n_sorted := He.free_ok X G (c.fact 47 (f := .free "sorted") rfl)
  n_tuple := He.free_ok X G (c.fact 48 (f := .free "tuple") rfl)
  n_zip := He.free_ok X G (c.fact 49 (f := .free "zip") rfl)
  d_is_integer := by obtain ⟨fd, F⟩ := c.def_ 0 (d := Hd.d_is_integer) rfl; exact ⟨_, fd, F, He.glo_ok X G (c.fact 0 (f := .glo "is_integer") rfl)⟩
  d_is_within := by obtain ⟨fd, F⟩ := c.def_ 1 (d := Hd.d_is_within) rfl; exact ⟨_, fd, F, He.glo_ok X G (c.fact 1 (f := .glo "is_within") rfl)⟩
  d_is_dot := by obtain ⟨fd, F⟩ := c.def_ 2 (d := Hd.d_is_dot) rfl; exact ⟨_, fd, F, He.glo_ok X G (c.fact 2 (f := .glo "is_dot") rfl)⟩
  d_is_crowd := by obtain ⟨fd, F⟩ := c.def_ 3 (d := Hd.d_is_crowd) rfl; exact ⟨_, fd, F, He.glo_ok X G (c.fact 3 (f := .glo "is_crowd") rfl)⟩
  d_check_crowd := by obtain ⟨fd, F⟩ := c.def_ 4 (d := Hd.d_check_crowd) rfl; exact ⟨_, fd, F, He.glo_ok X G (c.fact 4 (f := .glo "check_crowd") rfl)⟩
  d_as_pairs := by obtain ⟨fd, F⟩ := c.def_ 5 (d := Hd.d_as_pairs) rfl; exact ⟨_, fd, F, He.glo_ok X G (c.fact 5 (f := .glo "as_pairs") rfl)⟩
  d_check_two_crowds := by obtain ⟨fd, F⟩ := c.def_ 6 (d := Hd.d_check_two_crowds) rfl; exact ⟨_, fd, F, He.glo_ok X G (c.fact 6 (f := .glo "check_two_crowds") rfl)⟩
  d_raw_step := by obtain ⟨fd, F⟩ := c.def_ 7 (d := Hd.d_raw_step) rfl; exact ⟨_, fd, F, He.glo_ok X G (c.fact 7 (f := .glo "raw_step") rfl)⟩
  d_step_counts := by obtain ⟨fd, F⟩ := c.def_ 8 (d := Hd.d_step_counts) rfl; exact ⟨_, fd, F, He.glo_ok X G (c.fact 8 (f := .glo "step_counts") rfl)⟩
  d_raw_moved_shown := by obtain ⟨fd, F⟩ := c.def_ 9 (d := Hd.d_raw_moved_shown) rfl; exact ⟨_, fd, F, He.glo_ok X G (c.fact 9 (f := .glo "raw_moved_shown") rfl)⟩
  d_check_as_many := by obtain ⟨fd, F⟩ := c.def_ 10 (d := Hd.d_check_as_many) rfl; exact ⟨_, fd, F, He.glo_ok X G (c.fact 10 (f := .glo "check_as_many") rfl)⟩
  d_moved_shown := by obtain ⟨fd, F⟩ := c.def_ 11 (d := Hd.d_moved_shown) rfl; exact ⟨_, fd, F, He.glo_ok X G (c.fact 11 (f := .glo "moved_shown") rfl)⟩
  d_is_moved_shown := by obtain ⟨fd, F⟩ := c.def_ 12 (d := Hd.d_is_moved_shown) rfl; exact ⟨_, fd, F, He.glo_ok X G (c.fact 12 (f := .glo "is_moved_shown") rfl)⟩
  d__law_hand := by obtain ⟨fd, F⟩ := c.def_ 13 (d := Hd.d__law_hand) rfl; exact ⟨_, fd, F, He.glo_ok X G (c.fact 13 (f := .glo "_law_hand") rfl)⟩
  d__law_draw := by obtain ⟨fd, F⟩ := c.def_ 14 (d := Hd.d__law_draw) rfl; exact ⟨_, fd, F, He.glo_ok X G (c.fact 14 (f := .glo "_law_draw") rfl)⟩
  d__law_any := by obtain ⟨fd, F⟩ := c.def_ 15 (d := Hd.d__law_any) rfl; exact ⟨_, fd, F, He.glo_ok X G (c.fact 15 (f := .glo "_law_any") rfl)⟩
  d__law_is_int := by obtain ⟨fd, F⟩ := c.def_ 16 (d := Hd.d__law_is_int) rfl; exact ⟨_, fd, F, He.glo_ok X G (c.fact 16 (f := .glo "_law_is_int") rfl)⟩
  d__law_mixed := by obtain ⟨fd, F⟩ := c.def_ 17 (d := Hd.d__law_mixed) rfl; exact ⟨_, fd, F, He.glo_ok X G (c.fact 17 (f := .glo "_law_mixed") rfl)⟩
  d__law_crowd := by obtain ⟨fd, F⟩ := c.def_ 18 (d := Hd.d__law_crowd) rfl; exact ⟨_, fd, F, He.glo_ok X G (c.fact 18 (f := .glo "_law_crowd") rfl)⟩
  d__law_deep := by obtain ⟨fd, F⟩ := c.def_ 19 (d := Hd.d__law_deep) rfl; exact ⟨_, fd, F, He.glo_ok X G (c.fact 19 (f := .glo "_law_deep") rfl)⟩
  d__law_bent := by obtain ⟨fd, F⟩ := c.def_ 20 (d := Hd.d__law_bent) rfl; exact ⟨_, fd, F, He.glo_ok X G (c.fact 20 (f := .glo "_law_bent") rfl)⟩
  d__law_steps := by obtain ⟨fd, F⟩ := c.def_ 21 (d := Hd.d__law_steps) rfl; exact ⟨_, fd, F, He.glo_ok X G (c.fact 21 (f := .glo "_law_steps") rfl)⟩
  d__law_due := by obtain ⟨fd, F⟩ := c.def_ 22 (d := Hd.d__law_due) rfl; exact ⟨_, fd, F, He.glo_ok X G (c.fact 22 (f := .glo "_law_due") rfl)⟩
  d__law_is_right := by obtain ⟨fd, F⟩ := c.def_ 23 (d := Hd.d__law_is_right) rfl; exact ⟨_, fd, F, He.glo_ok X G (c.fact 23 (f := .glo "_law_is_right") rfl)⟩
  d_law := by obtain ⟨fd, F⟩ := c.def_ 24 (d := Hd.d_law) rfl; exact ⟨_, fd, F, He.glo_ok X G (c.fact 24 (f := .glo "law") rfl)⟩
  e_CrowdError := ⟨_, He.glo_ok X G (c.fact 25 (f := .glo "CrowdError") rfl), He.exc_ok (K := K) (x := "CrowdError") (c.fact 26 (f := .exc "CrowdError") rfl)⟩
  e_NoCrowd := ⟨_, He.glo_ok X G (c.fact 27 (f := .glo "NoCrowd") rfl), He.exc_ok (K := K) (x := "NoCrowd") (c.fact 28 (f := .exc "NoCrowd") rfl)⟩
  e_Unlike := ⟨_, He.glo_ok X G (c.fact 29 (f := .glo "Unlike") rfl), He.exc_ok (K := K) (x := "Unlike") (c.fact 30 (f := .exc "Unlike") rfl)⟩
  s_PARTS := He.str_ok X G (c.fact 34 (f := .str "PARTS" "parts") rfl)
  s_MOVED := He.str_ok X G (c.fact 35 (f := .str "MOVED" "moved") rfl)
  i_MOST_PLACE := He.int_ok X G (c.fact 31 (f := .int "MOST_PLACE" 10000) rfl)
  i_LEAST_CROWD := He.int_ok X G (c.fact 32 (f := .int "LEAST_CROWD" 3) rfl)
  i_MOST_CROWD := He.int_ok X G (c.fact 33 (f := .int "MOST_CROWD" 12) rfl)
end Lw
open PySem PySem.Spec PyProof.Rows L2 VS
namespace Lw
theorem facts {P : Program} {w : World} {K : PySem.W.Frag} {h : Heap} {mg : Str → Option Value} {fa : Addr} (X : K.In h) (G : h.Ns mainGlobals mg) (g : mg ("law" : Str) = some (.ref fa)) (c : He.SaysD Hd.fa Hd.fn K) :
    ∃ fd : FuncData, (∀ (s : Shared) (v : Value), BindsTo s fd ⟨[v], []⟩ [("script", v)]) ∧ ∀ base : Heap, FnG P w K mg base 11 fa fd ["script"] (Prom0 K mg 1 F_law) := by
  have T := tops X G c
  obtain ⟨f, fd, F, hf⟩ := T.d_law
  rw [g] at hf
  cases hf
  exact ⟨fd, fun s v => FunD.bindsA (ps := ["script"]) F (fun _ _ _ _ _ _ us hl => match us, hl with | [_], _ => rfl) s [v] rfl, fun base => fn_law T F⟩
end Lw
open PySem PySem.W PySem.Calls PyProof.Rows
theorem PySem.Challenge.cw_dotcrowds_k89_whole_steps_and_moved_crow_holds : PySem.Challenge.rw_dotcrowds_k89_whole_steps_and_moved_crow.Holds := by
  w_on; o_law; refine HandSHeadRun.head_any (r := OpenLaw.row PySem.Challenge.rw_dotcrowds_k89_whole_steps_and_moved_crow) (q := view (OpenLaw.row PySem.Challenge.rw_dotcrowds_k89_whole_steps_and_moved_crow).prog [37]) (H := Hd.hk) (ob := Hd.ob) (M := 4000) (loose := Hd.ls) (d := HandSHeadRun.topDef (OpenLaw.row PySem.Challenge.rw_dotcrowds_k89_whole_steps_and_moved_crow).prog 37) (kwd := []) Hd.ob_eq (by kernel_rfl) (fun s => by kernel_rfl) Hd.run (by kernel_rfl) (by kernel_rfl) (by kernel_rfl) (by rfl) (by first | assumption | decide +kernel) (by decide +kernel) ⟨rfl, rfl, rfl, rfl, rfl, by decide +kernel⟩ ?witness ?walk
  case witness => w_witness2
  case walk =>
    refine VS.law_end (l := PySem.Challenge.rw_dotcrowds_k89_whole_steps_and_moved_crow) (n := 63) (k := 11) (x := "script") (F := Lw.F_law) rfl (by decide) (by kernel_rfl) ⟨rfl, by decide, by decide⟩ Lw.plain fun w mg fa h Y G g0 => ?_
    obtain ⟨K, KX, cs⟩ := Y
    have g1 : mg ("law" : PySem.Str) = some (.ref fa) := (show (HandSHeadRun.topDef (OpenLaw.row PySem.Challenge.rw_dotcrowds_k89_whole_steps_and_moved_crow).prog 37).name = ("law" : PySem.Str) from by kernel_rfl) ▸ g0
    obtain ⟨fd, hb, hF⟩ := Lw.facts (P := PySem.Challenge.rw_dotcrowds_k89_whole_steps_and_moved_crow.prog) (w := w) KX G g1 cs
    exact ⟨K, fd, KX, hb, fun base _ _ => hF base⟩
