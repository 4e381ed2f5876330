import PyProof.Rows.All
import Wide.All
import OpenK.AllK
import Wide.FinOn
import HandS.ForMost
import HandS.TupAny
import HandS.TupMul
import HandS.TupLe
import HandS.Deep
import HandS.Rev
import HandS.Zip
import HandS.Wide
import HandS.Evl
import KE.DataEq
import KE.DataCmp
import KE.DataAny
import KE.DataMinMax
import KE.DataFind
import KE.DataIsa
import HandS.IsInst
import HandS.Flow
import HandS.Style
import HandS.RevTup
import HandS.SetFor
import HandS.Strs
import HandS.Head0
import HandS.Head1
import HandS.Head2
import HandS.HeadEnd
import HandS.HeadHook1
import HandS.HeadHook2
import HandS.HeadHook3
import HandS.HeadHook4
import HandS.HeadNt
import KE.KTupSum
import KE.SortData
import HandS.TupLen
import HandS.Conv
import KE.KDictDisplayH
import KE.KDictPairs
import KE.KDictCopyH
import HandS.Remove
import HandS.WordsExc
import KE.GoesMore
import PySem.Challenge.RW_codehall_k57_whole_columns_that_share_li
set_option Elab.async false
set_option linter.all false
set_option maxRecDepth 100000
/-! Sem1: plain data D, how it stands in the abstract heap (Rep), the judgement EV (a reading evaluates to a plain function). -/
namespace SL
open PySem L2
open Evl (Ex)

inductive D where
  | non | bl (b : Bool) | int (i : Int) | str (x : Str) | tup (ds : List D) | lst (ds : List D) | ins (c : Nat) (ds : List D) | tok (n : Nat)
  /-- a slot's own list: it stands nowhere else -/
  | own (ds : List D)
  /-- a slot's own dict (tuple keys: t): its keys and values by place -/
  | odk (t : Bool) (ks ds : List D)
  /-- a dict that is read (frozen: z; tuple keys: t): its keys and values by place -/
  | dic (z t : Bool) (ks ds : List D)
  /-- a tuple whose very object is known -/
  | xtup (ds : List D)
  /-- a tuple of the written part -/
  | ktup (ds : List D)
instance : Inhabited D := ⟨.non⟩

def keyD : L2.Key → D
  | .inl i => .int i
  | .inr x => .str x
def FZ (z : Bool) (F : Hp) (a : Addr) (u : HO) : Prop := match z with
  | true => ∃ o, F a = some (.frz o u)
  | false => F a = some u
theorem FZ.mono {z : Bool} {F F' : Hp} {a : Addr} {u : HO} (e : Ex F F') (h : FZ z F a u) : FZ z F' a u := by
  cases z with
  | true => obtain ⟨o, h⟩ := h; exact ⟨o, e _ _ h⟩
  | false => exact e _ _ h
theorem FZ.rd {z : Bool} {F : Hp} {a : Addr} {u : HO} (h : FZ z F a u) : L2.Rd F a u := by
  cases z with
  | true => exact .inr h
  | false => exact .inl h
def xtO (a : Addr) (vs : List V) : HO := .ext fun h => ∃ (its : List Value) (n : Nat), L2.Vals vs its ∧ h.get? a = some { cls := .type "tuple", data := .seq its.toArray n }
def nSums : Str := Str.ofString "sums"
structure RC where
  K : PySem.W.Frag
  cl : Nat → Addr
  nm : Nat → List Str
  tk : Nat → Addr

mutual
inductive Rep (R : RC) (F : Hp) : D → V → Prop
  | non : Rep R F .non .non
  | bl (b : Bool) : Rep R F (.bl b) (.bl b)
  | int (i : Int) : Rep R F (.int i) (.int i)
  | str (x : Str) : Rep R F (.str x) (.str x)
  | tup {a : Addr} {vs : List V} {ds : List D} : F a = some (.tup vs) → Reps R F ds vs → Rep R F (.tup ds) (.ref a)
  | ktup {a : Addr} {vs : List V} {ds : List D} : SqT R.K F a vs → Reps R F ds vs → Rep R F (.ktup ds) (.ref a)
  | lst {a : Addr} {vs : List V} {ds : List D} : F a = some (.lst vs) → Reps R F ds vs → Rep R F (.lst ds) (.ref a)
  /-- more fields may stand at the end, all of one name -/
  | ins {c : Nat} {a dx : Addr} {vs : List V} {ds : List D} {rest : List (Str × V)} : F a = some (.ins (R.cl c) dx ((R.nm c).zip vs ++ rest)) → (∀ x ∈ rest, x.1 = nSums) → (R.nm c).length = vs.length → Reps R F ds vs → Rep R F (.ins c ds) (.ref a)
  | xtup {a : Addr} {vs : List V} {ds : List D} : F a = some (xtO a vs) → Reps R F ds vs → Rep R F (.xtup ds) (.ref a)
  | dicK {z : Bool} {a : Addr} {kvs : List (L2.Key × V)} {ds : List D} : FZ z F a (.dK kvs) → Reps R F ds (kvs.map (·.2)) → Rep R F (.dic z false (kvs.map fun kv => keyD kv.1) ds) (.ref a)
  | dicT {z : Bool} {a : Addr} {kvs : List (List L2.Key × V)} {ds : List D} : FZ z F a (.dT kvs) → Reps R F ds (kvs.map (·.2)) → Rep R F (.dic z true (kvs.map fun kv => D.tup (kv.1.map keyD)) ds) (.ref a)
  | tok (n : Nat) : Rep R F (.tok n) (.ref (R.tk n))
inductive Reps (R : RC) (F : Hp) : List D → List V → Prop
  | nil : Reps R F [] []
  | cons {d : D} {v : V} {ds : List D} {vs : List V} : Rep R F d v → Reps R F ds vs → Reps R F (d :: ds) (v :: vs)
end

/-! no list, no instance within: only what never changes -/
mutual
def D.flat : D → Bool
  | .tup ds => D.flats ds
  | .ktup ds => D.flats ds
  | .lst _ => false
  | .ins _ _ => false
  | .own _ => false
  | .odk _ _ _ => false
  | .dic _ _ _ _ => false
  | .xtup _ => false
  | _ => true
def D.flats : List D → Bool
  | [] => true
  | d :: ds => d.flat && D.flats ds
end

section
variable {R : RC} {F F' G : Hp}
mutual
theorem Rep.mono (e : Ex F F') : ∀ {d : D} {v : V}, Rep R F d v → Rep R F' d v
  | _, _, .non => .non
  | _, _, .bl b => .bl b
  | _, _, .int i => .int i
  | _, _, .str x => .str x
  | _, _, .tup h r => .tup (e _ _ h) (Reps.mono e r)
  | _, _, .ktup h r => .ktup (Evl.ex_t e h) (Reps.mono e r)
  | _, _, .lst h r => .lst (e _ _ h) (Reps.mono e r)
  | _, _, .ins h n l r => .ins (e _ _ h) n l (Reps.mono e r)
  | _, _, .xtup h r => .xtup (e _ _ h) (Reps.mono e r)
  | _, _, .dicK h r => .dicK (h.mono e) (Reps.mono e r)
  | _, _, .dicT h r => .dicT (h.mono e) (Reps.mono e r)
  | _, _, .tok n => .tok n
theorem Reps.mono (e : Ex F F') : ∀ {ds : List D} {vs : List V}, Reps R F ds vs → Reps R F' ds vs
  | _, _, .nil => .nil
  | _, _, .cons h r => .cons (Rep.mono e h) (Reps.mono e r)
end
/-! a flat one leans on tuples alone -/
mutual
theorem Rep.flat (e : ∀ a u, (∃ xs, u = HO.tup xs ∨ ∃ o, u = HO.frz o (.tup xs)) → F a = some u → F' a = some u) : ∀ {d : D} {v : V}, Rep R F d v → d.flat = true → Rep R F' d v
  | _, _, .non, _ => .non
  | _, _, .bl b, _ => .bl b
  | _, _, .int i, _ => .int i
  | _, _, .str x, _ => .str x
  | _, _, .tup h r, k => .tup (e _ _ ⟨_, .inl rfl⟩ h) (Reps.flat e r (by simpa [D.flat] using k))
  | _, _, .ktup h r, k => .ktup (by
      rcases h with (h | ⟨o, h⟩) | h
      · exact .inl (.inl (e _ _ ⟨_, .inl rfl⟩ h))
      · exact .inl (.inr ⟨o, e _ _ ⟨_, .inr ⟨o, rfl⟩⟩ h⟩)
      · exact .inr h) (Reps.flat e r (by simpa [D.flat] using k))
  | _, _, .lst h r, k => by simp [D.flat] at k
  | _, _, .ins h n l r, k => by simp [D.flat] at k
  | _, _, .xtup h r, k => by simp [D.flat] at k
  | _, _, .dicK h r, k => by simp [D.flat] at k
  | _, _, .dicT h r, k => by simp [D.flat] at k
  | _, _, .tok n, _ => .tok n
theorem Reps.flat (e : ∀ a u, (∃ xs, u = HO.tup xs ∨ ∃ o, u = HO.frz o (.tup xs)) → F a = some u → F' a = some u) : ∀ {ds : List D} {vs : List V}, Reps R F ds vs → D.flats ds = true → Reps R F' ds vs
  | _, _, .nil, _ => .nil
  | _, _, .cons h r, k => by
    simp only [D.flats, Bool.and_eq_true] at k
    exact .cons (Rep.flat e h k.1) (Reps.flat e r k.2)
end
theorem Reps.length : ∀ {ds : List D} {vs : List V}, Reps R F ds vs → ds.length = vs.length
  | _, _, .nil => rfl
  | _, _, .cons _ r => by simp [Reps.length r]
theorem Reps.get : ∀ {ds : List D} {vs : List V} {i : Nat} {d : D}, Reps R F ds vs → ds[i]? = some d → ∃ v, vs[i]? = some v ∧ Rep R F d v
  | _, _, _, _, .nil, e => by simp at e
  | _, _, 0, _, .cons h r, e => by simp at e; subst e; exact ⟨_, rfl, h⟩
  | _, _, i + 1, _, .cons h r, e => by
    obtain ⟨v, h1, h2⟩ := Reps.get (i := i) r (by simpa using e)
    exact ⟨v, by simpa using h1, h2⟩
theorem Reps.getV : ∀ {ds : List D} {vs : List V} {i : Nat} {v : V}, Reps R F ds vs → vs[i]? = some v → ∃ d, ds[i]? = some d ∧ Rep R F d v
  | _, _, _, _, .nil, e => by simp at e
  | _, _, 0, _, .cons h r, e => by simp at e; subst e; exact ⟨_, rfl, h⟩
  | _, _, i + 1, _, .cons h r, e => by
    obtain ⟨v, h1, h2⟩ := Reps.getV (i := i) r (by simpa using e)
    exact ⟨v, by simpa using h1, h2⟩
theorem Reps.append : ∀ {ds es : List D} {vs ws : List V}, Reps R F ds vs → Reps R F es ws → Reps R F (ds ++ es) (vs ++ ws)
  | _, _, _, _, .nil, s => s
  | _, _, _, _, .cons h r, s => .cons h (Reps.append r s)
theorem Reps.take : ∀ {ds : List D} {vs : List V} (n : Nat), Reps R F ds vs → Reps R F (ds.take n) (vs.take n)
  | _, _, 0, _ => by simpa using Reps.nil
  | _, _, _ + 1, .nil => by simpa using Reps.nil
  | _, _, n + 1, .cons h r => .cons h (Reps.take n r)
theorem Reps.drop : ∀ {ds : List D} {vs : List V} (n : Nat), Reps R F ds vs → Reps R F (ds.drop n) (vs.drop n)
  | _, _, 0, r => r
  | _, _, _ + 1, .nil => by simpa using Reps.nil
  | _, _, n + 1, .cons h r => Reps.drop n r
theorem Reps.set {d : D} {v : V} (h : Rep R F d v) : ∀ {ds : List D} {vs : List V} (i : Nat), Reps R F ds vs → Reps R F (ds.set i d) (vs.set i v)
  | _, _, _, .nil => by simpa using Reps.nil
  | _, _, 0, .cons _ r => .cons h r
  | _, _, i + 1, .cons g r => .cons g (Reps.set h i r)
theorem Reps.reverse {ds : List D} {vs : List V} (r : Reps R F ds vs) : Reps R F ds.reverse vs.reverse := by
  induction ds generalizing vs with
  | nil => cases r; exact .nil
  | cons d ds ih =>
    cases r with
    | cons h r => rw [List.reverse_cons, List.reverse_cons]; exact (ih r).append (.cons h .nil)
theorem Reps.eraseIdx : ∀ {ds : List D} {vs : List V} (i : Nat), Reps R F ds vs → Reps R F (ds.eraseIdx i) (vs.eraseIdx i)
  | _, _, _, .nil => by simpa using Reps.nil
  | _, _, 0, .cons _ r => by simpa using r
  | _, _, i + 1, .cons g r => by simpa using Reps.cons g (Reps.eraseIdx i r)
theorem Reps.rep {ds : List D} {vs : List V} (r : Reps R F ds vs) : ∀ n : Nat, Reps R F (List.replicate n ds).flatten (List.replicate n vs).flatten
  | 0 => by simpa using Reps.nil
  | n + 1 => by rw [List.replicate_succ, List.replicate_succ, List.flatten_cons, List.flatten_cons]; exact r.append (Reps.rep r n)
theorem Reps.ints : ∀ {ns : List Int}, Reps R F (ns.map D.int) (ns.map V.int)
  | [] => .nil
  | _ :: _ => .cons (.int _) Reps.ints
theorem Reps.nil_iff {ds : List D} {vs : List V} (r : Reps R F ds vs) : vs = [] ↔ ds = [] := by
  cases r with
  | nil => exact ⟨fun _ => rfl, fun _ => rfl⟩
  | cons h r => exact ⟨fun e => (nomatch e), fun e => (nomatch e)⟩
end

/-- the heap grows: the part that is seen, F, and the whole, H; what stands at z may change -/
structure Grow (z : Addr → Prop) (F H F' H' : Hp) : Prop where
  hh : ∀ a o, ¬ z a → H a = some o → H' a = some o
  ff : Ex F F'
  fh : Ex F' H'
  nw : ∀ a o, F' a = some o → F a = some o ∨ H a = none ∨ ∃ xs, o = .tup xs ∧ H a = some o
/-- pure growth: nothing changes -/
abbrev Gr0 : Hp → Hp → Hp → Hp → Prop := Grow fun _ => False

section
variable {z : Addr → Prop} {F H F1 H1 F2 H2 F' H' : Hp}
/-- there, and no tuple -/
abbrev NT (o : Option HO) : Prop := o ≠ none ∧ ∀ xs, o ≠ some (.tup xs)
theorem Grow.refl (e : Ex F H) : Grow z F H F H := ⟨fun _ _ _ h => h, Ex.refl F, e, fun _ _ h => .inl h⟩
theorem Gr0.ex (g : Gr0 F H F' H') : Ex H H' := fun a o h => g.hh a o (fun z => z) h
theorem Grow.trans (a : Grow z F H F1 H1) (b : Grow z F1 H1 F2 H2) (hz : ∀ p, z p → NT (H1 p)) : Grow z F H F2 H2 where
  hh := fun p o n h => b.hh p o n (a.hh p o n h)
  ff := a.ff.trans b.ff
  fh := b.fh
  nw := fun p o h => by
    rcases b.nw p o h with q | q | ⟨xs, q1, q⟩
    · exact a.nw p o q
    · refine .inr (.inl ?_)
      by_cases hp : z p
      · exact absurd q (hz p hp).1
      · cases e : H p with
        | none => rfl
        | some u => rw [a.hh p u hp e] at q; cases q
    · by_cases hp : z p
      · exact absurd (by rw [q, q1]) ((hz p hp).2 xs)
      · cases e : H p with
        | none => exact .inr (.inl rfl)
        | some u => rw [a.hh p u hp e] at q; cases q; exact .inr (.inr ⟨xs, q1, rfl⟩)
theorem Gr0.up (g : Gr0 F H F' H') : Grow z F H F' H' := ⟨fun p o _ h => g.hh p o (fun z => z) h, g.ff, g.fh, g.nw⟩
theorem Gr0.trans (a : Gr0 F H F1 H1) (b : Gr0 F1 H1 F2 H2) : Gr0 F H F2 H2 := Grow.trans a b fun _ h => h.elim
/-- a new object, seen -/
theorem Gr0.new {p : Addr} {o : HO} (e : Ex F H) (hp : H p = none) : Gr0 F H (upd F p o) (upd H p o) where
  hh := fun a u _ h => by rw [upd_ne (ne_of_none h hp)]; exact h
  ff := fun a u h => by rw [upd_ne (ne_of_none (e a u h) hp)]; exact h
  fh := fun a u h => by
    by_cases hb : a = p
    · subst hb; rw [upd_same] at h ⊢; exact h
    · rw [upd_ne hb] at h ⊢; exact e a u h
  nw := fun a u h => by
    by_cases hb : a = p
    · subst hb; exact .inr (.inl hp)
    · rw [upd_ne hb] at h; exact .inl h
/-- .. not seen -/
theorem Gr0.newH {p : Addr} {o : HO} (e : Ex F H) (hp : H p = none) : Gr0 F H F (upd H p o) where
  hh := fun a u _ h => by rw [upd_ne (ne_of_none h hp)]; exact h
  ff := Ex.refl F
  fh := fun a u h => by rw [upd_ne (ne_of_none (e a u h) hp)]; exact e a u h
  nw := fun a u h => .inl h
theorem Ex.none {H H' : Hp} (e : Ex H H') {p : Addr} (h : H' p = none) : H p = none := Evl.fresh_back e h
end

/-- what a program carries beside its names: a state of type S that stands in the heap at z -/
structure SK (S : Type) where
  z : Addr → Prop
  ok : S → Hp → Prop
  keep : ∀ s H H', ok s H → (∀ a, z a → H' a = H a) → ok s H'
  has : ∀ s H a, ok s H → z a → NT (H a)
/-- none -/
def sk0 : SK Unit := ⟨fun _ => False, fun _ _ => True, fun _ _ _ _ _ => trivial, fun _ _ _ _ h => h.elim⟩

theorem SK.grow {S : Type} (Z : SK S) {s : S} {F H F' H' : Hp} (h : Z.ok s H) (g : Gr0 F H F' H') : Z.ok s H' :=
  Z.keep s H H' h (fun a ha => by
    cases e : H a with
    | none => exact absurd e (Z.has s H a h ha).1
    | some o => exact g.ex a o e)

abbrev Env := List (Option D)
abbrev Fn (S α : Type) := Env → S → Option (α × S)

def D.isOwn : D → Bool
  | .own _ => true
  | .odk _ _ _ => true
  | _ => false
/-- the dict o holds these keys and values -/
def DictAt (R : RC) (F : Hp) : Bool → List D → List D → HO → Prop
  | false, ks, ds, o => ∃ kvs : List (L2.Key × V), o = .dK kvs ∧ ks = kvs.map (fun kv => keyD kv.1) ∧ Reps R F ds (kvs.map (·.2))
  | true, ks, ds, o => ∃ kvs : List (List L2.Key × V), o = .dT kvs ∧ ks = kvs.map (fun kv => D.tup (kv.1.map keyD)) ∧ Reps R F ds (kvs.map (·.2))
theorem DictAt.mono {R : RC} {F F' : Hp} (e : Ex F F') : ∀ {t : Bool} {ks ds : List D} {o : HO}, DictAt R F t ks ds o → DictAt R F' t ks ds o
  | false, _, _, _, ⟨kvs, a, b, c⟩ => ⟨kvs, a, b, c.mono e⟩
  | true, _, _, _, ⟨kvs, a, b, c⟩ => ⟨kvs, a, b, c.mono e⟩
/-- what an own slot's object is -/
def OwnObj (R : RC) (F : Hp) : D → HO → Prop
  | .own ds, o => ∃ vs, o = .lst vs ∧ Reps R F ds vs
  | .odk t ks ds, o => DictAt R F t ks ds o
  | _, _ => False
theorem OwnObj.mono {R : RC} {F F' : Hp} (e : Ex F F') : ∀ {d : D} {o : HO}, OwnObj R F d o → OwnObj R F' d o
  | .own _, _, ⟨vs, a, b⟩ => ⟨vs, a, b.mono e⟩
  | .odk _ _ _, _, h => DictAt.mono e h
theorem OwnObj.noTup {R : RC} {F : Hp} : ∀ {d : D} {o : HO}, OwnObj R F d o → ¬ ∃ xs, o = HO.tup xs ∨ ∃ w, o = HO.frz w (.tup xs)
  | .own _, _, ⟨vs, a, b⟩ => by subst a; rintro ⟨xs, q | ⟨w, q⟩⟩ <;> cases q
  | .odk false _ _, _, ⟨kvs, a, b⟩ => by subst a; rintro ⟨xs, q | ⟨w, q⟩⟩ <;> cases q
  | .odk true _ _, _, ⟨kvs, a, b⟩ => by subst a; rintro ⟨xs, q | ⟨w, q⟩⟩ <;> cases q
theorem rep_own {R : RC} {F : Hp} {x : D} {w : V} (h : Rep R F x w) : x.isOwn = false := by cases h <;> rfl
theorem rep_ownF {R : RC} {F : Hp} {x : D} {w : V} {P : Prop} (h : Rep R F x w) (k : x.isOwn = true) : P := by rw [rep_own h] at k; cases k
/-- the slots hold what env says, as F sees it; m: own lists are seen too -/
structure Slots (R : RC) (F : Hp) (m : Bool) (σ : L2.St) (env : Env) : Prop where
  sh : ∀ (i : Nat) (d : D), d.isOwn = false → env[i]? = some (some d) → ∃ v, σ[i]? = some (some v) ∧ Rep R F d v
  ow : m = true → ∀ (i : Nat) (d : D), d.isOwn = true → env[i]? = some (some d) → ∃ p o, σ[i]? = some (some (.ref p)) ∧ F p = some o ∧ OwnObj R F d o
theorem Slots.mono {R : RC} {F F' : Hp} {m : Bool} {σ : L2.St} {env : Env} (s : Slots R F m σ env) (e : Ex F F') : Slots R F' m σ env := ⟨fun i d h1 h2 =>
  let ⟨v, a, b⟩ := s.sh i d h1 h2
  ⟨v, a, b.mono e⟩, fun h1 i d h3 h2 =>
  let ⟨p, o, a, b, c⟩ := s.ow h1 i d h3 h2
  ⟨p, o, a, e _ _ b, c.mono e⟩⟩

/-- what stands ahead of an evaluation -/
structure Pre {S : Type} (R : RC) (Z : SK S) (m : Bool) (σ : L2.St) (env : Env) (F H : Hp) (s : S) : Prop where
  fh : Ex F H
  zf : ∀ a, Z.z a → F a = none
  ok : Z.ok s H
  sl : Slots R F m σ env
  len : σ.length = env.length
section
variable {S : Type} {R : RC} {Z : SK S} {m : Bool} {σ : L2.St} {env : Env} {F H F' H' : Hp} {s s' : S}
theorem Pre.hz (p : Pre R Z m σ env F H s) : ∀ a, Z.z a → NT (H a) := fun a ha => Z.has s H a p.ok ha
theorem Pre.next (p : Pre R Z m σ env F H s) (g : Grow Z.z F H F' H') (k : Z.ok s' H') : Pre R Z m σ env F' H' s' where
  fh := g.fh
  zf := fun a ha => by
    cases e : F' a with
    | none => rfl
    | some o =>
      rcases g.nw a o e with q | q | ⟨xs, q1, q⟩
      · rw [p.zf a ha] at q; cases q
      · exact absurd q (p.hz a ha).1
      · exact absurd (by rw [q, q1]) ((p.hz a ha).2 xs)
  ok := k
  sl := p.sl.mono g.ff
  len := p.len
theorem Pre.next0 (p : Pre R Z m σ env F H s) (g : Gr0 F H F' H') : Pre R Z m σ env F' H' s := p.next g.up (Z.grow p.ok g)
end

section
variable {S : Type} (R : RC) (Z : SK S) (m : Bool)
def EV (t : TE) (f : Fn S D) : Prop := ∀ σ env F H s d s' Q, Pre R Z m σ env F H s → f env s = some (d, s') →
  (∀ v F' H', Grow Z.z F H F' H' → Z.ok s' H' → Rep R F' d v → Q v H') → t σ H Q
def EVt (t : TT) (f : Fn S Bool) : Prop := ∀ σ env F H s b s' Q, Pre R Z m σ env F H s → f env s = some (b, s') →
  (∀ F' H', Grow Z.z F H F' H' → Z.ok s' H' → Q b H') → t σ H Q
def EVa (t : TA) (f : Fn S (List D)) : Prop := ∀ σ env F H s ds s' Q, Pre R Z m σ env F H s → f env s = some (ds, s') →
  (∀ vs F' H', Grow Z.z F H F' H' → Z.ok s' H' → Reps R F' ds vs → Q vs H') → t σ H Q
/-- a NEW list of these items -/
def EVl (t : TE) (f : Fn S (List D)) : Prop := ∀ σ env F H s ds s' Q, Pre R Z m σ env F H s → f env s = some (ds, s') →
  (∀ p vs F' H', Grow Z.z F H F' H' → Z.ok s' H' → H p = none → F' p = none → H' p = some (.lst vs) → Reps R F' ds vs → Q (.ref p) H') → t σ H Q
/-- a part of a slice -/
def EVo (t : TO) (f : Fn S (Option Int)) : Prop := ∀ σ env F H s o s' Q, Pre R Z m σ env F H s → f env s = some (o, s') →
  (∀ F' H', Grow Z.z F H F' H' → Z.ok s' H' → Q o H') → t σ H Q
end

/-! ### the plain functions -/
section
variable {S α β γ : Type}
@[inline] def fBind (fa : Fn S α) (k : α → Fn S β) : Fn S β := fun env s => match fa env s with
  | some (x, s1) => k x env s1
  | none => none
def fVar (i : Nat) : Fn S D := fun env s => match env[i]? with
  | some (some (.own _)) => none
  | some (some (.odk _ _ _)) => none
  | some (some d) => some (d, s)
  | _ => none
/-- where own lists are seen -/
def fVarB (i : Nat) : Fn S D := fun env s => match env[i]? with
  | some (some (.own ds)) => some (.lst ds, s)
  | some (some (.odk t ks ds)) => some (.dic false t ks ds, s)
  | some (some d) => some (d, s)
  | _ => none
def fC (d : D) : Fn S D := fun _ s => some (d, s)
def fOp (g : D → D → Option D) (fa fb : Fn S D) : Fn S D := fun env s => match fa env s with
  | none => none
  | some (x, s1) => match fb env s1 with
    | none => none
    | some (y, s2) => match g x y with
      | none => none
      | some d => some (d, s2)
def fUn (g : D → Option D) (fa : Fn S D) : Fn S D := fun env s => match fa env s with
  | none => none
  | some (x, s1) => match g x with
    | none => none
    | some d => some (d, s1)
def fNil : Fn S (List D) := fun _ s => some ([], s)
def fCons (fa : Fn S D) (fr : Fn S (List D)) : Fn S (List D) := fun env s => match fa env s with
  | none => none
  | some (x, s1) => match fr env s1 with
    | none => none
    | some (xs, s2) => some (x :: xs, s2)
def fTup (fa : Fn S (List D)) : Fn S D := fun env s => match fa env s with
  | none => none
  | some (xs, s1) => if xs.length ≤ 100000 then some (.tup xs, s1) else none
def fLst (fa : Fn S (List D)) : Fn S (List D) := fun env s => match fa env s with
  | none => none
  | some (xs, s1) => if xs.length ≤ 100000 then some (xs, s1) else none
/-- a new list as a value -/
def fL (fa : Fn S (List D)) : Fn S D := fun env s => match fa env s with
  | none => none
  | some (xs, s1) => some (.lst xs, s1)
def asB : D → Option Bool
  | .bl b => some b
  | _ => none
/-- a value that is a bool, as a test -/
def fTest (fa : Fn S D) : Fn S Bool := fun env s => match fa env s with
  | some (.bl b, s1) => some (b, s1)
  | _ => none
def fAnd (fa fb : Fn S Bool) : Fn S Bool := fun env s => match fa env s with
  | some (true, s1) => fb env s1
  | some (false, s1) => some (false, s1)
  | none => none
def fOr (fa fb : Fn S Bool) : Fn S Bool := fun env s => match fa env s with
  | some (true, s1) => some (true, s1)
  | some (false, s1) => fb env s1
  | none => none
def fNot (fa : Fn S Bool) : Fn S Bool := fun env s => match fa env s with
  | some (b, s1) => some (!b, s1)
  | none => none
def fAndV (fa fb : Fn S D) : Fn S D := fun env s => match fa env s with
  | some (.bl true, s1) => fb env s1
  | some (.bl false, s1) => some (.bl false, s1)
  | _ => none
def fOrV (fa fb : Fn S D) : Fn S D := fun env s => match fa env s with
  | some (.bl true, s1) => some (.bl true, s1)
  | some (.bl false, s1) => fb env s1
  | _ => none
def fNotV (fa : Fn S D) : Fn S D := fun env s => match fa env s with
  | some (.bl b, s1) => some (.bl (!b), s1)
  | _ => none
def fIf (ft : Fn S Bool) (fa fb : Fn S D) : Fn S D := fun env s => match ft env s with
  | some (true, s1) => fa env s1
  | some (false, s1) => fb env s1
  | none => none
/-- a call of a function of data (pure) -/
def fCall (g : List D → Option D) (fa : Fn S (List D)) : Fn S D := fun env s => match fa env s with
  | none => none
  | some (xs, s1) => match g xs with
    | none => none
    | some d => some (d, s1)
/-- .. that turns the state -/
def fCallS (g : List D → S → Option (D × S)) (fa : Fn S (List D)) : Fn S D := fun env s => match fa env s with
  | none => none
  | some (xs, s1) => g xs s1
end

/-! ### operations by values -/
def OpE (R : RC) (r : R2) (g : D → D → Option D) : Prop := ∀ F H x y vx vy d (Q : VK), Ex F H → Rep R F x vx → Rep R F y vy → g x y = some d →
  (∀ v F' H', Gr0 F H F' H' → Rep R F' d v → Q v H') → r vx vy H Q
def UnE (R : RC) (r : V → Hp → VK → Prop) (g : D → Option D) : Prop := ∀ F H x vx d (Q : VK), Ex F H → Rep R F x vx → g x = some d →
  (∀ v F' H', Gr0 F H F' H' → Rep R F' d v → Q v H') → r vx H Q
def CallE (R : RC) (r : List V → Hp → VK → Prop) (g : List D → Option D) : Prop := ∀ F H xs vs d (Q : VK), Ex F H → Reps R F xs vs → g xs = some d →
  (∀ v F' H', Gr0 F H F' H' → Rep R F' d v → Q v H') → r vs H Q

section
variable {S : Type} {R : RC} {Z : SK S} {m : Bool} {ta tb te : TE} {fa fb fe : Fn S D} {t u : TT} {ft fu : Fn S Bool} {tr : TA} {fr : Fn S (List D)}
theorem EV.var {i : Nat} : EV R Z m (tVar i) (fVar i) := by
  intro σ env F H s d s' Q p e q
  unfold fVar at e
  split at e
  · cases e
  · cases e
  · rename_i d' hn hn2 hi
    cases e
    have : d.isOwn = false := by
      cases d with
      | own ds => exact absurd rfl (hn ds)
      | odk t ks ds => exact absurd rfl (hn2 t ks ds)
      | _ => rfl
    obtain ⟨v, h1, h2⟩ := p.sl.sh i d this hi
    exact ⟨v, h1, q v F H (Grow.refl p.fh) p.ok h2⟩
  · cases e
theorem EV.varB {i : Nat} : EV R Z true (tVar i) (fVarB i) := by
  intro σ env F H s d s' Q p e q
  unfold fVarB at e
  split at e
  · rename_i ds hi
    cases e
    obtain ⟨a, o, h1, h2, vs, h3, h4⟩ := p.sl.ow rfl i (.own ds) rfl hi
    subst h3
    exact ⟨.ref a, h1, q _ F H (Grow.refl p.fh) p.ok (.lst h2 h4)⟩
  · rename_i t ks ds hi
    cases e
    obtain ⟨a, o, h1, h2, h3⟩ := p.sl.ow rfl i (.odk t ks ds) rfl hi
    refine ⟨.ref a, h1, q _ F H (Grow.refl p.fh) p.ok ?_⟩
    cases t with
    | false => obtain ⟨kvs, e1, e2, e3⟩ := h3; subst e1 e2; exact .dicK (z := false) h2 e3
    | true => obtain ⟨kvs, e1, e2, e3⟩ := h3; subst e1 e2; exact .dicT (z := false) h2 e3
  · rename_i d' hn hn2 hi
    cases e
    have : d.isOwn = false := by
      cases d with
      | own ds => exact absurd rfl (hn ds)
      | odk t ks ds => exact absurd rfl (hn2 t ks ds)
      | _ => rfl
    obtain ⟨v, h1, h2⟩ := p.sl.sh i d this hi
    exact ⟨v, h1, q v F H (Grow.refl p.fh) p.ok h2⟩
  · cases e
theorem EV.c {v : V} {d : D} (h : ∀ F, Rep R F d v) : EV R Z m (tC v) (fC d) := by
  intro σ env F H s d' s' Q p e q
  simp only [fC, Option.some.injEq, Prod.mk.injEq] at e
  obtain ⟨e1, e2⟩ := e
  subst e1 e2
  exact q v F H (Grow.refl p.fh) p.ok (h F)
theorem EV.op {r : R2} {g : D → D → Option D} (ha : EV R Z m ta fa) (hb : EV R Z m tb fb) (hr : OpE R r g) : EV R Z m (tOp r ta tb) (fOp g fa fb) := by
  intro σ env F H s d s' Q p e q
  unfold fOp at e
  cases h1 : fa env s with
  | none => rw [h1] at e; cases e
  | some o1 =>
    obtain ⟨x, s1⟩ := o1
    rw [h1] at e
    cases h2 : fb env s1 with
    | none => simp only [h2] at e; cases e
    | some o2 =>
      obtain ⟨y, s2⟩ := o2
      simp only [h2] at e
      cases h3 : g x y with
      | none => rw [h3] at e; cases e
      | some d3 =>
        rw [h3] at e
        simp only [Option.some.injEq, Prod.mk.injEq] at e
        obtain ⟨e1, e2⟩ := e
        subst e1 e2
        refine ha σ env F H s x s1 _ p h1 fun vx F1 H1 g1 k1 r1 => ?_
        have p1 := p.next g1 k1
        refine hb σ env F1 H1 s1 y s2 _ p1 h2 fun vy F2 H2 g2 k2 r2 => ?_
        have p2 := p1.next g2 k2
        refine hr F2 H2 x y vx vy d3 _ p2.fh (r1.mono g2.ff) r2 h3 fun v F3 H3 g3 r3 => ?_
        exact q v F3 H3 ((g1.trans g2 p1.hz).trans g3.up p2.hz) (Z.grow k2 g3) r3
theorem EV.un {r : V → Hp → VK → Prop} {g : D → Option D} (ha : EV R Z m ta fa) (hr : UnE R r g) : EV R Z m (tUn r ta) (fUn g fa) := by
  intro σ env F H s d s' Q p e q
  unfold fUn at e
  cases h1 : fa env s with
  | none => rw [h1] at e; cases e
  | some o1 =>
    obtain ⟨x, s1⟩ := o1
    rw [h1] at e
    cases h3 : g x with
    | none => simp only [h3] at e; cases e
    | some d3 =>
      simp only [h3, Option.some.injEq, Prod.mk.injEq] at e
      obtain ⟨e1, e2⟩ := e
      subst e1 e2
      refine ha σ env F H s x s1 _ p h1 fun vx F1 H1 g1 k1 r1 => ?_
      have p1 := p.next g1 k1
      refine hr F1 H1 x vx d3 _ p1.fh r1 h3 fun v F3 H3 g3 r3 => ?_
      exact q v F3 H3 (g1.trans g3.up p1.hz) (Z.grow k1 g3) r3
theorem EVa.nil : EVa R Z m tNil fNil := by
  intro σ env F H s ds s' Q p e q
  simp only [fNil, Option.some.injEq, Prod.mk.injEq] at e
  obtain ⟨e1, e2⟩ := e
  subst e1 e2
  exact q [] F H (Grow.refl p.fh) p.ok .nil
theorem EVa.cons (ha : EV R Z m ta fa) (hr : EVa R Z m tr fr) : EVa R Z m (tCons ta tr) (fCons fa fr) := by
  intro σ env F H s ds s' Q p e q
  unfold fCons at e
  cases h1 : fa env s with
  | none => rw [h1] at e; cases e
  | some o1 =>
    obtain ⟨x, s1⟩ := o1
    rw [h1] at e
    cases h2 : fr env s1 with
    | none => simp only [h2] at e; cases e
    | some o2 =>
      obtain ⟨xs, s2⟩ := o2
      simp only [h2, Option.some.injEq, Prod.mk.injEq] at e
      obtain ⟨e1, e2⟩ := e
      subst e1 e2
      refine ha σ env F H s x s1 _ p h1 fun vx F1 H1 g1 k1 r1 => ?_
      have p1 := p.next g1 k1
      refine hr σ env F1 H1 s1 xs s2 _ p1 h2 fun vs F2 H2 g2 k2 r2 => ?_
      exact q (vx :: vs) F2 H2 (g1.trans g2 p1.hz) k2 (.cons (r1.mono g2.ff) r2)
theorem sz5 {n : Nat} (h : n ≤ 100000) : n ≤ sizeLine := Evl.sz_of h
theorem EV.tup (h : EVa R Z m tr fr) : EV R Z m (tTup tr) (fTup fr) := by
  intro σ env F H s d s' Q p e q
  unfold fTup at e
  cases h1 : fr env s with
  | none => rw [h1] at e; cases e
  | some o1 =>
    obtain ⟨xs, s1⟩ := o1
    rw [h1] at e
    simp only at e
    split at e
    · rename_i hl
      simp only [Option.some.injEq, Prod.mk.injEq] at e
      obtain ⟨e1, e2⟩ := e
      subst e1 e2
      refine h σ env F H s xs s1 _ p h1 fun vs F1 H1 g1 k1 r1 => ?_
      have p1 := p.next g1 k1
      refine ⟨sz5 (by rw [← r1.length]; exact hl), fun a ha => ?_⟩
      have g2 : Gr0 F1 H1 (upd F1 a (.tup vs)) (upd H1 a (.tup vs)) := Gr0.new p1.fh ha
      exact q (.ref a) _ _ (g1.trans g2.up p1.hz) (Z.grow k1 g2) (.tup upd_same (r1.mono g2.ff))
    · cases e
theorem EVl.lst (h : EVa R Z m tr fr) : EVl R Z m (tLst tr) (fLst fr) := by
  intro σ env F H s ds s' Q p e q
  unfold fLst at e
  cases h1 : fr env s with
  | none => rw [h1] at e; cases e
  | some o1 =>
    obtain ⟨xs, s1⟩ := o1
    rw [h1] at e
    simp only at e
    split at e
    · rename_i hl
      simp only [Option.some.injEq, Prod.mk.injEq] at e
      obtain ⟨e1, e2⟩ := e
      subst e1 e2
      refine h σ env F H s xs s1 _ p h1 fun vs F1 H1 g1 k1 r1 => ?_
      have p1 := p.next g1 k1
      refine ⟨sz5 (by rw [← r1.length]; exact hl), fun a ha => ?_⟩
      have g2 : Gr0 F1 H1 F1 (upd H1 a (.lst vs)) := Gr0.newH p1.fh ha
      have hF : F1 a = none := Ex.none p1.fh ha
      refine q a vs F1 _ (g1.trans g2.up p1.hz) (Z.grow k1 g2) ?_ hF upd_same r1
      by_cases hz : Z.z a
      · exact absurd ha (p1.hz a hz).1
      · cases e : H a with
        | none => rfl
        | some o => rw [g1.hh a o hz e] at ha; cases ha
    · cases e
/-- a new list is a value -/
theorem EVl.ev {te : TE} {fe : Fn S (List D)} (h : EVl R Z m te fe) : EV R Z m te (fL fe) := by
  intro σ env F H s d s' Q p e q
  unfold fL at e
  cases h1 : fe env s with
  | none => rw [h1] at e; cases e
  | some o1 =>
    obtain ⟨xs, s1⟩ := o1
    rw [h1] at e
    simp only [Option.some.injEq, Prod.mk.injEq] at e
    obtain ⟨e1, e2⟩ := e
    subst e1 e2
    refine h σ env F H s xs s1 _ p h1 fun a vs F1 H1 g1 k1 n1 nF hH r1 => ?_
    have g2 : Grow Z.z F H (upd F1 a (.lst vs)) H1 := ⟨g1.hh, fun b u e => by rw [upd_ne (ne_of_none (g1.ff b u e) nF)]; exact g1.ff b u e, fun b u e => by
      by_cases hb : b = a
      · subst hb; rw [upd_same] at e; rw [hH]; exact e
      · rw [upd_ne hb] at e; exact g1.fh b u e, fun b u e => by
      by_cases hb : b = a
      · subst hb; exact .inr (.inl n1)
      · rw [upd_ne hb] at e; exact g1.nw b u e⟩
    exact q (.ref a) _ _ g2 k1 (.lst upd_same (r1.mono fun b u e => by rw [upd_ne (ne_of_none e nF)]; exact e))
theorem EVt.test (h : EV R Z m ta fa) : EVt R Z m (tTest ta) (fTest fa) := by
  intro σ env F H s b s' Q p e q
  unfold fTest at e
  cases h1 : fa env s with
  | none => rw [h1] at e; cases e
  | some o1 =>
    obtain ⟨x, s1⟩ := o1
    rw [h1] at e
    cases x with
    | bl b1 =>
      simp only [Option.some.injEq, Prod.mk.injEq] at e
      obtain ⟨e1, e2⟩ := e
      subst e1 e2
      refine h σ env F H s _ s1 _ p h1 fun v F1 H1 g1 k1 r1 => ?_
      cases r1
      exact ⟨b1, rfl, q F1 H1 g1 k1⟩
    | _ => cases e
theorem EVt.tB (h : EV R Z m ta fa) : EVt R Z m (L2.tB ta) (fTest fa) := EVt.test h
theorem EVt.and (h1 : EVt R Z m t ft) (h2 : EVt R Z m u fu) : EVt R Z m (tAnd t u) (fAnd ft fu) := by
  intro σ env F H s b s' Q p e q
  unfold fAnd at e
  cases e1 : ft env s with
  | none => rw [e1] at e; cases e
  | some o1 =>
    obtain ⟨b1, s1⟩ := o1
    rw [e1] at e
    refine h1 σ env F H s b1 s1 _ p e1 fun F1 H1 g1 k1 => ?_
    have p1 := p.next g1 k1
    cases b1 with
    | true =>
      show u σ H1 Q
      exact h2 σ env F1 H1 s1 b s' _ p1 e fun F2 H2 g2 k2 => q F2 H2 (g1.trans g2 p1.hz) k2
    | false =>
      simp only [Option.some.injEq, Prod.mk.injEq] at e
      obtain ⟨e2, e3⟩ := e
      subst e2 e3
      show Q false H1
      exact q F1 H1 g1 k1
theorem EVt.or (h1 : EVt R Z m t ft) (h2 : EVt R Z m u fu) : EVt R Z m (tOr t u) (fOr ft fu) := by
  intro σ env F H s b s' Q p e q
  unfold fOr at e
  cases e1 : ft env s with
  | none => rw [e1] at e; cases e
  | some o1 =>
    obtain ⟨b1, s1⟩ := o1
    rw [e1] at e
    refine h1 σ env F H s b1 s1 _ p e1 fun F1 H1 g1 k1 => ?_
    have p1 := p.next g1 k1
    cases b1 with
    | false =>
      show u σ H1 Q
      exact h2 σ env F1 H1 s1 b s' _ p1 e fun F2 H2 g2 k2 => q F2 H2 (g1.trans g2 p1.hz) k2
    | true =>
      simp only [Option.some.injEq, Prod.mk.injEq] at e
      obtain ⟨e2, e3⟩ := e
      subst e2 e3
      show Q true H1
      exact q F1 H1 g1 k1
theorem EVt.not (h1 : EVt R Z m t ft) : EVt R Z m (tNot t) (fNot ft) := by
  intro σ env F H s b s' Q p e q
  unfold fNot at e
  cases e1 : ft env s with
  | none => rw [e1] at e; cases e
  | some o1 =>
    obtain ⟨b1, s1⟩ := o1
    rw [e1] at e
    simp only [Option.some.injEq, Prod.mk.injEq] at e
    obtain ⟨e2, e3⟩ := e
    subst e2 e3
    exact h1 σ env F H s b1 s1 _ p e1 fun F1 H1 g1 k1 => q F1 H1 g1 k1
theorem EV.andV (h1 : EV R Z m ta fa) (h2 : EV R Z m tb fb) : EV R Z m (tAndV ta tb) (fAndV fa fb) := by
  intro σ env F H s d s' Q p e q
  unfold fAndV at e
  cases e1 : fa env s with
  | none => rw [e1] at e; cases e
  | some o1 =>
    obtain ⟨x, s1⟩ := o1
    rw [e1] at e
    refine h1 σ env F H s x s1 _ p e1 fun v F1 H1 g1 k1 r1 => ?_
    have p1 := p.next g1 k1
    cases x with
    | bl b =>
      cases r1
      refine ⟨b, rfl, ?_⟩
      cases b with
      | true =>
        show tb σ H1 Q
        exact h2 σ env F1 H1 s1 d s' _ p1 e fun v2 F2 H2 g2 k2 r2 => q v2 F2 H2 (g1.trans g2 p1.hz) k2 r2
      | false =>
        simp only [Option.some.injEq, Prod.mk.injEq] at e
        obtain ⟨e2, e3⟩ := e
        subst e2 e3
        exact q _ F1 H1 g1 k1 (.bl false)
    | _ => cases e
theorem EV.orV (h1 : EV R Z m ta fa) (h2 : EV R Z m tb fb) : EV R Z m (tOrV ta tb) (fOrV fa fb) := by
  intro σ env F H s d s' Q p e q
  unfold fOrV at e
  cases e1 : fa env s with
  | none => rw [e1] at e; cases e
  | some o1 =>
    obtain ⟨x, s1⟩ := o1
    rw [e1] at e
    refine h1 σ env F H s x s1 _ p e1 fun v F1 H1 g1 k1 r1 => ?_
    have p1 := p.next g1 k1
    cases x with
    | bl b =>
      cases r1
      refine ⟨b, rfl, ?_⟩
      cases b with
      | false =>
        show tb σ H1 Q
        exact h2 σ env F1 H1 s1 d s' _ p1 e fun v2 F2 H2 g2 k2 r2 => q v2 F2 H2 (g1.trans g2 p1.hz) k2 r2
      | true =>
        simp only [Option.some.injEq, Prod.mk.injEq] at e
        obtain ⟨e2, e3⟩ := e
        subst e2 e3
        exact q _ F1 H1 g1 k1 (.bl true)
    | _ => cases e
theorem EV.notV (h1 : EV R Z m ta fa) : EV R Z m (tNotV ta) (fNotV fa) := by
  intro σ env F H s d s' Q p e q
  unfold fNotV at e
  cases e1 : fa env s with
  | none => rw [e1] at e; cases e
  | some o1 =>
    obtain ⟨x, s1⟩ := o1
    rw [e1] at e
    refine h1 σ env F H s x s1 _ p e1 fun v F1 H1 g1 k1 r1 => ?_
    cases x with
    | bl b =>
      cases r1
      simp only [Option.some.injEq, Prod.mk.injEq] at e
      obtain ⟨e2, e3⟩ := e
      subst e2 e3
      exact ⟨b, rfl, q _ F1 H1 g1 k1 (.bl _)⟩
    | _ => cases e
theorem EV.ite (h : EVt R Z m t ft) (h1 : EV R Z m ta fa) (h2 : EV R Z m tb fb) : EV R Z m (tIf t ta tb) (fIf ft fa fb) := by
  intro σ env F H s d s' Q p e q
  unfold fIf at e
  cases e1 : ft env s with
  | none => rw [e1] at e; cases e
  | some o1 =>
    obtain ⟨b, s1⟩ := o1
    rw [e1] at e
    refine h σ env F H s b s1 _ p e1 fun F1 H1 g1 k1 => ?_
    have p1 := p.next g1 k1
    cases b with
    | true =>
      show ta σ H1 Q
      exact h1 σ env F1 H1 s1 d s' _ p1 e fun v2 F2 H2 g2 k2 r2 => q v2 F2 H2 (g1.trans g2 p1.hz) k2 r2
    | false =>
      show tb σ H1 Q
      exact h2 σ env F1 H1 s1 d s' _ p1 e fun v2 F2 H2 g2 k2 r2 => q v2 F2 H2 (g1.trans g2 p1.hz) k2 r2
/-- a call of a built-in by values -/
theorem EV.cb {r : List V → Hp → VK → Prop} {g : List D → Option D} (h : EVa R Z m tr fr) (hr : CallE R r g) : EV R Z m (tCB r tr) (fCall g fr) := by
  intro σ env F H s d s' Q p e q
  unfold fCall at e
  cases h1 : fr env s with
  | none => rw [h1] at e; cases e
  | some o1 =>
    obtain ⟨xs, s1⟩ := o1
    rw [h1] at e
    cases h3 : g xs with
    | none => simp only [h3] at e; cases e
    | some d3 =>
      simp only [h3, Option.some.injEq, Prod.mk.injEq] at e
      obtain ⟨e1, e2⟩ := e
      subst e1 e2
      refine h σ env F H s xs s1 _ p h1 fun vs F1 H1 g1 k1 r1 => ?_
      have p1 := p.next g1 k1
      refine hr F1 H1 xs vs d3 _ p1.fh r1 h3 fun v F3 H3 g3 r3 => ?_
      exact q v F3 H3 (g1.trans g3.up p1.hz) (Z.grow k1 g3) r3
end
end SL
/-! Sem2: what is walked, comprehensions, statements, defs. -/
namespace SL
open PySem L2
open Evl (Ex)

/-! ### what is walked: these items -/
structure ItE (R : RC) (J : It) (F : Hp) (items : List D) : Prop where
  go : ∀ i H, i < items.length → Ex F H → J.go i H
  stop : ∀ H, Ex F H → J.stop items.length H
  yld : ∀ i H x H' F1 d, items[i]? = some d → Ex F F1 → Ex F1 H → J.yld i H x H' → ∃ F2, Gr0 F1 H F2 H' ∧ Rep R F2 d x
def EVi {S : Type} (R : RC) (Z : SK S) (m : Bool) (wi : TI) (f : Fn S (List D)) : Prop := ∀ σ env F H s ds s' (K : It → Hp → Prop), Pre R Z m σ env F H s → f env s = some (ds, s') →
  (∀ J F' H', Grow Z.z F H F' H' → Z.ok s' H' → ItE R J F' ds → K J H') → wi σ H K

theorem sqT_ex {K : PySem.W.Frag} {H H' : Hp} {a : Addr} {xs : List V} (e : Ex H H') (h : SqT K H a xs) : SqT K H' a xs := Evl.ex_t e h
theorem sqL_ex {K : PySem.W.Frag} {H H' : Hp} {a : Addr} {xs : List V} (e : Ex H H') (h : SqL K H a xs) : SqL K H' a xs := Evl.ex_l e h

section
variable {R : RC} {F H : Hp} {a b : Addr} {vs ws : List V} {ds es : List D}
theorem ItE.list (h : SqL R.K F a vs) (r : Reps R F ds vs) : ItE R (Itl R.K a) F ds where
  go := fun i H hi e => by
    have hl : i < vs.length := by rw [← r.length]; exact hi
    exact ⟨vs, vs[i], sqL_ex e h, List.getElem?_eq_getElem hl⟩
  stop := fun H e => ⟨vs, sqL_ex e h, by rw [r.length]; exact Nat.le_refl _⟩
  yld := fun i H x H' F1 d hd e1 e2 y => by
    obtain ⟨rfl, y⟩ := y
    obtain ⟨v, hv, rv⟩ := r.get hd
    have := y vs (sqL_ex (e1.trans e2) h)
    rw [hv] at this
    cases this
    exact ⟨F1, Grow.refl e2, rv.mono e1⟩
theorem ItE.tup (h : SqT R.K F a vs) (r : Reps R F ds vs) : ItE R (Itt R.K a) F ds where
  go := fun i H hi e => by
    have hl : i < vs.length := by rw [← r.length]; exact hi
    exact ⟨vs, vs[i], sqT_ex e h, List.getElem?_eq_getElem hl⟩
  stop := fun H e => ⟨vs, sqT_ex e h, by rw [r.length]; exact Nat.le_refl _⟩
  yld := fun i H x H' F1 d hd e1 e2 y => by
    obtain ⟨rfl, y⟩ := y
    obtain ⟨v, hv, rv⟩ := r.get hd
    have := y vs (sqT_ex (e1.trans e2) h)
    rw [hv] at this
    cases this
    exact ⟨F1, Grow.refl e2, rv.mono e1⟩
def rangeD (lo : Int) : Nat → List D
  | 0 => []
  | n + 1 => .int lo :: rangeD (lo + 1) n
theorem rangeD_length : ∀ (n : Nat) (lo : Int), (rangeD lo n).length = n
  | 0, _ => rfl
  | n + 1, lo => by simp [rangeD, rangeD_length n]
theorem rangeD_get : ∀ (n : Nat) (lo : Int) (i : Nat) (d : D), (rangeD lo n)[i]? = some d → d = .int (lo + i)
  | 0, _, _, _, h => by simp [rangeD] at h
  | n + 1, lo, 0, d, h => by
    simp [rangeD] at h
    subst h
    simp
  | n + 1, lo, i + 1, d, h => by
    have := rangeD_get n (lo + 1) i d (by simpa [rangeD] using h)
    rw [this]
    congr 1
    omega
theorem ItE.range (lo : Int) (n : Nat) : ItE R (Itr lo n) F (rangeD lo n) where
  go := fun i H hi e => by rw [rangeD_length] at hi; exact hi
  stop := fun H e => by rw [rangeD_length]; exact Nat.le_refl _
  yld := fun i H x H' F1 d hd e1 e2 y => by
    obtain ⟨rfl, rfl⟩ := y
    rw [rangeD_get n lo i d hd]
    exact ⟨F1, Grow.refl e2, .int _⟩
def rangeC (lo c : Int) : Nat → List D
  | 0 => []
  | n + 1 => .int lo :: rangeC (lo + c) c n
theorem rangeC_length : ∀ (n : Nat) (lo c : Int), (rangeC lo c n).length = n
  | 0, _, _ => rfl
  | n + 1, lo, c => by simp [rangeC, rangeC_length n]
theorem rangeC_get : ∀ (n : Nat) (lo c : Int) (i : Nat) (d : D), (rangeC lo c n)[i]? = some d → d = .int (lo + i * c)
  | 0, _, _, _, _, h => by simp [rangeC] at h
  | n + 1, lo, c, 0, d, h => by
    simp [rangeC] at h
    subst h
    simp
  | n + 1, lo, c, i + 1, d, h => by
    have := rangeC_get n (lo + c) c i d (by simpa [rangeC] using h)
    rw [this]
    congr 1
    rw [show ((i + 1 : Nat) : Int) = (i : Int) + 1 by omega, Int.add_mul, Int.one_mul]
    omega
theorem ItE.rangeC (lo c : Int) (n : Nat) : ItE R (Itc lo c n) F (rangeC lo c n) where
  go := fun i H hi e => by rw [rangeC_length] at hi; exact hi
  stop := fun H e => by rw [rangeC_length]; exact Nat.le_refl _
  yld := fun i H x H' F1 d hd e1 e2 y => by
    obtain ⟨rfl, rfl⟩ := y
    rw [rangeC_get n lo c i d hd]
    exact ⟨F1, Grow.refl e2, .int _⟩
/-- reversed -/
theorem ItE.rev (h : SqL R.K F a vs) (r : Reps R F ds vs) : ItE R (Itv R.K a vs.length) F ds.reverse where
  go := fun i H hi e => by
    rw [List.length_reverse, r.length] at hi
    exact ⟨hi, vs, vs[vs.length - 1 - i], sqL_ex e h, List.getElem?_eq_getElem (by omega)⟩
  stop := fun H e => by rw [List.length_reverse, r.length]; exact Nat.le_refl _
  yld := fun i H x H' F1 d hd e1 e2 y => by
    obtain ⟨rfl, y⟩ := y
    have hi : i < ds.length := by
      have := (List.getElem?_eq_some_iff.mp hd).1
      simpa using this
    rw [List.getElem?_reverse hi] at hd
    obtain ⟨v, hv, rv⟩ := r.get hd
    have := y vs (sqL_ex (e1.trans e2) h)
    rw [← r.length, hv] at this
    cases this
    exact ⟨F1, Grow.refl e2, rv.mono e1⟩
theorem ItE.revT (h : SqT R.K F a vs) (r : Reps R F ds vs) : ItE R (RT.ItvT R.K a vs.length) F ds.reverse where
  go := fun i H hi e => by
    rw [List.length_reverse, r.length] at hi
    exact ⟨hi, vs, vs[vs.length - 1 - i], sqT_ex e h, List.getElem?_eq_getElem (by omega)⟩
  stop := fun H e => by rw [List.length_reverse, r.length]; exact Nat.le_refl _
  yld := fun i H x H' F1 d hd e1 e2 y => by
    obtain ⟨rfl, y⟩ := y
    have hi : i < ds.length := by
      have := (List.getElem?_eq_some_iff.mp hd).1
      simpa using this
    rw [List.getElem?_reverse hi] at hd
    obtain ⟨v, hv, rv⟩ := r.get hd
    have := y vs (sqT_ex (e1.trans e2) h)
    rw [← r.length, hv] at this
    cases this
    exact ⟨F1, Grow.refl e2, rv.mono e1⟩
/-- enumerate -/
def enumD (i : Nat) : List D → List D
  | [] => []
  | d :: ds => .tup [.int i, d] :: enumD (i + 1) ds
theorem enumD_length : ∀ (ds : List D) (k : Nat), (enumD k ds).length = ds.length
  | [], _ => rfl
  | _ :: ds, k => by simp [enumD, enumD_length ds]
theorem enumD_get : ∀ (ds : List D) (k i : Nat) (d : D), (enumD k ds)[i]? = some d → ∃ e, ds[i]? = some e ∧ d = .tup [.int ((k + i : Nat) : Int), e]
  | [], _, _, _, h => by simp [enumD] at h
  | x :: ds, k, 0, d, h => by
    simp [enumD] at h
    subst h
    exact ⟨x, rfl, rfl⟩
  | x :: ds, k, i + 1, d, h => by
    obtain ⟨e, h1, h2⟩ := enumD_get ds (k + 1) i d (by simpa [enumD] using h)
    refine ⟨e, by simpa using h1, ?_⟩
    rw [h2, show k + 1 + i = k + (i + 1) by omega]
theorem pair_new {F1 H : Hp} {T : Addr} {x y : V} {d e : D} (ex : Ex F1 H) (hT : H T = none) (rx : Rep R F1 d x) (ry : Rep R F1 e y) :
    ∃ F2, Gr0 F1 H F2 (upd H T (.tup [x, y])) ∧ Rep R F2 (.tup [d, e]) (.ref T) := by
  have g : Gr0 F1 H (upd F1 T (.tup [x, y])) (upd H T (.tup [x, y])) := Gr0.new ex hT
  exact ⟨_, g, .tup upd_same (.cons (rx.mono g.ff) (.cons (ry.mono g.ff) .nil))⟩
theorem ItE.enum (h : SqL R.K F a vs) (r : Reps R F ds vs) : ItE R (Ite R.K a) F (enumD 0 ds) where
  go := fun i H hi e => by
    rw [enumD_length, r.length] at hi
    exact ⟨vs, vs[i], sqL_ex e h, List.getElem?_eq_getElem hi⟩
  stop := fun H e => by rw [enumD_length, r.length]; exact ⟨vs, sqL_ex e h, Nat.le_refl _⟩
  yld := fun i H x H' F1 d hd e1 e2 y => by
    obtain ⟨T, x1, rfl, hT, rfl, y⟩ := y
    obtain ⟨e, he, rfl⟩ := enumD_get ds 0 i d hd
    obtain ⟨v, hv, rv⟩ := r.get he
    have := y vs (sqL_ex (e1.trans e2) h)
    rw [hv] at this
    cases this
    rw [Nat.zero_add]
    exact pair_new e2 hT (.int _) (rv.mono e1)
/-- zip -/
def zipD : List D → List D → List D
  | d :: ds, e :: es => .tup [d, e] :: zipD ds es
  | _, _ => []
theorem zipD_length : ∀ (ds es : List D), (zipD ds es).length = min ds.length es.length
  | [], _ => by simp [zipD]
  | _ :: _, [] => by simp [zipD]
  | _ :: ds, _ :: es => by simp [zipD, zipD_length ds es]
theorem zipD_get : ∀ (ds es : List D) (i : Nat) (d : D), (zipD ds es)[i]? = some d → ∃ x y, ds[i]? = some x ∧ es[i]? = some y ∧ d = .tup [x, y]
  | [], _, _, _, h => by simp [zipD] at h
  | _ :: _, [], _, _, h => by simp [zipD] at h
  | x :: ds, y :: es, 0, d, h => by
    simp [zipD] at h
    subst h
    exact ⟨x, y, rfl, rfl, rfl⟩
  | x :: ds, y :: es, i + 1, d, h => by
    obtain ⟨x1, y1, h1, h2, h3⟩ := zipD_get ds es i d (by simpa [zipD] using h)
    exact ⟨x1, y1, by simpa using h1, by simpa using h2, h3⟩
theorem ItE.zip (h : SqL R.K F a vs) (r : Reps R F ds vs) (h' : SqL R.K F b ws) (r' : Reps R F es ws) : ItE R (Itz R.K a b) F (zipD ds es) where
  go := fun i H hi e => by
    rw [zipD_length, r.length, r'.length] at hi
    exact ⟨vs, ws, vs[i], ws[i], sqL_ex e h, sqL_ex e h', List.getElem?_eq_getElem (by omega), List.getElem?_eq_getElem (by omega)⟩
  stop := fun H e => by rw [zipD_length, r.length, r'.length]; exact ⟨vs, ws, sqL_ex e h, sqL_ex e h', by omega⟩
  yld := fun i H x H' F1 d hd e1 e2 y => by
    obtain ⟨T, x1, y1, rfl, hT, rfl, q1, q2⟩ := y
    obtain ⟨d1, d2, g1, g2, rfl⟩ := zipD_get ds es i d hd
    obtain ⟨v, hv, rv⟩ := r.get g1
    obtain ⟨w, hw, rw_⟩ := r'.get g2
    have z1 := q1 vs (sqL_ex (e1.trans e2) h)
    have z2 := q2 ws (sqL_ex (e1.trans e2) h')
    rw [hv] at z1
    rw [hw] at z2
    cases z1
    cases z2
    exact pair_new e2 hT (rv.mono e1) (rw_.mono e1)
theorem ItE.zipT (h : SqT R.K F a vs) (r : Reps R F ds vs) (h' : SqT R.K F b ws) (r' : Reps R F es ws) : ItE R (RZ.ItzT R.K a b) F (zipD ds es) where
  go := fun i H hi e => by
    rw [zipD_length, r.length, r'.length] at hi
    exact ⟨vs, ws, vs[i], ws[i], sqT_ex e h, sqT_ex e h', List.getElem?_eq_getElem (by omega), List.getElem?_eq_getElem (by omega)⟩
  stop := fun H e => by rw [zipD_length, r.length, r'.length]; exact ⟨vs, ws, sqT_ex e h, sqT_ex e h', by omega⟩
  yld := fun i H x H' F1 d hd e1 e2 y => by
    obtain ⟨T, x1, y1, rfl, hT, rfl, q1, q2⟩ := y
    obtain ⟨d1, d2, g1, g2, rfl⟩ := zipD_get ds es i d hd
    obtain ⟨v, hv, rv⟩ := r.get g1
    obtain ⟨w, hw, rw_⟩ := r'.get g2
    have z1 := q1 vs (sqT_ex (e1.trans e2) h)
    have z2 := q2 ws (sqT_ex (e1.trans e2) h')
    rw [hv] at z1
    rw [hw] at z2
    cases z1
    cases z2
    exact pair_new e2 hT (rv.mono e1) (rw_.mono e1)
end

/-! ### targets -/
/-- a target binds a datum -/
abbrev Bd := Env → D → Option Env
def bName (i : Nat) : Bd := fun env d => if i < env.length then some (env.set i (some d)) else none
def bsNil : Env → List D → Option Env := fun env ds => match ds with
  | [] => some env
  | _ => none
def bsCons (b : Bd) (bs : Env → List D → Option Env) : Env → List D → Option Env := fun env ds => match ds with
  | d :: r => match b env d with
    | some e => bs e r
    | none => none
  | _ => none
def bTup (bs : Env → List D → Option Env) : Bd := fun env d => match d with
  | .tup ds => bs env ds
  | _ => none
/-- the target writes these slots alone -/
def EVg (R : RC) (ws : List Nat) (g : TG) (b : Bd) : Prop := ∀ σ env env' F H d v Q, Ex F H → Rep R F d v → σ.length = env.length → b env d = some env' →
  (∀ σ', σ'.length = σ.length → env'.length = env.length → (∀ i, i ∉ ws → σ'[i]? = σ[i]? ∧ env'[i]? = env[i]?) → (∀ i, i ∈ ws → ∀ x, env'[i]? = some (some x) → (∃ w, σ'[i]? = some (some w) ∧ Rep R F x w)) → Q σ' H) → g v σ H Q
def EVgs (R : RC) (ws : List Nat) (g : TGs) (b : Env → List D → Option Env) : Prop := ∀ σ env env' F H ds vs Q, Ex F H → Reps R F ds vs → σ.length = env.length → b env ds = some env' →
  (∀ σ', σ'.length = σ.length → env'.length = env.length → (∀ i, i ∉ ws → σ'[i]? = σ[i]? ∧ env'[i]? = env[i]?) → (∀ i, i ∈ ws → ∀ x, env'[i]? = some (some x) → (∃ w, σ'[i]? = some (some w) ∧ Rep R F x w)) → Q σ' H) → g vs σ H Q
section
variable {R : RC} {ws ws' : List Nat} {g : TG} {gs : TGs} {b : Bd} {bs : Env → List D → Option Env}
theorem EVg.name (i : Nat) : EVg R [i] (gName i) (bName i) := by
  intro σ env env' F H d v Q e r hl hb q
  unfold bName at hb
  split at hb
  · rename_i hi
    cases hb
    refine q (σ.set i (some v)) (by simp) (by simp) (fun j hj => ?_) fun j hj x hx => ?_
    · have : i ≠ j := fun z => hj (by simp [z])
      rw [List.getElem?_set_ne this, List.getElem?_set_ne this]
      exact ⟨rfl, rfl⟩
    · have : j = i := by simpa using hj
      subst this
      rw [List.getElem?_set_self hi] at hx
      cases hx
      exact ⟨v, List.getElem?_set_self (by omega), r⟩
  · cases hb
theorem EVgs.nil : EVgs R [] gNil bsNil := by
  intro σ env env' F H ds vs Q e r hl hb q
  cases r with
  | nil =>
    cases hb
    exact ⟨rfl, q σ rfl rfl (fun _ _ => ⟨rfl, rfl⟩) fun _ h => by simp at h⟩
  | cons _ _ => cases hb
theorem EVgs.cons (h1 : EVg R ws g b) (h2 : EVgs R ws' gs bs) (hd : ∀ i, i ∈ ws → i ∉ ws') : EVgs R (ws ++ ws') (gCons g gs) (bsCons b bs) := by
  intro σ env env' F H ds vs Q e r hl hb q
  cases r with
  | nil => cases hb
  | cons r1 r2 =>
    rename_i d v ds vs
    unfold bsCons at hb
    simp only at hb
    cases e1 : b env d with
    | none => rw [e1] at hb; cases hb
    | some env1 =>
      rw [e1] at hb
      refine ⟨v, vs, rfl, ?_⟩
      refine h1 σ env env1 F H d v _ e r1 hl e1 fun σ1 l1 l1' k1 k1' => ?_
      refine h2 σ1 env1 env' F H ds vs _ e r2 (by omega) hb fun σ2 l2 l2' k2 k2' => ?_
      refine q σ2 (by omega) (by omega) (fun i hi => ?_) fun i hi x hx => ?_
      · rw [List.mem_append, not_or] at hi
        obtain ⟨a1, a2⟩ := k1 i hi.1
        obtain ⟨b1, b2⟩ := k2 i hi.2
        exact ⟨b1.trans a1, b2.trans a2⟩
      · rcases List.mem_append.mp hi with hi | hi
        · obtain ⟨b1, b2⟩ := k2 i (hd i hi)
          rw [b2] at hx
          obtain ⟨w, hw, rw_⟩ := k1' i hi x hx
          exact ⟨w, b1.trans hw, rw_⟩
        · exact k2' i hi x hx
theorem EVg.tup (n : Nat) (h : EVgs R ws gs bs) (hn : ∀ env ds env', bs env ds = some env' → ds.length = n) : EVg R ws (gTup R.K n gs) (bTup bs) := by
  intro σ env env' F H d v Q e r hl hb q
  unfold bTup at hb
  cases r with
  | tup hT rs =>
    simp only at hb
    refine ⟨_, _, rfl, sqT_ex e (SqT.of hT), ?_, ?_⟩
    · rw [← rs.length]; exact hn _ _ _ hb
    · exact h σ env env' F H _ _ Q e rs hl hb q
  | _ => cases hb
theorem bsNil_len {env env' : Env} {ds : List D} (h : bsNil env ds = some env') : ds.length = 0 := by
  cases ds with
  | nil => rfl
  | cons _ _ => cases h
theorem bsCons_len {n : Nat} (hn : ∀ env ds env', bs env ds = some env' → ds.length = n) : ∀ env ds env', bsCons b bs env ds = some env' → ds.length = n + 1 := by
  intro env ds env' h
  unfold bsCons at h
  cases ds with
  | nil => cases h
  | cons d r =>
    simp only at h
    cases e1 : b env d with
    | none => rw [e1] at h; cases h
    | some e =>
      rw [e1] at h
      rw [List.length_cons, hn _ _ _ h]
end

/-! ### comprehensions -/
/-- the slots at vs forgotten -/
def wipeE (env : Env) : List Nat → Env
  | [] => env
  | v :: vs => (wipeE env vs).set v none
theorem wipeE_length (env : Env) : ∀ vs : List Nat, (wipeE env vs).length = env.length
  | [] => rfl
  | v :: vs => by unfold wipeE; rw [List.length_set, wipeE_length env vs]
theorem wipeE_get (env : Env) (i : Nat) : ∀ vs : List Nat, i ∉ vs → (wipeE env vs)[i]? = env[i]?
  | [], _ => rfl
  | v :: vs, h => by
    rw [List.mem_cons, not_or] at h
    unfold wipeE
    rw [List.getElem?_set_ne (Ne.symm h.1), wipeE_get env i vs h.2]
theorem wipe_get (σ : L2.St) (i : Nat) : ∀ vs : List Nat, i ∉ vs → (wipe σ vs)[i]? = σ[i]?
  | [], _ => rfl
  | v :: vs, h => by
    rw [List.mem_cons, not_or] at h
    unfold wipe
    rw [List.getElem?_set_ne (Ne.symm h.1), wipe_get σ i vs h.2]
theorem wipeE_none (env : Env) (i : Nat) : ∀ vs : List Nat, i ∈ vs → ∀ d, (wipeE env vs)[i]? ≠ some (some d)
  | v :: vs, h, d => by
    unfold wipeE
    by_cases hi : v = i
    · subst hi
      by_cases hv : v < (wipeE env vs).length
      · rw [List.getElem?_set_self hv]; simp
      · rw [List.getElem?_eq_none (by simpa using hv)]; simp
    · rw [List.getElem?_set_ne hi]
      rcases List.mem_cons.mp h with e | h
      · exact absurd e.symm hi
      · exact wipeE_none env i vs h d
/-- two states that part at vs alone are wiped to one -/
theorem wipe_eq {σ σ' : L2.St} (vs : List Nat) (hl : σ'.length = σ.length) (h : ∀ i, i ∉ vs → σ'[i]? = σ[i]?) : wipe σ' vs = wipe σ vs := by
  apply List.ext_getElem?
  intro i
  by_cases hi : i ∈ vs
  · by_cases hlt : i < σ.length
    · have key : ∀ (τ : L2.St), i < τ.length → ∀ vs : List Nat, i ∈ vs → (wipe τ vs)[i]? = some none := by
        intro τ hτ vs
        induction vs with
        | nil => intro h; simp at h
        | cons v vs ih =>
          intro h
          unfold wipe
          by_cases hv : v = i
          · subst hv
            exact List.getElem?_set_self (by rw [wipe_length]; exact hτ)
          · rw [List.getElem?_set_ne hv]
            rcases List.mem_cons.mp h with e | h
            · exact absurd e.symm hv
            · exact ih h
      rw [key σ' (by omega) vs hi, key σ hlt vs hi]
    · rw [List.getElem?_eq_none (by rw [wipe_length]; omega), List.getElem?_eq_none (by rw [wipe_length]; omega)]
  · rw [wipe_get σ' i vs hi, wipe_get σ i vs hi, h i hi]

section
variable {S : Type}
def lcRun (b : Bd) (ft : Fn S Bool) (fe : Fn S D) (env : Env) : List D → S → Option (List D × S)
  | [], s => some ([], s)
  | x :: xs, s => match b env x with
    | none => none
    | some env1 => match ft env1 s with
      | none => none
      | some (true, s1) => match fe env1 s1 with
        | none => none
        | some (y, s2) => match lcRun b ft fe env xs s2 with
          | none => none
          | some (ys, s3) => some (y :: ys, s3)
      | some (false, s1) => lcRun b ft fe env xs s1
def fYes : Fn S Bool := fun _ s => some (true, s)
/-- [elt for target in items if test]: vs: the target's slots -/
def fLc (fi : Fn S (List D)) (b : Bd) (ft : Fn S Bool) (fe : Fn S D) (vs : List Nat) : Fn S (List D) := fun env s => match fi env s with
  | none => none
  | some (xs, s1) => if xs.length ≤ 100000 then lcRun b ft fe (wipeE env vs) xs s1 else none
end
section
variable {S : Type} {R : RC} {Z : SK S} {m : Bool} {wi : TI} {fi : Fn S (List D)} {g : TG} {b : Bd} {tt : TT} {ft : Fn S Bool} {te : TE} {fe : Fn S D} {vs : List Nat}
theorem EVt.yes : EVt R Z m tYes fYes := by
  intro σ env F H s b s' Q p e q
  simp only [fYes, Option.some.injEq, Prod.mk.injEq] at e
  obtain ⟨e1, e2⟩ := e
  subst e1 e2
  exact q F H (Grow.refl p.fh) p.ok
theorem EVl.lc (hi : EVi R Z m wi fi) (hg : EVg R vs g b) (ht : EVt R Z m tt ft) (he : EV R Z m te fe) : EVl R Z m (tLc wi g tt te vs) (fLc fi b ft fe vs) := by
  intro σ env F H s ds s' Q p e q
  have hlen := p.len
  unfold fLc at e
  cases h1 : fi env s with
  | none => rw [h1] at e; cases e
  | some o1 =>
    obtain ⟨xs, s1⟩ := o1
    rw [h1] at e
    simp only at e
    split at e
    case isFalse => cases e
    rename_i hxs
    refine hi σ env F H s xs s1 _ p h1 fun J F1 H1 g1 k1 it => ?_
    have p1 := p.next g1 k1
    intro A hA
    have hAz : ¬ Z.z A := fun z => (p1.hz A z).1 hA
    have hA0 : H A = none := by
      cases e : H A with
      | none => rfl
      | some o => rw [g1.hh A o hAz e] at hA; cases hA
    have hF1A : F1 A = none := Ex.none p1.fh hA
    -- the invariant: behind i items the rest of the run is known
    refine ⟨fun i k H' => k = xs.length - i ∧ i ≤ xs.length ∧ ∃ (F2 : Hp) (s2 : S) (acc : List D) (ws : List V) (rest : List D), Pre R Z m σ env F2 H' s2 ∧ Grow Z.z F H F2 H' ∧ Ex F1 F2 ∧ F2 A = none ∧ H' A = some (.lst ws) ∧ Reps R F2 acc ws ∧
      lcRun b ft fe (wipeE env vs) (xs.drop i) s2 = some (rest, s') ∧ acc ++ rest = ds ∧ acc.length ≤ i, ⟨xs.length, by simp, Nat.zero_le _, F1, s1, [], [], ds, ?_, ?_, Ex.refl _, hF1A, upd_same, .nil, by simpa using e, rfl, by simp⟩, ?_⟩
    · have g2 : Gr0 F1 H1 F1 (upd H1 A (.lst [])) := Gr0.newH p1.fh hA
      exact p1.next0 g2
    · have g2 : Gr0 F1 H1 F1 (upd H1 A (.lst [])) := Gr0.newH p1.fh hA
      exact g1.trans g2.up p1.hz
    rintro i k H2 ⟨rfl, hile, F2, s2, acc, ws, rest, p2, g2, e12, hF2A, hH2A, ra, er, ed, hacc⟩
    by_cases hilt : i < xs.length
    · refine .inr ⟨it.go i H2 hilt (e12.trans p2.fh), fun H' => i + 1 ≤ xs.length ∧ ∃ (F2 : Hp) (s2 : S) (acc : List D) (ws : List V) (rest : List D), Pre R Z m σ env F2 H' s2 ∧ Grow Z.z F H F2 H' ∧ Ex F1 F2 ∧ F2 A = none ∧ H' A = some (.lst ws) ∧ Reps R F2 acc ws ∧
        lcRun b ft fe (wipeE env vs) (xs.drop (i + 1)) s2 = some (rest, s') ∧ acc ++ rest = ds ∧ acc.length ≤ i + 1, fun H' h => ⟨xs.length - (i + 1), by omega, rfl, h.1, h.2⟩, fun x H3 hy => ?_⟩
      have hd : xs[i]? = some xs[i] := List.getElem?_eq_getElem hilt
      obtain ⟨F3, g3, r3⟩ := it.yld i H2 x H3 F2 _ hd e12 p2.fh hy
      have p3 := p2.next0 g3
      rw [List.drop_eq_getElem_cons hilt] at er
      unfold lcRun at er
      cases eb : b (wipeE env vs) xs[i] with
      | none => rw [eb] at er; cases er
      | some env1 =>
        rw [eb] at er
        simp only at er
        refine hg (wipe σ vs) (wipeE env vs) env1 F3 H3 xs[i] x _ p3.fh r3 (by rw [wipe_length, wipeE_length]; exact hlen) eb fun σ' l1 l2 kk kk' => ?_
        refine ⟨?_, ?_⟩
        · have := wipe_eq (σ := wipe σ vs) (σ' := σ') vs l1 fun j hj => (kk j hj).1
          rw [this]
          exact wipe_eq vs (wipe_length σ vs) fun j hj => wipe_get σ j vs hj
        have p3' : Pre R Z m σ' env1 F3 H3 s2 := ⟨p3.fh, p3.zf, p3.ok, ⟨fun j d hj hjd => by
          by_cases hjv : j ∈ vs
          · exact kk' j hjv d hjd
          · obtain ⟨c1, c2⟩ := kk j hjv
            rw [c2, wipeE_get env j vs hjv] at hjd
            obtain ⟨v, hv, rv⟩ := p3.sl.sh j d hj hjd
            exact ⟨v, by rw [c1, wipe_get σ j vs hjv]; exact hv, rv⟩, fun hm j ds hdo hjd => by
          by_cases hjv : j ∈ vs
          · obtain ⟨w, _, h⟩ := kk' j hjv _ hjd
            exact rep_ownF h hdo
          · obtain ⟨c1, c2⟩ := kk j hjv
            rw [c2, wipeE_get env j vs hjv] at hjd
            obtain ⟨v, o, hv, rv⟩ := p3.sl.ow hm j ds hdo hjd
            exact ⟨v, o, by rw [c1, wipe_get σ j vs hjv]; exact hv, rv⟩⟩, by rw [l1, l2, wipe_length, wipeE_length]; exact hlen⟩
        cases et : ft env1 s2 with
        | none => rw [et] at er; cases er
        | some o3 =>
          obtain ⟨c, s3⟩ := o3
          rw [et] at er
          refine ht σ' env1 F3 H3 s2 c s3 _ p3' et fun F4 H4 g4 k4 => ?_
          have p4 := p3'.next g4 k4
          have hA3 : H3 A = some (.lst ws) := g3.ex A _ hH2A
          have hA4 : H4 A = some (.lst ws) := g4.hh A _ hAz hA3
          have nF : ∀ {G G' K K' : Hp} {z : Addr → Prop}, Grow z G K G' K' → G A = none → K A = some (.lst ws) → G' A = none := fun {G G' K K' z} gg h1 h2 => by
            cases e : G' A with
            | none => rfl
            | some o =>
              rcases gg.nw A o e with q | q | ⟨xs, q1, q⟩
              · rw [h1] at q; cases q
              · rw [h2] at q; cases q
              · rw [h2, q1] at q; cases q
          have hF3A := nF g3 hF2A hH2A
          have hF4A := nF g4 hF3A hA3
          have g24 : Grow Z.z F2 H2 F4 H4 := (g3.up (z := Z.z)).trans g4 p3.hz
          cases c with
          | true =>
            show te σ' H4 _
            simp only at er
            cases ee : fe env1 s3 with
            | none => rw [ee] at er; cases er
            | some o5 =>
              obtain ⟨y, s5⟩ := o5
              rw [ee] at er
              simp only at er
              refine he σ' env1 F4 H4 s3 y s5 _ p4 ee fun vy F5 H5 g5 k5 r5 => ?_
              have p5 := p4.next g5 k5
              have hA5 : H5 A = some (.lst ws) := g5.hh A _ hAz hA4
              have hF5A := nF g5 hF4A hA4
              have g25 : Grow Z.z F2 H2 F5 H5 := g24.trans g5 p4.hz
              have hwl : ws.length = acc.length := (ra.length).symm
              refine ⟨ws, hA5, Evl.sz_lt (by omega), ?_⟩
              cases el : lcRun b ft fe (wipeE env vs) (xs.drop (i + 1)) s5 with
              | none => rw [el] at er; cases er
              | some o6 =>
                obtain ⟨ys, s6⟩ := o6
                rw [el] at er
                simp only [Option.some.injEq, Prod.mk.injEq] at er
                obtain ⟨er1, er2⟩ := er
                subst er1 er2
                have e5 : Ex F2 F5 := g25.ff
                refine ⟨hilt, F5, s5, acc ++ [y], ws ++ [vy], ys, ?_, ?_, e12.trans e5, hF5A, upd_same, ((ra.mono e5).append (.cons r5 .nil)), el, by rw [List.append_assoc]; exact ed, by simp; omega⟩
                · -- Pre at the longer list, at the outer slots
                  refine ⟨fun a u h => ?_, p5.zf, ?_, (p2.sl.mono e5), hlen⟩
                  · rw [upd_ne (ne_of_none h hF5A)]
                    exact p5.fh a u h
                  · exact Z.keep s5 H5 _ k5 (fun a ha => upd_ne fun z => by subst z; exact hAz ha)
                · exact ⟨fun a o n h => by
                      rw [upd_ne (ne_of_none h hA0)]
                      exact (g2.trans g25 p2.hz).hh a o n h, (g2.trans g25 p2.hz).ff, fun a u h => by
                      rw [upd_ne (ne_of_none h hF5A)]
                      exact p5.fh a u h, (g2.trans g25 p2.hz).nw⟩
          | false =>
            simp only at er
            exact ⟨hilt, F4, s3, acc, ws, rest, ⟨p4.fh, p4.zf, p4.ok, p2.sl.mono g24.ff, hlen⟩, g2.trans g24 p2.hz, e12.trans g24.ff, hF4A, hA4, ra.mono g24.ff, er, ed, by omega⟩
    · have hi' : i = xs.length := by omega
      subst hi'
      refine .inl ⟨it.stop H2 (e12.trans p2.fh), ?_⟩
      rw [List.drop_length] at er
      simp only [lcRun, Option.some.injEq, Prod.mk.injEq] at er
      obtain ⟨er1, er2⟩ := er
      subst er1 er2
      rw [List.append_nil] at ed
      subst ed
      exact q A ws F2 H2 g2 p2.ok hA0 hF2A hH2A ra
end
end SL
/-! Sem3: statements (own lists in slots), defs. -/
namespace SL
open PySem L2
open Evl (Ex)
open Classical

/-- behind the entry F0, H0: own slots hold lists that nobody else holds -/
structure SI {S : Type} (R : RC) (Z : SK S) (F0 H0 : Hp) (σ : L2.St) (env : Env) (F H : Hp) (s : S) : Prop where
  gr : Grow Z.z F0 H0 F H
  zf : ∀ a, Z.z a → F a = none
  ok : Z.ok s H
  z0 : ∀ a, Z.z a → H0 a ≠ none
  sh : ∀ (i : Nat) (d : D), d.isOwn = false → env[i]? = some (some d) → ∃ v, σ[i]? = some (some v) ∧ Rep R F d v
  ow : ∀ (i : Nat) (d : D), d.isOwn = true → env[i]? = some (some d) → ∃ p o, σ[i]? = some (some (.ref p)) ∧ H p = some o ∧ F p = none ∧ H0 p = none ∧ OwnObj R F d o
  dj : ∀ (i j : Nat) (d e : D) (p : Addr), d.isOwn = true → e.isOwn = true → env[i]? = some (some d) → env[j]? = some (some e) → σ[i]? = some (some (.ref p)) → σ[j]? = some (some (.ref p)) → i = j
  len : σ.length = env.length

section
variable {S : Type} {R : RC} {Z : SK S} {F0 H0 : Hp} {σ σ' : L2.St} {env env' : Env} {F H F' H' : Hp} {s s' : S}
theorem SI.hz (p : SI R Z F0 H0 σ env F H s) : ∀ a, Z.z a → NT (H a) := fun a ha => Z.has s H a p.ok ha
theorem SI.nz (p : SI R Z F0 H0 σ env F H s) {a : Addr} (h : H0 a = none) : ¬ Z.z a := fun z => p.z0 a z h
theorem SI.owL (p : SI R Z F0 H0 σ env F H s) (i : Nat) (ds : List D) (h : env[i]? = some (some (.own ds))) : ∃ p vs, σ[i]? = some (some (.ref p)) ∧ H p = some (.lst vs) ∧ F p = none ∧ H0 p = none ∧ Reps R F ds vs := by
  obtain ⟨q, o, a, b, c, e, vs, f, g⟩ := p.ow i _ rfl h
  subst f
  exact ⟨q, vs, a, b, c, e, g⟩
/-- an evaluation that sees F -/
theorem SI.next (p : SI R Z F0 H0 σ env F H s) (g : Grow Z.z F H F' H') (k : Z.ok s' H') : SI R Z F0 H0 σ env F' H' s' where
  gr := p.gr.trans g p.hz
  zf := fun a ha => by
    cases e : F' a with
    | none => rfl
    | some o =>
      rcases g.nw a o e with q | q | ⟨xs, q1, q⟩
      · rw [p.zf a ha] at q; cases q
      · exact absurd q (p.hz a ha).1
      · exact absurd (by rw [q, q1]) ((p.hz a ha).2 xs)
  ok := k
  z0 := p.z0
  sh := fun i d h1 h2 => let ⟨v, a, b⟩ := p.sh i d h1 h2; ⟨v, a, b.mono g.ff⟩
  ow := fun i d h0 h1 => by
    obtain ⟨q, o, e2, e3, e4, e5, e6⟩ := p.ow i d h0 h1
    refine ⟨q, o, e2, g.hh q _ (p.nz e5) e3, ?_, e5, e6.mono g.ff⟩
    cases e : F' q with
    | none => rfl
    | some o =>
      rcases g.nw q o e with z | z | ⟨xs, z1, z⟩
      · rw [e4] at z; cases z
      · rw [e3] at z; cases z
      · rw [e3, z1] at z; cases z; exact absurd ⟨xs, .inl rfl⟩ e6.noTup
  dj := p.dj
  len := p.len
/-- seen: all but the own slots -/
theorem SI.preA (p : SI R Z F0 H0 σ env F H s) : Pre R Z false σ env F H s :=
  ⟨p.gr.fh, p.zf, p.ok, ⟨p.sh, fun h => nomatch h⟩, p.len⟩
/-- the own lists' addresses -/
def Own (σ : L2.St) (env : Env) (a : Addr) : Prop := ∃ (i : Nat) (d : D), d.isOwn = true ∧ env[i]? = some (some d) ∧ σ[i]? = some (some (.ref a))
noncomputable def seen (σ : L2.St) (env : Env) (F H : Hp) : Hp := fun a => if Own σ env a then H a else F a
theorem SI.ownF (p : SI R Z F0 H0 σ env F H s) {a : Addr} (h : Own σ env a) : F a = none ∧ H0 a = none ∧ ∃ o, H a = some o ∧ ¬ ∃ xs, o = HO.tup xs ∨ ∃ w, o = HO.frz w (.tup xs) := by
  obtain ⟨i, d, h1, h2, h3⟩ := h
  obtain ⟨q, o, e2, e3, e4, e5, e6⟩ := p.ow i d h1 h2
  rw [h3] at e2
  cases e2
  exact ⟨e4, e5, o, e3, e6.noTup⟩
theorem SI.seenF (p : SI R Z F0 H0 σ env F H s) : Ex F (seen σ env F H) := fun a o h => by
  unfold seen
  by_cases ho : Own σ env a
  · rw [(p.ownF ho).1] at h; cases h
  · rw [if_neg ho]; exact h
/-- all slots seen -/
theorem SI.preB (p : SI R Z F0 H0 σ env F H s) : Pre R Z true σ env (seen σ env F H) H s where
  fh := fun a o h => by
    unfold seen at h
    by_cases ho : Own σ env a
    · rw [if_pos ho] at h; exact h
    · rw [if_neg ho] at h; exact p.gr.fh a o h
  zf := fun a ha => by
    unfold seen
    by_cases ho : Own σ env a
    · exact absurd ha (p.nz (p.ownF ho).2.1)
    · rw [if_neg ho]; exact p.zf a ha
  ok := p.ok
  sl := ⟨fun i d h1 h2 => by
      obtain ⟨v, a, b⟩ := p.sh i d h1 h2
      exact ⟨v, a, b.mono p.seenF⟩, fun _ i d h1 h2 => by
      obtain ⟨q, o, e2, e3, e4, e5, e6⟩ := p.ow i d h1 h2
      refine ⟨q, o, e2, ?_, e6.mono p.seenF⟩
      unfold seen
      rw [if_pos ⟨i, _, h1, h2, e2⟩]
      exact e3⟩
  len := p.len
/-- behind an evaluation that saw all -/
noncomputable def unseen (σ : L2.St) (env : Env) (F' : Hp) : Hp := fun a => if Own σ env a then none else F' a
theorem SI.growB (p : SI R Z F0 H0 σ env F H s) (g : Grow Z.z (seen σ env F H) H F' H') : Grow Z.z F H (unseen σ env F') H' where
  hh := g.hh
  ff := fun a o h => by
    unfold unseen
    by_cases ho : Own σ env a
    · rw [(p.ownF ho).1] at h; cases h
    · rw [if_neg ho]; exact g.ff a o (p.seenF a o h)
  fh := fun a o h => by
    unfold unseen at h
    by_cases ho : Own σ env a
    · rw [if_pos ho] at h; cases h
    · rw [if_neg ho] at h; exact g.fh a o h
  nw := fun a o h => by
    unfold unseen at h
    by_cases ho : Own σ env a
    · rw [if_pos ho] at h; cases h
    · rw [if_neg ho] at h
      rcases g.nw a o h with q | q
      · unfold seen at q
        rw [if_neg ho] at q
        exact .inl q
      · exact .inr q
theorem SI.nextB (p : SI R Z F0 H0 σ env F H s) (g : Grow Z.z (seen σ env F H) H F' H') (k : Z.ok s' H') : SI R Z F0 H0 σ env (unseen σ env F') H' s' := p.next (p.growB g) k
theorem SI.unL (p : SI R Z F0 H0 σ env F H s) (g : Grow Z.z (seen σ env F H) H F' H') : ∀ a u, (∃ xs, u = HO.tup xs ∨ ∃ o, u = HO.frz o (.tup xs)) → F' a = some u → unseen σ env F' a = some u := fun a u hu h => by
  unfold unseen
  by_cases ho : Own σ env a
  · obtain ⟨z1, z2, o, z3, z4⟩ := p.ownF ho
    have : seen σ env F H a = some o := by unfold seen; rw [if_pos ho]; exact z3
    rw [g.ff a _ this] at h
    cases h
    exact absurd hu z4
  · rw [if_neg ho]; exact h
end

/-! ### evaluations within statements -/
section
variable {S : Type} (R : RC) (Z : SK S)
def ES (t : TE) (f : Fn S D) : Prop := ∀ F0 H0 σ env F H s d s' Q, SI R Z F0 H0 σ env F H s → f env s = some (d, s') →
  (∀ v F' H', SI R Z F0 H0 σ env F' H' s' → Ex F F' → Rep R F' d v → Q v H') → t σ H Q
def ESt (t : TT) (f : Fn S Bool) : Prop := ∀ F0 H0 σ env F H s b s' Q, SI R Z F0 H0 σ env F H s → f env s = some (b, s') →
  (∀ F' H', SI R Z F0 H0 σ env F' H' s' → Ex F F' → Q b H') → t σ H Q
/-- a new list -/
def ESl (t : TE) (f : Fn S (List D)) : Prop := ∀ F0 H0 σ env F H s ds s' Q, SI R Z F0 H0 σ env F H s → f env s = some (ds, s') →
  (∀ p vs F' H', SI R Z F0 H0 σ env F' H' s' → Ex F F' → H0 p = none → F' p = none → ¬ Own σ env p → H' p = some (.lst vs) → Reps R F' ds vs → Q (.ref p) H') → t σ H Q
def ESi (wi : TI) (f : Fn S (List D)) : Prop := ∀ F0 H0 σ env F H s ds s' (K : It → Hp → Prop), SI R Z F0 H0 σ env F H s → f env s = some (ds, s') →
  (∀ J F' H', SI R Z F0 H0 σ env F' H' s' → Ex F F' → ItE R J F' ds → K J H') → wi σ H K
end
section
variable {S : Type} {R : RC} {Z : SK S} {te : TE} {fe : Fn S D} {tt : TT} {ft : Fn S Bool} {fl : Fn S (List D)} {wi : TI}
/-- flat alone -/
def fFlat (fe : Fn S D) : Fn S D := fun env s => match fe env s with
  | some (d, s1) => if d.flat then some (d, s1) else none
  | none => none
def fFlats (fe : Fn S (List D)) : Fn S (List D) := fun env s => match fe env s with
  | some (d, s1) => if D.flats d then some (d, s1) else none
  | none => none
theorem ES.a (h : EV R Z false te fe) : ES R Z te fe := fun F0 H0 σ env F H s d s' Q p e q =>
  h σ env F H s d s' Q p.preA e fun v F' H' g k r => q v F' H' (p.next g k) g.ff r
theorem ES.b (h : EV R Z true te fe) : ES R Z te (fFlat fe) := fun F0 H0 σ env F H s d s' Q p e q => by
  unfold fFlat at e
  cases e1 : fe env s with
  | none => rw [e1] at e; cases e
  | some o =>
    obtain ⟨d1, s1⟩ := o
    rw [e1] at e
    simp only at e
    split at e
    · rename_i hf
      cases e
      exact h σ env _ H s _ _ Q p.preB e1 fun v F' H' g k r => q v _ H' (p.nextB g k) (p.growB g).ff (r.flat (p.unL g) hf)
    · cases e
theorem ESt.a (h : EVt R Z false tt ft) : ESt R Z tt ft := fun F0 H0 σ env F H s d s' Q p e q =>
  h σ env F H s d s' Q p.preA e fun F' H' g k => q F' H' (p.next g k) g.ff
theorem ESt.b (h : EVt R Z true tt ft) : ESt R Z tt ft := fun F0 H0 σ env F H s d s' Q p e q =>
  h σ env _ H s d s' Q p.preB e fun F' H' g k => q _ H' (p.nextB g k) (p.growB g).ff
theorem SI.newN (p : SI R Z F0 H0 σ env F H s) {a : Addr} (h : H a = none) : H0 a = none ∧ ¬ Own σ env a := by
  refine ⟨?_, fun ho => ?_⟩
  · cases e : H0 a with
    | none => rfl
    | some o =>
      by_cases hz : Z.z a
      · exact absurd h (p.hz a hz).1
      · rw [p.gr.hh a o hz e] at h; cases h
  · obtain ⟨_, _, o, z, _⟩ := p.ownF ho
    rw [h] at z; cases z
theorem ESl.a (h : EVl R Z false te fl) : ESl R Z te fl := fun F0 H0 σ env F H s d s' Q p e q =>
  h σ env F H s d s' Q p.preA e fun a vs F' H' g k n1 n2 hH r => q a vs F' H' (p.next g k) g.ff (p.newN n1).1 n2 (p.newN n1).2 hH r
theorem ESl.b (h : EVl R Z true te fl) : ESl R Z te (fFlats fl) := fun F0 H0 σ env F H s d s' Q p e q => by
  unfold fFlats at e
  cases e1 : fl env s with
  | none => rw [e1] at e; cases e
  | some o =>
    obtain ⟨d1, s1⟩ := o
    rw [e1] at e
    simp only at e
    split at e
    · rename_i hf
      cases e
      refine h σ env _ H s _ _ Q p.preB e1 fun a vs F' H' g k n1 n2 hH r => q a vs _ H' (p.nextB g k) (p.growB g).ff (p.newN n1).1 ?_ (p.newN n1).2 hH (r.flat (p.unL g) hf)
      unfold unseen
      rw [if_neg (p.newN n1).2]
      exact n2
    · cases e
theorem ESi.a (h : EVi R Z false wi fl) : ESi R Z wi fl := fun F0 H0 σ env F H s d s' K p e q =>
  h σ env F H s d s' K p.preA e fun J F' H' g k it => q J F' H' (p.next g k) g.ff it
end

/-! ### statements -/
inductive Out where
  | nx (env : Env) | rt (d : D) | bk (env : Env) | ct (env : Env)
abbrev Stm (S : Type) := Env → S → Option (Out × S)
section
variable {S : Type} (R : RC) (Z : SK S)
def Post (F0 H0 F : Hp) (D : Ends) (o : Out) (s : S) : Prop := match o with
  | .nx e => ∀ σ' F' H', SI R Z F0 H0 σ' e F' H' s → Ex F F' → D.nx σ' H'
  | .bk e => ∀ σ' F' H', SI R Z F0 H0 σ' e F' H' s → Ex F F' → D.bk σ' H'
  | .ct e => ∀ σ' F' H', SI R Z F0 H0 σ' e F' H' s → Ex F F' → D.ct σ' H'
  | .rt d => ∀ v F' H', Grow Z.z F0 H0 F' H' → Z.ok s H' → Rep R F' d v → D.rt v H'
def ST (t : TS) (f : Stm S) : Prop := ∀ F0 H0 σ env F H s o s' D, SI R Z F0 H0 σ env F H s → f env s = some (o, s') → Post R Z F0 H0 F D o s' → t D σ H
end

section
variable {S : Type}
def sNext : Stm S := fun env s => some (.nx env, s)
def sBreak : Stm S := fun env s => some (.bk env, s)
def sCont : Stm S := fun env s => some (.ct env, s)
def sNever : Stm S := fun _ _ => none
def sSeq (f g : Stm S) : Stm S := fun env s => match f env s with
  | some (.nx e, s1) => g e s1
  | r => r
def sIf (ft : Fn S Bool) (f g : Stm S) : Stm S := fun env s => match ft env s with
  | some (true, s1) => f env s1
  | some (false, s1) => g env s1
  | none => none
def sDrop (fe : Fn S D) : Stm S := fun env s => match fe env s with
  | some (_, s1) => some (.nx env, s1)
  | none => none
def sRet (fe : Fn S D) : Stm S := fun env s => match fe env s with
  | some (d, s1) => some (.rt d, s1)
  | none => none
def sRetN : Stm S := fun _ s => some (.rt .non, s)
/-- target = e, the target of shared slots -/
def sAsg (fe : Fn S D) (b : Bd) : Stm S := fun env s => match fe env s with
  | some (d, s1) => match b env d with
    | some e => some (.nx e, s1)
    | none => none
  | none => none
/-- x = [..], x an own slot -/
def sOwn (i : Nat) (fl : Fn S (List D)) : Stm S := fun env s => match fl env s with
  | some (ds, s1) => some (.nx (env.set i (some (.own ds))), s1)
  | none => none
/-- x = y, y an own slot that is given up -/
def sMove (i j : Nat) : Stm S := fun env s => match env[j]? with
  | some (some (.own ds)) => if i < env.length then some (.nx ((env.set j none).set i (some (.lst ds))), s) else none
  | _ => none
/-- return y, y an own slot -/
def sRetO (j : Nat) : Stm S := fun env s => match env[j]? with
  | some (some (.own ds)) => some (.rt (.lst ds), s)
  | _ => none
/-- from here on y is shared -/
def freeze (j : Nat) (f : Stm S) : Stm S := fun env s => match env[j]? with
  | some (some (.own ds)) => f (env.set j (some (.lst ds))) s
  | _ => f env s
/-- y.append(e) -/
def sApp (i : Nat) (fe : Fn S D) : Stm S := fun env s => match fe env s with
  | none => none
  | some (d, s1) => match env[i]? with
    | some (some (.own ds)) => if ds.length < 100000 then some (.nx (env.set i (some (.own (ds ++ [d])))), s1) else none
    | _ => none
def ixD (n : Nat) (i : Int) : Option Nat := if 0 ≤ i then (if i < n then some i.toNat else none) else if -(n : Int) ≤ i then some (i + n).toNat else none
/-- y[k] = e -/
def sSet (i : Nat) (fk fe : Fn S D) : Stm S := fun env s => match fe env s with
  | none => none
  | some (d, s1) => match fk env s1 with
    | some (.int k, s2) => match env[i]? with
      | some (some (.own ds)) => match ixD ds.length k with
        | some j => some (.nx (env.set i (some (.own (ds.set j d)))), s2)
        | none => none
      | _ => none
    | _ => none
def forRun (b : Bd) (body : Stm S) : List D → Stm S
  | [], env, s => some (.nx env, s)
  | x :: xs, env, s => match b env x with
    | none => none
    | some e => match body e s with
      | some (.nx e1, s1) => forRun b body xs e1 s1
      | some (.ct e1, s1) => forRun b body xs e1 s1
      | some (.bk e1, s1) => some (.nx e1, s1)
      | r => r
def sFor (fi : Fn S (List D)) (b : Bd) (body : Stm S) : Stm S := fun env s => match fi env s with
  | some (xs, s1) => forRun b body xs env s1
  | none => none
def sWhile (ft : Fn S Bool) (body : Stm S) : Nat → Stm S
  | 0, _, _ => none
  | n + 1, env, s => match ft env s with
    | none => none
    | some (false, s1) => some (.nx env, s1)
    | some (true, s1) => match body env s1 with
      | some (.nx e1, s2) => sWhile ft body n e1 s2
      | some (.ct e1, s2) => sWhile ft body n e1 s2
      | some (.bk e1, s2) => some (.nx e1, s2)
      | r => r
end

section
variable {S : Type} {R : RC} {Z : SK S} {t u : TS} {f g : Stm S} {te tk : TE} {fe fk : Fn S D} {tt : TT} {ft : Fn S Bool} {fl : Fn S (List D)} {wi : TI} {tg : TG} {b : Bd} {ws : List Nat}
theorem Post.ex {F0 H0 F F' : Hp} {D : Ends} {o : Out} {s : S} (x : Ex F F') (q : Post R Z F0 H0 F D o s) : Post R Z F0 H0 F' D o s := by
  cases o with
  | nx e => exact fun σ' F2 H2 p x2 => q σ' F2 H2 p (x.trans x2)
  | bk e => exact fun σ' F2 H2 p x2 => q σ' F2 H2 p (x.trans x2)
  | ct e => exact fun σ' F2 H2 p x2 => q σ' F2 H2 p (x.trans x2)
  | rt d => exact q
theorem ST.next : ST R Z tNext sNext := fun F0 H0 σ env F H s o s' D p e q => by cases e; exact q σ F H p (Ex.refl F)
theorem ST.brk : ST R Z tBreak sBreak := fun F0 H0 σ env F H s o s' D p e q => by cases e; exact q σ F H p (Ex.refl F)
theorem ST.cont : ST R Z tCont sCont := fun F0 H0 σ env F H s o s' D p e q => by cases e; exact q σ F H p (Ex.refl F)
theorem ST.never : ST R Z tNever sNever := fun F0 H0 σ env F H s o s' D p e q => by cases e
theorem ST.seq (h1 : ST R Z t f) (h2 : ST R Z u g) : ST R Z (tSeq t u) (sSeq f g) := fun F0 H0 σ env F H s o s' D p e q => by
  unfold sSeq at e
  cases e1 : f env s with
  | none => rw [e1] at e; cases e
  | some o1 =>
    obtain ⟨o1, s1⟩ := o1
    rw [e1] at e
    show t { D with nx := u D } σ H
    cases o1 with
    | nx e2 => exact h1 F0 H0 σ env F H s _ s1 _ p e1 fun σ' F' H' p' x' => h2 F0 H0 σ' e2 F' H' s1 o s' D p' e (Post.ex x' q)
    | rt d => cases e; exact h1 F0 H0 σ env F H s _ _ _ p e1 q
    | bk d => cases e; exact h1 F0 H0 σ env F H s _ _ _ p e1 q
    | ct d => cases e; exact h1 F0 H0 σ env F H s _ _ _ p e1 q
theorem ST.ite (h : ESt R Z tt ft) (h1 : ST R Z t f) (h2 : ST R Z u g) : ST R Z (tIfS tt t u) (sIf ft f g) := fun F0 H0 σ env F H s o s' D p e q => by
  unfold sIf at e
  cases e1 : ft env s with
  | none => rw [e1] at e; cases e
  | some o1 =>
    obtain ⟨c, s1⟩ := o1
    rw [e1] at e
    refine h F0 H0 σ env F H s c s1 _ p e1 fun F' H' p' x' => ?_
    cases c with
    | true => show t D σ H'; exact h1 F0 H0 σ env F' H' s1 o s' D p' e (Post.ex x' q)
    | false => show u D σ H'; exact h2 F0 H0 σ env F' H' s1 o s' D p' e (Post.ex x' q)
theorem ST.drop (h : ES R Z te fe) : ST R Z (tDrop te) (sDrop fe) := fun F0 H0 σ env F H s o s' D p e q => by
  unfold sDrop at e
  cases e1 : fe env s with
  | none => rw [e1] at e; cases e
  | some o1 =>
    obtain ⟨d, s1⟩ := o1
    rw [e1] at e
    cases e
    exact h F0 H0 σ env F H s d _ _ p e1 fun v F' H' p' x' r => q σ F' H' p' x'
theorem ST.ret (h : ES R Z te fe) : ST R Z (tRet te) (sRet fe) := fun F0 H0 σ env F H s o s' D p e q => by
  unfold sRet at e
  cases e1 : fe env s with
  | none => rw [e1] at e; cases e
  | some o1 =>
    obtain ⟨d, s1⟩ := o1
    rw [e1] at e
    cases e
    exact h F0 H0 σ env F H s d _ _ p e1 fun v F' H' p' x' r => q v F' H' p'.gr p'.ok r
/-- return of a new list -/
theorem ST.retL (h : ESl R Z te fl) : ST R Z (tRet te) (sRet (fL fl)) := fun F0 H0 σ env F H s o s' D p e q => by
  unfold sRet fL at e
  cases e1 : fl env s with
  | none => rw [e1] at e; cases e
  | some o1 =>
    obtain ⟨ds, s1⟩ := o1
    rw [e1] at e
    cases e
    refine h F0 H0 σ env F H s ds _ _ p e1 fun a vs F' H' p' x' n0 nF no hH r => ?_
    refine q (.ref a) (upd F' a (.lst vs)) H' ⟨p'.gr.hh, fun b u e => by rw [upd_ne (ne_of_none (p'.gr.ff b u e) nF)]; exact p'.gr.ff b u e, fun b u e => ?_, fun b u e => ?_⟩ p'.ok (.lst upd_same (r.mono fun b u e => by rw [upd_ne (ne_of_none e nF)]; exact e))
    · by_cases hb : b = a
      · subst hb; rw [upd_same] at e; rw [hH]; exact e
      · rw [upd_ne hb] at e; exact p'.gr.fh b u e
    · by_cases hb : b = a
      · subst hb; exact .inr (.inl n0)
      · rw [upd_ne hb] at e; exact p'.gr.nw b u e
theorem ST.retN : ST R Z tRetN sRetN := fun F0 H0 σ env F H s o s' D p e q => by
  cases e
  exact q .non F H p.gr p.ok .non
/-- slots are written: what they hold now is shared -/
theorem SI.bound {F0 H0 : Hp} {σ σ' : L2.St} {env env' : Env} {F H : Hp} {s : S} (p : SI R Z F0 H0 σ env F H s) (l1 : σ'.length = σ.length) (l2 : env'.length = env.length)
    (k : ∀ i, i ∉ ws → σ'[i]? = σ[i]? ∧ env'[i]? = env[i]?) (k' : ∀ i, i ∈ ws → ∀ x, env'[i]? = some (some x) → (∃ w, σ'[i]? = some (some w) ∧ Rep R F x w)) : SI R Z F0 H0 σ' env' F H s where
  gr := p.gr
  zf := p.zf
  ok := p.ok
  z0 := p.z0
  sh := fun i d h1 h2 => by
    by_cases hi : i ∈ ws
    · exact k' i hi d h2
    · obtain ⟨a, b⟩ := k i hi
      rw [b] at h2
      rw [a]
      exact p.sh i d h1 h2
  ow := fun i d h1 h2 => by
    have hi : i ∉ ws := fun z => by
      obtain ⟨w, _, h⟩ := k' i z _ h2
      exact rep_ownF h h1
    obtain ⟨a, b⟩ := k i hi
    rw [b] at h2
    rw [a]
    exact p.ow i d h1 h2
  dj := fun i j ds es q o1 o2 h1 h2 h3 h4 => by
    have key : ∀ (i : Nat) d, d.isOwn = true → env'[i]? = some (some d) → σ'[i]? = σ[i]? ∧ env'[i]? = env[i]? := fun i ds ho h => k i fun z => by
      obtain ⟨w, _, h⟩ := k' i z _ h
      exact rep_ownF h ho
    obtain ⟨a1, b1⟩ := key i ds o1 h1
    obtain ⟨a2, b2⟩ := key j es o2 h2
    rw [b1] at h1; rw [b2] at h2; rw [a1] at h3; rw [a2] at h4
    exact p.dj i j ds es q o1 o2 h1 h2 h3 h4
  len := by rw [l1, l2]; exact p.len
theorem ST.asg (h : ES R Z te fe) (hg : EVg R ws tg b) : ST R Z (tAsg te tg) (sAsg fe b) := fun F0 H0 σ env F H s o s' D p e q => by
  unfold sAsg at e
  cases e1 : fe env s with
  | none => rw [e1] at e; cases e
  | some o1 =>
    obtain ⟨d, s1⟩ := o1
    rw [e1] at e
    simp only at e
    cases e2 : b env d with
    | none => rw [e2] at e; cases e
    | some env' =>
      rw [e2] at e
      cases e
      refine h F0 H0 σ env F H s d _ _ p e1 fun v F' H' p' x' r => ?_
      exact hg σ env env' F' H' d v _ p'.gr.fh r p'.len e2 fun σ' l1 l2 k k' => q σ' F' H' (p'.bound l1 l2 k k') x'
/-- a slot takes a new object that nobody else holds -/
theorem SI.putOwn {F0 H0 : Hp} {σ : L2.St} {env : Env} {F H : Hp} {s : S} {i : Nat} {d : D} {a : Addr} {o : HO} (p' : SI R Z F0 H0 σ env F H s) (hd : d.isOwn = true) (n0 : H0 a = none) (nF : F a = none) (no : ¬ Own σ env a) (hH : H a = some o) (r : OwnObj R F d o) :
    SI R Z F0 H0 (σ.set i (some (.ref a))) (env.set i (some d)) F H s := by
  have low : ∀ x, (env.set i (some d))[i]? = some (some x) → x = d ∧ (σ.set i (some (V.ref a)))[i]? = some (some (.ref a)) := fun x hx => by
    by_cases hl : i < env.length
    · rw [List.getElem?_set_self hl] at hx
      cases hx
      exact ⟨rfl, List.getElem?_set_self (by rw [p'.len]; exact hl)⟩
    · rw [List.getElem?_eq_none (by simp; omega)] at hx; cases hx
  refine ⟨p'.gr, p'.zf, p'.ok, p'.z0, fun j d2 h1 h2 => ?_, fun j d2 h1 h2 => ?_, fun j k d2 e x o1 o2 h3 h4 h5 h6 => ?_, by rw [List.length_set, List.length_set]; exact p'.len⟩
  · have hj : i ≠ j := fun z => by subst z; rw [(low _ h2).1, hd] at h1; cases h1
    rw [List.getElem?_set_ne hj] at h2 ⊢
    exact p'.sh j d2 h1 h2
  · by_cases hj : i = j
    · subst hj
      obtain ⟨e1, e2⟩ := low _ h2
      cases e1
      exact ⟨a, o, e2, hH, nF, n0, r⟩
    · rw [List.getElem?_set_ne hj] at h2 ⊢
      exact p'.ow j d2 h1 h2
  · have key : ∀ (j : Nat) e, e.isOwn = true → (env.set i (some d))[j]? = some (some e) → (σ.set i (some (V.ref a)))[j]? = some (some (.ref x)) → (i = j ∧ x = a) ∨ (i ≠ j ∧ env[j]? = some (some e) ∧ σ[j]? = some (some (.ref x)) ∧ x ≠ a) := fun j e he h2 h3 => by
      by_cases hj : i = j
      · subst hj
        rw [(low _ h2).2] at h3
        cases h3
        exact .inl ⟨rfl, rfl⟩
      · rw [List.getElem?_set_ne hj] at h2 h3
        exact .inr ⟨hj, h2, h3, fun z => no ⟨j, e, he, h2, by rw [← z]; exact h3⟩⟩
    rcases key j d2 o1 h3 h5 with ⟨a1, a2⟩ | ⟨a1, a2, a3, a4⟩ <;> rcases key k e o2 h4 h6 with ⟨b1, b2⟩ | ⟨b1, b2, b3, b4⟩
    · rw [← a1, b1]
    · exact absurd a2 b4
    · exact absurd b2 a4
    · exact p'.dj j k d2 e x o1 o2 a2 b2 a3 b3
/-- a slot takes a new list -/
theorem ST.ownL {i : Nat} (h : ESl R Z te fl) : ST R Z (tAsg te (gName i)) (sOwn i fl) := fun F0 H0 σ env F H s o s' D p e q => by
  unfold sOwn at e
  cases e1 : fl env s with
  | none => rw [e1] at e; cases e
  | some o1 =>
    obtain ⟨ds, s1⟩ := o1
    rw [e1] at e
    cases e
    refine h F0 H0 σ env F H s ds _ _ p e1 fun a vs F' H' p' x' n0 nF no hH r => ?_
    exact q (σ.set i (some (.ref a))) F' H' (p'.putOwn rfl n0 nF no hH ⟨vs, rfl, r⟩) x'
/-- an own slot's object is told and changed -/
theorem SI.setOwnO {F0 H0 : Hp} {σ : L2.St} {env : Env} {F H : Hp} {s : S} {i : Nat} {d d' : D} {a : Addr} {o' : HO} (p : SI R Z F0 H0 σ env F H s) (hd : d.isOwn = true) (hd' : d'.isOwn = true) (he : env[i]? = some (some d)) (ha : σ[i]? = some (some (.ref a))) (r : OwnObj R F d' o') :
    SI R Z F0 H0 σ (env.set i (some d')) F (upd H a o') s := by
  obtain ⟨a', o, e2, e3, e4, e5, e6⟩ := p.ow i d hd he
  rw [ha] at e2
  cases e2
  have hl : i < env.length := (List.getElem?_eq_some_iff.mp he).1
  refine ⟨⟨fun b o n h => ?_, p.gr.ff, fun b o h => ?_, p.gr.nw⟩, p.zf, Z.keep s H _ p.ok fun b hb => upd_ne fun z => by subst z; exact p.nz e5 hb, p.z0, fun j x h1 h2 => ?_, fun j x h1 h2 => ?_, fun j k x y q o1 o2 h3 h4 h5 h6 => ?_, by rw [List.length_set]; exact p.len⟩
  · rw [upd_ne (ne_of_none h e5)]; exact p.gr.hh b o n h
  · rw [upd_ne (ne_of_none h e4)]; exact p.gr.fh b o h
  · have hj : i ≠ j := fun z => by
      subst z
      rw [List.getElem?_set_self hl] at h2
      cases h2
      rw [hd'] at h1
      cases h1
    rw [List.getElem?_set_ne hj] at h2
    exact p.sh j x h1 h2
  · by_cases hj : i = j
    · subst hj
      rw [List.getElem?_set_self hl] at h2
      cases h2
      exact ⟨a, o', ha, upd_same, e4, e5, r⟩
    · rw [List.getElem?_set_ne hj] at h2
      obtain ⟨q, us, c2, c3, c4, c5, c6⟩ := p.ow j x h1 h2
      refine ⟨q, us, c2, ?_, c4, c5, c6⟩
      rw [upd_ne fun z => hj (p.dj i j d x a hd h1 he h2 ha (by rw [← z]; exact c2))]
      exact c3
  · have key : ∀ (j : Nat) x, x.isOwn = true → (env.set i (some d'))[j]? = some (some x) → ∃ x', x'.isOwn = true ∧ env[j]? = some (some x') := fun j x ho h => by
      by_cases hj : i = j
      · subst hj; exact ⟨d, hd, he⟩
      · rw [List.getElem?_set_ne hj] at h; exact ⟨x, ho, h⟩
    obtain ⟨x', ox, hx⟩ := key j x o1 h3
    obtain ⟨y', oy, hy⟩ := key k y o2 h4
    exact p.dj j k x' y' q ox oy hx hy h5 h6
theorem SI.setOwn {F0 H0 : Hp} {σ : L2.St} {env : Env} {F H : Hp} {s : S} {i : Nat} {d : List D} {a : Addr} {ds : List D} {vs : List V} (p : SI R Z F0 H0 σ env F H s) (he : env[i]? = some (some (.own d))) (ha : σ[i]? = some (some (.ref a))) (r : Reps R F ds vs) :
    SI R Z F0 H0 σ (env.set i (some (.own ds))) F (upd H a (.lst vs)) s := p.setOwnO rfl rfl he ha ⟨vs, rfl, r⟩
theorem ixD_eq {n : Nat} {i : Int} {j : Nat} (h : ixD n i = some j) : ixN n i = some j := h
theorem ST.app {i : Nat} (h : ES R Z te fe) : ST R Z (tDrop (tBM R.K "list" rAppend (tVar i) (tCons te tNil))) (sApp i fe) := fun F0 H0 σ env F H s o s' D p e q => by
  unfold sApp at e
  cases e1 : fe env s with
  | none => rw [e1] at e; cases e
  | some o1 =>
    obtain ⟨d, s1⟩ := o1
    rw [e1] at e
    simp only at e
    split at e
    case h_2 => cases e
    rename_i ds he
    split at e
    case isFalse => cases e
    rename_i hl
    cases e
    obtain ⟨a, vs, c2, c3, c4, c5, c6⟩ := p.owL i _ he
    refine ⟨.ref a, c2, .inl ⟨rfl, _, .inl (.inl c3)⟩, ?_⟩
    refine h F0 H0 σ env F H s d _ _ p e1 fun v F' H' p' x' r => ?_
    obtain ⟨a', vs', c2', c3', c4', c5', c6'⟩ := p'.owL i _ he
    rw [c2] at c2'
    cases c2'
    refine ⟨a, vs', v, rfl, rfl, c3', Evl.sz_lt (by rw [← c6'.length]; exact hl), ?_⟩
    exact q σ F' _ (p'.setOwn he c2 (c6'.append (.cons r .nil))) x'
theorem ST.set {i : Nat} (h : ES R Z te fe) (hk : ES R Z tk fk) : ST R Z (tAsg te (gSub (tVar i) tk rSetL)) (sSet i fk fe) := fun F0 H0 σ env F H s o s' D p e q => by
  unfold sSet at e
  cases e1 : fe env s with
  | none => rw [e1] at e; cases e
  | some o1 =>
    obtain ⟨d, s1⟩ := o1
    rw [e1] at e
    simp only at e
    split at e
    case h_2 => cases e
    rename_i k s2 e2
    split at e
    case h_2 => cases e
    rename_i ds he
    split at e
    case h_2 => cases e
    rename_i j hj
    cases e
    refine h F0 H0 σ env F H s d _ _ p e1 fun v F' H' p' x' r => ?_
    obtain ⟨a, vs, c2, c3, c4, c5, c6⟩ := p'.owL i _ he
    refine ⟨.ref a, c2, ?_⟩
    refine hk F0 H0 σ env F' H' s1 _ _ _ p' e2 fun w F2 H2 p2 x2 r2 => ?_
    cases r2
    obtain ⟨a', vs', c2', c3', c4', c5', c6'⟩ := p2.owL i _ he
    rw [c2] at c2'
    cases c2'
    refine ⟨a, vs', k, j, rfl, rfl, c3', by rw [← c6'.length]; exact ixD_eq hj, ?_⟩
    exact q σ F2 _ (p2.setOwn he c2 (c6'.set (r.mono x2) j)) (x'.trans x2)

theorem SI.dropOwn {F0 H0 : Hp} {σ : L2.St} {env : Env} {F H : Hp} {s : S} {j : Nat} {ds : List D} (p : SI R Z F0 H0 σ env F H s) (he : env[j]? = some (some (.own ds))) :
    ∃ a vs F', σ[j]? = some (some (.ref a)) ∧ Ex F F' ∧ F' a = some (.lst vs) ∧ Reps R F' ds vs ∧ SI R Z F0 H0 σ (env.set j none) F' H s := by
  obtain ⟨a, vs, c2, c3, c4, c5, c6⟩ := p.owL j _ he
  have hl : j < env.length := (List.getElem?_eq_some_iff.mp he).1
  have ex : Ex F (upd F a (.lst vs)) := fun b u e => by rw [upd_ne (ne_of_none e c4)]; exact e
  have old : ∀ (k : Nat) d, (env.set j none)[k]? = some (some d) → k ≠ j ∧ env[k]? = some (some d) := fun k d h => by
    by_cases hk : j = k
    · subst hk; rw [List.getElem?_set_self hl] at h; cases h
    · rw [List.getElem?_set_ne hk] at h; exact ⟨fun z => hk z.symm, h⟩
  refine ⟨a, vs, upd F a (.lst vs), c2, ex, upd_same, c6.mono ex, ⟨p.gr.hh, p.gr.ff.trans ex, fun b u e => ?_, fun b u e => ?_⟩, fun b hb => ?_, p.ok, p.z0, fun k d h1 h2 => ?_, fun k d h1 h2 => ?_, fun k l d e q o1 o2 h3 h4 h5 h6 => ?_, by rw [List.length_set]; exact p.len⟩
  · by_cases hb : b = a
    · subst hb; rw [upd_same] at e; rw [c3]; exact e
    · rw [upd_ne hb] at e; exact p.gr.fh b u e
  · by_cases hb : b = a
    · subst hb; exact .inr (.inl c5)
    · rw [upd_ne hb] at e; exact p.gr.nw b u e
  · rw [upd_ne fun z => by subst z; exact p.nz c5 hb]; exact p.zf b hb
  · obtain ⟨v, x, y⟩ := p.sh k d h1 (old k d h2).2
    exact ⟨v, x, y.mono ex⟩
  · obtain ⟨hk, h2'⟩ := old k _ h2
    obtain ⟨q, us, d2, d3, d4, d5, d6⟩ := p.ow k d h1 h2'
    refine ⟨q, us, d2, d3, ?_, d5, d6.mono ex⟩
    rw [upd_ne fun z => hk (p.dj k j d (.own ds) a h1 rfl h2' he (by rw [← z]; exact d2) c2)]
    exact d4
  · exact p.dj k l d e q o1 o2 (old k _ h3).2 (old l _ h4).2 h5 h6
/-- an own list shared from here on -/
theorem SI.freeze {F0 H0 : Hp} {σ : L2.St} {env : Env} {F H : Hp} {s : S} {j : Nat} {ds : List D} (p : SI R Z F0 H0 σ env F H s) (he : env[j]? = some (some (.own ds))) :
    ∃ F', Ex F F' ∧ SI R Z F0 H0 σ (env.set j (some (.lst ds))) F' H s := by
  obtain ⟨a, vs, F', c2, ex, c3, c4, p'⟩ := p.dropOwn he
  have hl : j < env.length := (List.getElem?_eq_some_iff.mp he).1
  refine ⟨F', ex, ?_⟩
  refine p'.bound (ws := [j]) rfl (by simp) (fun k hk => ?_) fun k hk x hx => ?_
  · have : j ≠ k := fun z => hk (by simp [z])
    rw [List.getElem?_set_ne this, List.getElem?_set_ne this]
    exact ⟨rfl, rfl⟩
  · have : k = j := by simpa using hk
    subst this
    rw [List.getElem?_set_self hl] at hx
    cases hx
    exact ⟨.ref a, c2, .lst c3 c4⟩
theorem ST.freeze {j : Nat} (h : ST R Z t f) : ST R Z t (SL.freeze j f) := fun F0 H0 σ env F H s o s' D p e q => by
  unfold SL.freeze at e
  split at e
  case h_2 => exact h F0 H0 σ env F H s o s' D p e q
  rename_i ds he
  obtain ⟨F', ex, p'⟩ := p.freeze he
  exact h F0 H0 σ _ F' H s o s' D p' e (Post.ex ex q)
/-- x = y -/
theorem ST.move {i j : Nat} : ST R Z (tAsg (tVar j) (gName i)) (sMove i j) := fun F0 H0 σ env F H s o s' D p e q => by
  unfold sMove at e
  split at e
  case h_2 => cases e
  rename_i ds he
  split at e
  case isFalse => cases e
  rename_i hil
  cases e
  obtain ⟨a, vs, F', c2, ex, c3, c4, p'⟩ := p.dropOwn he
  refine ⟨.ref a, c2, ?_⟩
  refine q (σ.set i (some (.ref a))) F' H (p'.bound (ws := [i]) (by simp) (by simp) (fun k hk => ?_) fun k hk x hx => ?_) ex
  · have : i ≠ k := fun z => hk (by simp [z])
    rw [List.getElem?_set_ne this, List.getElem?_set_ne this]
    exact ⟨rfl, rfl⟩
  · have : k = i := by simpa using hk
    subst this
    rw [List.getElem?_set_self (by simpa using hil)] at hx
    cases hx
    exact ⟨.ref a, List.getElem?_set_self (by rw [p.len]; exact hil), .lst c3 c4⟩
theorem ST.retO {j : Nat} : ST R Z (tRet (tVar j)) (sRetO j) := fun F0 H0 σ env F H s o s' D p e q => by
  unfold sRetO at e
  split at e
  case h_2 => cases e
  rename_i d he
  cases e
  obtain ⟨a, vs, F', c2, ex, c3, c4, p'⟩ := p.dropOwn he
  exact ⟨.ref a, c2, q (.ref a) F' H p'.gr p'.ok (.lst c3 c4)⟩
/-- x.append(y), y an own list that is given up -/
def sAppO (i j : Nat) : Stm S := fun env s => match env[j]? with
  | some (some (.own es)) => match env[i]? with
    | some (some (.own ds)) => if i = j then none else if ds.length < 100000 then some (.nx ((env.set j none).set i (some (.own (ds ++ [.lst es])))), s) else none
    | _ => none
  | _ => none
theorem ST.appO {i j : Nat} : ST R Z (tDrop (tBM R.K "list" rAppend (tVar i) (tCons (tVar j) tNil))) (sAppO i j) := fun F0 H0 σ env F H s o s' D p e q => by
  unfold sAppO at e
  split at e
  case h_2 => cases e
  rename_i es he
  split at e
  case h_2 => cases e
  rename_i ds hie
  split at e
  case isTrue => cases e
  rename_i hij
  split at e
  case isFalse => cases e
  rename_i hl
  cases e
  obtain ⟨b, ws, F', c2, ex, c3, c4, p'⟩ := p.dropOwn he
  have hie' : (env.set j none)[i]? = some (some (.own ds)) := by rw [List.getElem?_set_ne fun z => hij z.symm]; exact hie
  obtain ⟨a, vs, d2, d3, d4, d5, d6⟩ := p'.owL i _ hie'
  refine ⟨.ref a, d2, .inl ⟨rfl, _, .inl (.inl d3)⟩, .ref b, c2, a, vs, .ref b, rfl, rfl, d3, Evl.sz_lt (by rw [← d6.length]; exact hl), ?_⟩
  exact q σ F' _ (p'.setOwn hie' d2 (d6.append (.cons (.lst c3 c4) .nil))) ex

/-! ### loops -/
theorem ST.for (hi : ESi R Z wi fl) (hg : EVg R ws tg b) (hb : ST R Z t f) : ST R Z (tFor wi tg t) (sFor fl b f) := fun F0 H0 σ env F H s o s' D p e q => by
  unfold sFor at e
  cases e1 : fl env s with
  | none => rw [e1] at e; cases e
  | some o1 =>
    obtain ⟨xs, s1⟩ := o1
    rw [e1] at e
    refine hi F0 H0 σ env F H s xs s1 _ p e1 fun J F1 H1 p1 x1 it => ?_
    refine ⟨fun i m σ2 H2 => m = xs.length - i ∧ i ≤ xs.length ∧ ∃ env2 F2 s2, SI R Z F0 H0 σ2 env2 F2 H2 s2 ∧ Ex F1 F2 ∧ forRun b f (xs.drop i) env2 s2 = some (o, s'), ⟨xs.length, by simp, Nat.zero_le _, env, F1, s1, p1, Ex.refl _, by simpa using e⟩, ?_⟩
    rintro i m σ2 H2 ⟨rfl, hile, env2, F2, s2, p2, ex, er⟩
    by_cases hilt : i < xs.length
    · rw [List.drop_eq_getElem_cons hilt] at er
      unfold forRun at er
      refine .inr ⟨it.go i H2 hilt (ex.trans p2.gr.fh), fun σ' H' => i + 1 ≤ xs.length ∧ ∃ env2 F2 s2, SI R Z F0 H0 σ' env2 F2 H' s2 ∧ Ex F1 F2 ∧ forRun b f (xs.drop (i + 1)) env2 s2 = some (o, s'), fun σ' H' h => ⟨xs.length - (i + 1), by omega, rfl, h.1, h.2⟩, fun x H3 hy => ?_⟩
      have hd : xs[i]? = some xs[i] := List.getElem?_eq_getElem hilt
      obtain ⟨F3, g3, r3⟩ := it.yld i H2 x H3 F2 _ hd ex p2.gr.fh hy
      have p3 := p2.next (g3.up (z := Z.z)) (Z.grow p2.ok g3)
      cases eb : b env2 xs[i] with
      | none => rw [eb] at er; cases er
      | some env3 =>
        rw [eb] at er
        simp only at er
        refine hg σ2 env2 env3 F3 H3 xs[i] x _ p3.gr.fh r3 p3.len eb fun σ' l1 l2 k k' => ?_
        have p4 := p3.bound l1 l2 k k'
        have ex3 : Ex F1 F3 := ex.trans g3.ff
        cases ef : f env3 s2 with
        | none => rw [ef] at er; cases er
        | some o2 =>
          obtain ⟨o2, s3⟩ := o2
          rw [ef] at er
          refine hb F0 H0 σ' env3 F3 H3 s2 o2 s3 _ p4 ef ?_
          cases o2 with
          | nx e2 => exact fun σ5 F5 H5 p5 x5 => ⟨hilt, e2, F5, s3, p5, ex3.trans x5, er⟩
          | ct e2 => exact fun σ5 F5 H5 p5 x5 => ⟨hilt, e2, F5, s3, p5, ex3.trans x5, er⟩
          | bk e2 =>
            cases er
            exact fun σ5 F5 H5 p5 x5 => q σ5 F5 H5 p5 ((x1.trans ex3).trans x5)
          | rt d =>
            cases er
            exact q
    · have hi' : i = xs.length := by omega
      subst hi'
      refine .inl ⟨it.stop H2 (ex.trans p2.gr.fh), ?_⟩
      rw [List.drop_length] at er
      cases er
      exact q σ2 F2 H2 p2 (x1.trans ex)
theorem ST.while {n : Nat} (ht : ESt R Z tt ft) (hb : ST R Z t f) : ST R Z (tWhile tt t) (sWhile ft f n) := fun F0 H0 σ env F H s o s' D p e q => by
  refine ⟨fun m σ2 H2 => ∃ env2 F2 s2, SI R Z F0 H0 σ2 env2 F2 H2 s2 ∧ Ex F F2 ∧ sWhile ft f m env2 s2 = some (o, s'), ⟨n, env, F, s, p, Ex.refl F, e⟩, ?_⟩
  rintro m σ2 H2 ⟨env2, F2, s2, p2, ex, er⟩
  cases m with
  | zero => cases er
  | succ m =>
    unfold sWhile at er
    cases et : ft env2 s2 with
    | none => rw [et] at er; cases er
    | some o2 =>
      obtain ⟨c, s3⟩ := o2
      rw [et] at er
      refine ht F0 H0 σ2 env2 F2 H2 s2 c s3 _ p2 et fun F3 H3 p3 x3 => ?_
      cases c with
      | false =>
        cases er
        show D.nx σ2 H3
        exact q σ2 F3 H3 p3 (ex.trans x3)
      | true =>
        simp only at er
        show ∃ N : L2.St → Hp → Prop, _
        refine ⟨fun σ' H' => ∃ env2 F2 s2, SI R Z F0 H0 σ' env2 F2 H' s2 ∧ Ex F F2 ∧ sWhile ft f m env2 s2 = some (o, s'), fun σ' H' h => ⟨m, Nat.lt_succ_self m, h⟩, ?_⟩
        cases ef : f env2 s3 with
        | none => rw [ef] at er; cases er
        | some o4 =>
          obtain ⟨o4, s4⟩ := o4
          rw [ef] at er
          refine hb F0 H0 σ2 env2 F3 H3 s3 o4 s4 _ p3 ef ?_
          cases o4 with
          | nx e2 => exact fun σ5 F5 H5 p5 x5 => ⟨e2, F5, s4, p5, (ex.trans x3).trans x5, er⟩
          | ct e2 => exact fun σ5 F5 H5 p5 x5 => ⟨e2, F5, s4, p5, (ex.trans x3).trans x5, er⟩
          | bk e2 =>
            cases er
            exact fun σ5 F5 H5 p5 x5 => q σ5 F5 H5 p5 ((ex.trans x3).trans x5)
          | rt d =>
            cases er
            exact q
end
end SL
/-! Sem4: operations by values over plain data. -/
namespace SL
open PySem L2
open Evl (Ex)

/-! ### plain data as PyData -/
mutual
def D.p : D → PyData
  | .non => .none
  | .bl b => .bool b
  | .int i => .int i
  | .str x => .str x
  | .tup ds => .tuple (D.ps ds)
  | .lst ds => .list (D.ps ds)
  | .ins _ _ => .none
  | .tok _ => .none
  | .own _ => .none
  | .ktup _ => .none
  | .dic _ _ _ _ => .none
  | .xtup _ => .none
  | .odk _ _ _ => .none
def D.ps : List D → List PyData
  | [] => []
  | d :: ds => d.p :: D.ps ds
end
/-! no instance within, nested at most n deep -/
mutual
def D.okd : Nat → D → Bool
  | _, .non => true
  | _, .bl _ => true
  | _, .int _ => true
  | _, .str _ => true
  | n + 1, .tup ds => D.okds n ds
  | n + 1, .lst ds => D.okds n ds
  | 0, .tup _ => false
  | 0, .lst _ => false
  | _, .ins _ _ => false
  | _, .tok _ => false
  | _, .own _ => false
  | _, .ktup _ => false
  | _, .dic _ _ _ _ => false
  | _, .xtup _ => false
  | _, .odk _ _ _ => false
def D.okds : Nat → List D → Bool
  | _, [] => true
  | n, d :: ds => d.okd n && D.okds n ds
end
mutual
def eqD : D → D → Bool
  | .non, .non => true
  | .bl a, .bl b => a == b
  | .bl a, .int j => (if a then 1 else 0) == j
  | .int i, .bl b => i == (if b then 1 else 0)
  | .int i, .int j => i == j
  | .str x, .str y => x == y
  | .lst xs, .lst ys => eqDs xs ys
  | .tup xs, .tup ys => eqDs xs ys
  | _, _ => false
def eqDs : List D → List D → Bool
  | [], [] => true
  | x :: xs, y :: ys => eqD x y && eqDs xs ys
  | _, _ => false
end
theorem ps_map : ∀ ds : List D, D.ps ds = ds.map D.p
  | [] => rfl
  | d :: ds => by rw [D.ps, List.map_cons, ps_map ds]
theorem ps_length (ds : List D) : (D.ps ds).length = ds.length := by rw [ps_map, List.length_map]
mutual
theorem okd_plain : ∀ (n : Nat) (d : D), d.okd n = true → d.p.plain = true ∧ d.p.depth ≤ n
  | n, .non, _ => by simp [D.p, PyData.plain, PyData.depth]
  | n, .bl _, _ => by simp [D.p, PyData.plain, PyData.depth]
  | n, .int _, _ => by simp [D.p, PyData.plain, PyData.depth]
  | n, .str _, _ => by simp [D.p, PyData.plain, PyData.depth]
  | n + 1, .tup ds, h => by
    have := okds_plain n ds (by simpa [D.okd] using h)
    simp only [D.p, PyData.plain, PyData.depth]
    exact ⟨this.1, by omega⟩
  | n + 1, .lst ds, h => by
    have := okds_plain n ds (by simpa [D.okd] using h)
    simp only [D.p, PyData.plain, PyData.depth]
    exact ⟨this.1, by omega⟩
  | 0, .tup _, h => by simp [D.okd] at h
  | 0, .lst _, h => by simp [D.okd] at h
  | _, .ins _ _, h => by simp [D.okd] at h
  | _, .tok _, h => by simp [D.okd] at h
  | _, .own _, h => by simp [D.okd] at h
  | _, .ktup _, h => by simp [D.okd] at h
  | _, .dic _ _ _ _, h => by simp [D.okd] at h
  | _, .xtup _, h => by simp [D.okd] at h
  | _, .odk _ _ _, h => by simp [D.okd] at h
theorem okds_plain : ∀ (n : Nat) (ds : List D), D.okds n ds = true → PyData.plainAll (D.ps ds) = true ∧ PyData.depthAll (D.ps ds) ≤ n
  | n, [], _ => by simp [D.ps, PyData.plainAll, PyData.depthAll]
  | n, d :: ds, h => by
    simp only [D.okds, Bool.and_eq_true] at h
    have h1 := okd_plain n d h.1
    have h2 := okds_plain n ds h.2
    simp only [D.ps, PyData.plainAll, PyData.depthAll, Bool.and_eq_true]
    exact ⟨⟨h1.1, h2.1⟩, by omega⟩
end
mutual
theorem eqD_p : ∀ (n m : Nat) (x y : D), x.okd n = true → y.okd m = true → eqD x y = PyData.eqv x.p y.p
  | n + 1, m + 1, .tup xs, .tup ys, h, k => by
    simp only [eqD, D.p, PyData.eqv]
    exact eqDs_p n m xs ys (by simpa [D.okd] using h) (by simpa [D.okd] using k)
  | n + 1, m + 1, .lst xs, .lst ys, h, k => by
    simp only [eqD, D.p, PyData.eqv]
    exact eqDs_p n m xs ys (by simpa [D.okd] using h) (by simpa [D.okd] using k)
  | 0, _, .tup _, _, h, _ => by simp [D.okd] at h
  | 0, _, .lst _, _, h, _ => by simp [D.okd] at h
  | _, 0, _, .tup _, _, h => by simp [D.okd] at h
  | _, 0, _, .lst _, _, h => by simp [D.okd] at h
  | _, _, .ins _ _, _, h, _ => by simp [D.okd] at h
  | _, _, .tok _, _, h, _ => by simp [D.okd] at h
  | _, _, .own _, _, h, _ => by simp [D.okd] at h
  | _, _, .ktup _, _, h, _ => by simp [D.okd] at h
  | _, _, .dic _ _ _ _, _, h, _ => by simp [D.okd] at h
  | _, _, .xtup _, _, h, _ => by simp [D.okd] at h
  | _, _, .odk _ _ _, _, h, _ => by simp [D.okd] at h
  | _, _, _, .ins _ _, _, h => by simp [D.okd] at h
  | _, _, _, .tok _, _, h => by simp [D.okd] at h
  | _, _, _, .own _, _, h => by simp [D.okd] at h
  | _, _, _, .ktup _, _, h => by simp [D.okd] at h
  | _, _, _, .dic _ _ _ _, _, h => by simp [D.okd] at h
  | _, _, _, .xtup _, _, h => by simp [D.okd] at h
  | _, _, _, .odk _ _ _, _, h => by simp [D.okd] at h
  | _, _, .non, .non, _, _ => by simp [eqD, D.p, PyData.eqv]
  | _, _, .non, .bl _, _, _ => by simp [eqD, D.p, PyData.eqv]
  | _, _, .non, .int _, _, _ => by simp [eqD, D.p, PyData.eqv]
  | _, _, .non, .str _, _, _ => by simp [eqD, D.p, PyData.eqv]
  | _, _, .non, .tup _, _, _ => by simp [eqD, D.p, PyData.eqv]
  | _, _, .non, .lst _, _, _ => by simp [eqD, D.p, PyData.eqv]
  | _, _, .bl _, .non, _, _ => by simp [eqD, D.p, PyData.eqv]
  | _, _, .bl _, .bl _, _, _ => by simp [eqD, D.p, PyData.eqv]
  | _, _, .bl _, .int _, _, _ => by simp [eqD, D.p, PyData.eqv]
  | _, _, .bl _, .str _, _, _ => by simp [eqD, D.p, PyData.eqv]
  | _, _, .bl _, .tup _, _, _ => by simp [eqD, D.p, PyData.eqv]
  | _, _, .bl _, .lst _, _, _ => by simp [eqD, D.p, PyData.eqv]
  | _, _, .int _, .non, _, _ => by simp [eqD, D.p, PyData.eqv]
  | _, _, .int _, .bl _, _, _ => by simp [eqD, D.p, PyData.eqv]
  | _, _, .int _, .int _, _, _ => by simp [eqD, D.p, PyData.eqv]
  | _, _, .int _, .str _, _, _ => by simp [eqD, D.p, PyData.eqv]
  | _, _, .int _, .tup _, _, _ => by simp [eqD, D.p, PyData.eqv]
  | _, _, .int _, .lst _, _, _ => by simp [eqD, D.p, PyData.eqv]
  | _, _, .str _, .non, _, _ => by simp [eqD, D.p, PyData.eqv]
  | _, _, .str _, .bl _, _, _ => by simp [eqD, D.p, PyData.eqv]
  | _, _, .str _, .int _, _, _ => by simp [eqD, D.p, PyData.eqv]
  | _, _, .str _, .str _, _, _ => by simp [eqD, D.p, PyData.eqv]
  | _, _, .str _, .tup _, _, _ => by simp [eqD, D.p, PyData.eqv]
  | _, _, .str _, .lst _, _, _ => by simp [eqD, D.p, PyData.eqv]
  | _, _, .tup _, .non, _, _ => by simp [eqD, D.p, PyData.eqv]
  | _, _, .tup _, .bl _, _, _ => by simp [eqD, D.p, PyData.eqv]
  | _, _, .tup _, .int _, _, _ => by simp [eqD, D.p, PyData.eqv]
  | _, _, .tup _, .str _, _, _ => by simp [eqD, D.p, PyData.eqv]
  | _, _, .tup _, .lst _, _, _ => by simp [eqD, D.p, PyData.eqv]
  | _, _, .lst _, .non, _, _ => by simp [eqD, D.p, PyData.eqv]
  | _, _, .lst _, .bl _, _, _ => by simp [eqD, D.p, PyData.eqv]
  | _, _, .lst _, .int _, _, _ => by simp [eqD, D.p, PyData.eqv]
  | _, _, .lst _, .str _, _, _ => by simp [eqD, D.p, PyData.eqv]
  | _, _, .lst _, .tup _, _, _ => by simp [eqD, D.p, PyData.eqv]
theorem eqDs_p : ∀ (n m : Nat) (xs ys : List D), D.okds n xs = true → D.okds m ys = true → eqDs xs ys = PyData.eqvAll (D.ps xs) (D.ps ys)
  | _, _, [], [], _, _ => by simp [eqDs, D.ps, PyData.eqvAll]
  | _, _, [], _ :: _, _, _ => by simp [eqDs, D.ps, PyData.eqvAll]
  | _, _, _ :: _, [], _, _ => by simp [eqDs, D.ps, PyData.eqvAll]
  | n, m, x :: xs, y :: ys, h, k => by
    simp only [D.okds, Bool.and_eq_true] at h k
    simp only [eqDs, D.ps, PyData.eqvAll]
    rw [eqD_p n m x y h.1 k.1, eqDs_p n m xs ys h.2 k.2]
end
section
variable {R : RC} {F : Hp}
mutual
theorem Rep.dp : ∀ {n : Nat} {d : D} {v : V}, Rep R F d v → d.okd n = true → Dp R.K F v d.p
  | _, _, _, .non, _ => .non
  | _, _, _, .bl b, _ => .bl b
  | _, _, _, .int i, _ => .int i
  | _, _, _, .str x, _ => .str x
  | n + 1, _, _, .tup h r, k => .tup (SqT.of h) (Reps.dp r (by simpa [D.okd] using k))
  | _, _, _, .ktup h r, k => by simp [D.okd] at k
  | _, _, _, .xtup h r, k => by simp [D.okd] at k
  | _, _, _, .dicK h r, k => by simp [D.okd] at k
  | _, _, _, .dicT h r, k => by simp [D.okd] at k
  | n + 1, _, _, .lst h r, k => .lst (SqL.of h) (Reps.dp r (by simpa [D.okd] using k))
  | 0, _, _, .tup h r, k => by simp [D.okd] at k
  | 0, _, _, .lst h r, k => by simp [D.okd] at k
  | _, _, _, .ins _ _ _ _, k => by simp [D.okd] at k
  | _, _, _, .tok _, k => by simp [D.okd] at k
theorem Reps.dp : ∀ {n : Nat} {ds : List D} {vs : List V}, Reps R F ds vs → D.okds n ds = true → DpAll R.K F vs (D.ps ds)
  | _, _, _, .nil, _ => .nil
  | n, _, _, .cons h r, k => by
    simp only [D.okds, Bool.and_eq_true] at k
    exact .cons (Rep.dp h k.1) (Reps.dp r k.2)
end
end

/-! ### comparisons -/
section
variable {X : Cx}
def rDD (K : PySem.W.Frag) (n : Nat) (P : PyData → PyData → Prop) (g : PyData → PyData → Bool) : R2 := fun x y H Q => ∃ d e, Dp K H x d ∧ Dp K H y e ∧ d.plain = true ∧ e.plain = true ∧ d.depth ≤ n ∧ e.depth ≤ n ∧ P d e ∧ Q (.bl (g d e)) H
abbrev rEqX (K : PySem.W.Frag) : R2 := rDD K 60 (fun _ _ => True) PyData.eqv
abbrev rNeX (K : PySem.W.Frag) : R2 := rDD K 60 (fun _ _ => True) fun d e => !PyData.eqv d e
theorem op_eqX (hu : X.A.units + 64 < cLine) : OpR X (compareOp .Eq) (rEqX X.K) := by
  intro pins s σ H x y v u Q I rx ry h
  obtain ⟨d, e, hd, he, pd, pe, n1, n2, _, q⟩ := h
  obtain ⟨as, r1⟩ := Dp.reads I d x v hd rx
  obtain ⟨bs, r2⟩ := Dp.reads I e y u he ry
  exact SeqAt.eq_plain r1 r2 pd pe (by omega) ⟨.bl _, H, I, rfl, q⟩
theorem op_neX (hu : X.A.units + 64 < cLine) : OpR X (compareOp .NotEq) (rNeX X.K) := by
  intro pins s σ H x y v u Q I rx ry h
  obtain ⟨d, e, hd, he, pd, pe, n1, n2, _, q⟩ := h
  obtain ⟨as, r1⟩ := Dp.reads I d x v hd rx
  obtain ⟨bs, r2⟩ := Dp.reads I e y u he ry
  exact SeqAt.ne_plain r1 r2 pd pe (by omega) ⟨.bl _, H, I, rfl, q⟩
abbrev PA2 : PyData → PyData → Prop := fun d e => PySem.W.alike d e = true ∧ d ≠ .none
abbrev rLtX (K : PySem.W.Frag) : R2 := rDD K 60 PA2 PySem.W.dataLt
abbrev rGtX (K : PySem.W.Frag) : R2 := rDD K 60 PA2 fun d e => PySem.W.dataLt e d
abbrev rLeX (K : PySem.W.Frag) : R2 := rDD K 60 PA2 fun d e => !PySem.W.dataLt e d
abbrev rGeX (K : PySem.W.Frag) : R2 := rDD K 60 PA2 fun d e => !PySem.W.dataLt d e
theorem op_ltX (hu : X.A.units + 64 < cLine) : OpR X (compareOp .Lt) (rLtX X.K) := by
  intro pins s σ H x y v u Q I rx ry h
  obtain ⟨d, e, hd, he, pd, pe, n1, n2, ⟨ha, hn⟩, q⟩ := h
  obtain ⟨as, r1⟩ := Dp.reads I d x v hd rx
  obtain ⟨bs, r2⟩ := Dp.reads I e y u he ry
  exact PySem.W.lt_data r1 r2 ha hn (by omega) ⟨.bl _, H, I, rfl, q⟩
theorem op_gtX (hu : X.A.units + 64 < cLine) : OpR X (compareOp .Gt) (rGtX X.K) := by
  intro pins s σ H x y v u Q I rx ry h
  obtain ⟨d, e, hd, he, pd, pe, n1, n2, ⟨ha, hn⟩, q⟩ := h
  obtain ⟨as, r1⟩ := Dp.reads I d x v hd rx
  obtain ⟨bs, r2⟩ := Dp.reads I e y u he ry
  exact PySem.W.gt_data r1 r2 ha hn (by omega) ⟨.bl _, H, I, rfl, q⟩
theorem op_leX (hu : X.A.units + 64 < cLine) : OpR X (compareOp .LtE) (rLeX X.K) := by
  intro pins s σ H x y v u Q I rx ry h
  obtain ⟨d, e, hd, he, pd, pe, n1, n2, ⟨ha, hn⟩, q⟩ := h
  obtain ⟨as, r1⟩ := Dp.reads I d x v hd rx
  obtain ⟨bs, r2⟩ := Dp.reads I e y u he ry
  exact PySem.W.le_data r1 r2 ha hn (by omega) ⟨.bl _, H, I, rfl, q⟩
theorem op_geX (hu : X.A.units + 64 < cLine) : OpR X (compareOp .GtE) (rGeX X.K) := by
  intro pins s σ H x y v u Q I rx ry h
  obtain ⟨d, e, hd, he, pd, pe, n1, n2, ⟨ha, hn⟩, q⟩ := h
  obtain ⟨as, r1⟩ := Dp.reads I d x v hd rx
  obtain ⟨bs, r2⟩ := Dp.reads I e y u he ry
  exact PySem.W.ge_data r1 r2 ha hn (by omega) ⟨.bl _, H, I, rfl, q⟩
/-- x in l, l a list or a tuple -/
def rInX (K : PySem.W.Frag) (neg : Bool) : R2 := fun x y H Q => ∃ d ds, Dp K H x d ∧ (Dp K H y (.list ds) ∨ Dp K H y (.tuple ds)) ∧ d.plain = true ∧ PyData.plainAll ds = true ∧ d.depth ≤ 60 ∧ PyData.depthAll ds ≤ 60 ∧
  Q (.bl (if neg then !(ds.any fun z => PyData.eqv z d) else ds.any fun z => PyData.eqv z d)) H
theorem op_inX (hu : X.A.units + 64 < cLine) : OpR X (compareOp .In) (rInX X.K false) := by
  intro pins s σ H x y v u Q I rx ry h
  obtain ⟨d, ds, hd, he, pd, pe, n1, n2, q⟩ := h
  obtain ⟨as, r1⟩ := Dp.reads I d x v hd rx
  rcases he with he | he
  · obtain ⟨bs, r2⟩ := Dp.reads I (.list ds) y u he ry
    exact SeqAt.in_list_data r2 r1 pe pd (by omega) ⟨.bl _, H, I, rfl, q⟩
  · obtain ⟨bs, r2⟩ := Dp.reads I (.tuple ds) y u he ry
    exact SeqAt.in_tuple_data r2 r1 pe pd (by omega) ⟨.bl _, H, I, rfl, q⟩
theorem op_notInX (hu : X.A.units + 64 < cLine) : OpR X (compareOp .NotIn) (rInX X.K true) := by
  intro pins s σ H x y v u Q I rx ry h
  obtain ⟨d, ds, hd, he, pd, pe, n1, n2, q⟩ := h
  obtain ⟨as, r1⟩ := Dp.reads I d x v hd rx
  rcases he with he | he
  · obtain ⟨bs, r2⟩ := Dp.reads I (.list ds) y u he ry
    exact SeqAt.notIn_list_data r2 r1 pe pd (by omega) ⟨.bl _, H, I, rfl, q⟩
  · obtain ⟨bs, r2⟩ := Dp.reads I (.tuple ds) y u he ry
    exact SeqAt.notIn_tuple_data r2 r1 pe pd (by omega) ⟨.bl _, H, I, rfl, q⟩
end

/-! the order of alike data -/
mutual
def alikeD : D → D → Bool
  | .bl _, .bl _ => true
  | .int _, .int _ => true
  | .str _, .str _ => true
  | .lst xs, .lst ys => alikeDs xs ys
  | .tup xs, .tup ys => alikeDs xs ys
  | _, _ => false
def alikeDs : List D → List D → Bool
  | x :: xs, y :: ys => alikeD x y && alikeDs xs ys
  | _, _ => true
end
mutual
def ltD : D → D → Bool
  | .bl a, .bl b => !a && b
  | .int i, .int j => decide (i < j)
  | .str x, .str y => decide (x.cps.toList < y.cps.toList)
  | .lst xs, .lst ys => ltDs xs ys
  | .tup xs, .tup ys => ltDs xs ys
  | _, _ => false
def ltDs : List D → List D → Bool
  | x :: xs, y :: ys => if eqD x y then ltDs xs ys else ltD x y
  | [], _ :: _ => true
  | _, _ => false
end
end SL
/-! Sem5: each operation as a plain function of data. -/
namespace SL
open PySem L2
open Evl (Ex)

mutual
theorem alikeD_p : ∀ (x y : D), alikeD x y = true → PySem.W.alike x.p y.p = true ∧ x.p ≠ .none
  | .bl _, .bl _, _ => by simp [D.p, PySem.W.alike]
  | .int _, .int _, _ => by simp [D.p, PySem.W.alike]
  | .str _, .str _, _ => by simp [D.p, PySem.W.alike]
  | .lst xs, .lst ys, h => by
    simp only [D.p, PySem.W.alike]
    exact ⟨alikeDs_p xs ys (by simpa [alikeD] using h), by simp⟩
  | .tup xs, .tup ys, h => by
    simp only [D.p, PySem.W.alike]
    exact ⟨alikeDs_p xs ys (by simpa [alikeD] using h), by simp⟩
  | .non, y, h => by cases y <;> simp [alikeD] at h
  | .ins _ _, y, h => by cases y <;> simp [alikeD] at h
  | .tok _, y, h => by cases y <;> simp [alikeD] at h
  | .own _, y, h => by cases y <;> simp [alikeD] at h
  | .ktup _, y, h => by cases y <;> simp [alikeD] at h
  | .dic _ _ _ _, y, h => by cases y <;> simp [alikeD] at h
  | .xtup _, y, h => by cases y <;> simp [alikeD] at h
  | .odk _ _ _, y, h => by cases y <;> simp [alikeD] at h
  | .bl _, .non, h | .bl _, .int _, h | .bl _, .str _, h | .bl _, .tup _, h | .bl _, .lst _, h | .bl _, .ins _ _, h | .bl _, .tok _, h | .bl _, .own _, h | .bl _, .ktup _, h | .bl _, .dic _ _ _ _, h | .bl _, .xtup _, h | .bl _, .odk _ _ _, h => by simp [alikeD] at h
  | .int _, .non, h | .int _, .bl _, h | .int _, .str _, h | .int _, .tup _, h | .int _, .lst _, h | .int _, .ins _ _, h | .int _, .tok _, h | .int _, .own _, h | .int _, .ktup _, h | .int _, .dic _ _ _ _, h | .int _, .xtup _, h | .int _, .odk _ _ _, h => by simp [alikeD] at h
  | .str _, .non, h | .str _, .bl _, h | .str _, .int _, h | .str _, .tup _, h | .str _, .lst _, h | .str _, .ins _ _, h | .str _, .tok _, h | .str _, .own _, h | .str _, .ktup _, h | .str _, .dic _ _ _ _, h | .str _, .xtup _, h | .str _, .odk _ _ _, h => by simp [alikeD] at h
  | .tup _, .non, h | .tup _, .bl _, h | .tup _, .int _, h | .tup _, .str _, h | .tup _, .lst _, h | .tup _, .ins _ _, h | .tup _, .tok _, h | .tup _, .own _, h | .tup _, .ktup _, h | .tup _, .dic _ _ _ _, h | .tup _, .xtup _, h | .tup _, .odk _ _ _, h => by simp [alikeD] at h
  | .lst _, .non, h | .lst _, .bl _, h | .lst _, .int _, h | .lst _, .str _, h | .lst _, .tup _, h | .lst _, .ins _ _, h | .lst _, .tok _, h | .lst _, .own _, h | .lst _, .ktup _, h | .lst _, .dic _ _ _ _, h | .lst _, .xtup _, h | .lst _, .odk _ _ _, h => by simp [alikeD] at h
theorem alikeDs_p : ∀ (xs ys : List D), alikeDs xs ys = true → PySem.W.alikeAll (D.ps xs) (D.ps ys) = true
  | [], _, _ => by simp [D.ps, PySem.W.alikeAll]
  | _ :: _, [], _ => by simp [D.ps, PySem.W.alikeAll]
  | x :: xs, y :: ys, h => by
    simp only [alikeDs, Bool.and_eq_true] at h
    simp only [D.ps, PySem.W.alikeAll, Bool.and_eq_true]
    exact ⟨(alikeD_p x y h.1).1, alikeDs_p xs ys h.2⟩
end
mutual
theorem ltD_p : ∀ (n m : Nat) (x y : D), x.okd n = true → y.okd m = true → alikeD x y = true → ltD x y = PySem.W.dataLt x.p y.p
  | _, _, .bl a, .bl b, _, _, _ => by
    simp only [ltD, D.p, PySem.W.dataLt_bool]
    cases a <;> cases b <;> decide
  | _, _, .int _, .int _, _, _, _ => by simp only [ltD, D.p, PySem.W.dataLt_int]
  | _, _, .str _, .str _, _, _, _ => by simp only [ltD, D.p, PySem.W.dataLt_str]
  | n + 1, m + 1, .lst xs, .lst ys, h, k, a => by
    simp only [ltD, D.p, PySem.W.dataLt_list]
    exact ltDs_p n m xs ys (by simpa [D.okd] using h) (by simpa [D.okd] using k) (by simpa [alikeD] using a)
  | n + 1, m + 1, .tup xs, .tup ys, h, k, a => by
    simp only [ltD, D.p, PySem.W.dataLt_tuple]
    exact ltDs_p n m xs ys (by simpa [D.okd] using h) (by simpa [D.okd] using k) (by simpa [alikeD] using a)
  | 0, _, .lst _, _, h, _, _ => by simp [D.okd] at h
  | 0, _, .tup _, _, h, _, _ => by simp [D.okd] at h
  | _, 0, _, .lst _, _, h, _ => by simp [D.okd] at h
  | _, 0, _, .tup _, _, h, _ => by simp [D.okd] at h
  | _, _, .non, y, _, _, h => by cases y <;> simp [alikeD] at h
  | _, _, .ins _ _, y, _, _, h => by cases y <;> simp [alikeD] at h
  | _, _, .tok _, y, _, _, h => by cases y <;> simp [alikeD] at h
  | _, _, .own _, y, _, _, h => by cases y <;> simp [alikeD] at h
  | _, _, .ktup _, y, _, _, h => by cases y <;> simp [alikeD] at h
  | _, _, .dic _ _ _ _, y, _, _, h => by cases y <;> simp [alikeD] at h
  | _, _, .xtup _, y, _, _, h => by cases y <;> simp [alikeD] at h
  | _, _, .odk _ _ _, y, _, _, h => by cases y <;> simp [alikeD] at h
  | _, _, .bl _, .non, _, _, h | _, _, .bl _, .int _, _, _, h | _, _, .bl _, .str _, _, _, h | _, _, .bl _, .tup _, _, _, h | _, _, .bl _, .lst _, _, _, h | _, _, .bl _, .ins _ _, _, _, h | _, _, .bl _, .tok _, _, _, h | _, _, .bl _, .own _, _, _, h | _, _, .bl _, .ktup _, _, _, h | _, _, .bl _, .dic _ _ _ _, _, _, h | _, _, .bl _, .xtup _, _, _, h | _, _, .bl _, .odk _ _ _, _, _, h => by simp [alikeD] at h
  | _, _, .int _, .non, _, _, h | _, _, .int _, .bl _, _, _, h | _, _, .int _, .str _, _, _, h | _, _, .int _, .tup _, _, _, h | _, _, .int _, .lst _, _, _, h | _, _, .int _, .ins _ _, _, _, h | _, _, .int _, .tok _, _, _, h | _, _, .int _, .own _, _, _, h | _, _, .int _, .ktup _, _, _, h | _, _, .int _, .dic _ _ _ _, _, _, h | _, _, .int _, .xtup _, _, _, h | _, _, .int _, .odk _ _ _, _, _, h => by simp [alikeD] at h
  | _, _, .str _, .non, _, _, h | _, _, .str _, .bl _, _, _, h | _, _, .str _, .int _, _, _, h | _, _, .str _, .tup _, _, _, h | _, _, .str _, .lst _, _, _, h | _, _, .str _, .ins _ _, _, _, h | _, _, .str _, .tok _, _, _, h | _, _, .str _, .own _, _, _, h | _, _, .str _, .ktup _, _, _, h | _, _, .str _, .dic _ _ _ _, _, _, h | _, _, .str _, .xtup _, _, _, h | _, _, .str _, .odk _ _ _, _, _, h => by simp [alikeD] at h
  | _, _, .tup _, .non, _, _, h | _, _, .tup _, .bl _, _, _, h | _, _, .tup _, .int _, _, _, h | _, _, .tup _, .str _, _, _, h | _, _, .tup _, .lst _, _, _, h | _, _, .tup _, .ins _ _, _, _, h | _, _, .tup _, .tok _, _, _, h | _, _, .tup _, .own _, _, _, h | _, _, .tup _, .ktup _, _, _, h | _, _, .tup _, .dic _ _ _ _, _, _, h | _, _, .tup _, .xtup _, _, _, h | _, _, .tup _, .odk _ _ _, _, _, h => by simp [alikeD] at h
  | _, _, .lst _, .non, _, _, h | _, _, .lst _, .bl _, _, _, h | _, _, .lst _, .int _, _, _, h | _, _, .lst _, .str _, _, _, h | _, _, .lst _, .tup _, _, _, h | _, _, .lst _, .ins _ _, _, _, h | _, _, .lst _, .tok _, _, _, h | _, _, .lst _, .own _, _, _, h | _, _, .lst _, .ktup _, _, _, h | _, _, .lst _, .dic _ _ _ _, _, _, h | _, _, .lst _, .xtup _, _, _, h | _, _, .lst _, .odk _ _ _, _, _, h => by simp [alikeD] at h
theorem ltDs_p : ∀ (n m : Nat) (xs ys : List D), D.okds n xs = true → D.okds m ys = true → alikeDs xs ys = true → ltDs xs ys = PyProof.Rows.lexLt PyProof.Rows.itemOrd (PySem.W.keyToksAll (D.ps xs)) (PySem.W.keyToksAll (D.ps ys))
  | _, _, [], [], _, _, _ => by simp only [ltDs, D.ps]; decide
  | _, _, [], y :: ys, _, _, _ => by
    simp only [ltDs, D.ps, PySem.W.keyToksAll]
    symm
    rw [PySem.W.lex_atom (by simp)]
    decide
  | _, _, x :: xs, [], _, _, _ => by
    simp only [ltDs, D.ps, PySem.W.keyToksAll]
    symm
    rw [PySem.W.lex_atom (by simp)]
    decide
  | n, m, x :: xs, y :: ys, h, k, a => by
    simp only [D.okds, Bool.and_eq_true] at h k
    simp only [alikeDs, Bool.and_eq_true] at a
    have al := (alikeD_p x y a.1).1
    have e := eqD_p n m x y h.1 k.1
    simp only [ltDs, D.ps]
    cases q : eqD x y with
    | true =>
      rw [if_pos rfl, PySem.W.dataLt_all_yes al (by rw [← e, q])]
      exact ltDs_p n m xs ys h.2 k.2 a.2
    | false =>
      rw [if_neg (by simp), PySem.W.dataLt_all_no al (by rw [← e, q])]
      exact ltD_p n m x y h.1 k.1 a.1
end

/-! ### the operations -/
def gEq (x y : D) : Option D := match x, y with
  | .int i, .int j => some (.bl (i == j))
  | x, y => if x.okd 60 && y.okd 60 then some (.bl (eqD x y)) else none
def gNe (x y : D) : Option D := match x, y with
  | .int i, .int j => some (.bl (!(i == j)))
  | x, y => if x.okd 60 && y.okd 60 then some (.bl (!eqD x y)) else none
def gLt (x y : D) : Option D := match x, y with
  | .int i, .int j => some (.bl (decide (i < j)))
  | x, y => if x.okd 60 && y.okd 60 && alikeD x y then some (.bl (ltD x y)) else none
def gGt (x y : D) : Option D := match x, y with
  | .int i, .int j => some (.bl (decide (j < i)))
  | x, y => if x.okd 60 && y.okd 60 && alikeD x y && alikeD y x then some (.bl (ltD y x)) else none
def gLe (x y : D) : Option D := match x, y with
  | .int i, .int j => some (.bl (decide (i ≤ j)))
  | x, y => if x.okd 60 && y.okd 60 && alikeD x y && alikeD y x then some (.bl (!ltD y x)) else none
def gGe (x y : D) : Option D := match x, y with
  | .int i, .int j => some (.bl (decide (j ≤ i)))
  | x, y => if x.okd 60 && y.okd 60 && alikeD x y then some (.bl (!ltD x y)) else none
def items : D → Option (List D)
  | .tup ds => some ds
  | .ktup ds => some ds
  | .lst ds => some ds
  | _ => none
def inDs (x : D) : List D → Bool
  | [] => false
  | y :: ys => eqD y x || inDs x ys
def gIn (x y : D) : Option D := match items y with
  | some ds => if x.okd 60 && D.okds 60 ds then some (.bl (inDs x ds)) else none
  | none => none
def gNotIn (x y : D) : Option D := match items y with
  | some ds => if x.okd 60 && D.okds 60 ds then some (.bl (!inDs x ds)) else none
  | none => none
def D.isN : D → Bool
  | .non => true
  | _ => false
def gIsN (x : D) : Option D := some (.bl x.isN)
def gIsNotN (x : D) : Option D := some (.bl (!x.isN))
def gAdd (x y : D) : Option D := match x, y with
  | .int i, .int j => some (.int (i + j))
  | .tup xs, .tup ys => if xs.length + ys.length ≤ 100000 then some (.tup (xs ++ ys)) else none
  | .str a, .str b => if a.length + b.length ≤ 100000 then some (.str (a ++ b)) else none
  | _, _ => none
def gSub (x y : D) : Option D := match x, y with
  | .int i, .int j => some (.int (i - j))
  | _, _ => none
def smallI (i : Int) : Bool := decide (i.natAbs < 18446744073709551616)
def gMul (x y : D) : Option D := match x, y with
  | .int i, .int j => if smallI i || smallI j then some (.int (i * j)) else none
  | _, _ => none
def gDiv (x y : D) : Option D := match x, y with
  | .int i, .int j => if decide (0 < j) && decide (j < 1073741824) then some (.int (i / j)) else none
  | _, _ => none
def gMod (x y : D) : Option D := match x, y with
  | .int i, .int j => if decide (0 < j) then some (.int (i % j)) else none
  | _, _ => none
def gAnd (x y : D) : Option D := match x, y with
  | .int i, .int j => some (.int (Builtin.bitAnd i j))
  | _, _ => none
def gXor (x y : D) : Option D := match x, y with
  | .int i, .int j => some (.int (Builtin.bitXor i j))
  | _, _ => none
def gShl (x y : D) : Option D := match x, y with
  | .int i, .int j => if decide (0 ≤ j) && decide (j ≤ 1000) && smallI i then some (.int (i * 2 ^ j.toNat)) else none
  | _, _ => none
def gShr (x y : D) : Option D := match x, y with
  | .int i, .int j => if decide (0 ≤ j) then some (.int (i / 2 ^ j.toNat)) else none
  | _, _ => none
def gNeg (x : D) : Option D := match x with
  | .int i => some (.int (-i))
  | _ => none
def gPow (x y : D) : Option D := match x, y with
  | .int i, .int j => if decide (0 ≤ j) && decide (j ≤ 1000) && smallI i then some (.int (i ^ j.toNat)) else none
  | _, _ => none

section
variable {R : RC}
theorem opDD {P : PyData → PyData → Prop} {g : PyData → PyData → Bool} {F H : Hp} {x y : D} {vx vy : V} {b : Bool} {Q : VK} (e : Ex F H) (rx : Rep R F x vx) (ry : Rep R F y vy) (hx : x.okd 60 = true) (hy : y.okd 60 = true) (hP : P x.p y.p) (hb : g x.p y.p = b)
    (q : ∀ v F' H', Gr0 F H F' H' → Rep R F' (.bl b) v → Q v H') : rDD R.K 60 P g vx vy H Q :=
  ⟨x.p, y.p, (rx.mono e).dp hx, (ry.mono e).dp hy, (okd_plain 60 x hx).1, (okd_plain 60 y hy).1, (okd_plain 60 x hx).2, (okd_plain 60 y hy).2, hP, q _ F H (Grow.refl e) (by rw [hb]; exact .bl b)⟩
theorem e_eq : OpE R (rEqX R.K) gEq := by
  intro F H x y vx vy d Q e rx ry hg q
  have key : x.okd 60 = true → y.okd 60 = true → d = .bl (eqD x y) → rEqX R.K vx vy H Q := fun hx hy hd => by
    subst hd
    exact opDD e rx ry hx hy trivial (eqD_p 60 60 x y hx hy).symm q
  unfold gEq at hg
  split at hg
  · cases hg; exact key rfl rfl (by simp [eqD])
  · split at hg
    · rename_i hk
      rw [Bool.and_eq_true] at hk
      cases hg
      exact key hk.1 hk.2 rfl
    · cases hg
theorem e_ne : OpE R (rNeX R.K) gNe := by
  intro F H x y vx vy d Q e rx ry hg q
  have key : x.okd 60 = true → y.okd 60 = true → d = .bl (!eqD x y) → rNeX R.K vx vy H Q := fun hx hy hd => by
    subst hd
    exact opDD e rx ry hx hy trivial (by rw [eqD_p 60 60 x y hx hy]) q
  unfold gNe at hg
  split at hg
  · cases hg; exact key rfl rfl (by simp [eqD])
  · split at hg
    · rename_i hk
      rw [Bool.and_eq_true] at hk
      cases hg
      exact key hk.1 hk.2 rfl
    · cases hg
theorem e_lt : OpE R (rLtX R.K) gLt := by
  intro F H x y vx vy d Q e rx ry hg q
  have key : x.okd 60 = true → y.okd 60 = true → alikeD x y = true → d = .bl (ltD x y) → rLtX R.K vx vy H Q := fun hx hy ha hd => by
    subst hd
    exact opDD e rx ry hx hy (alikeD_p x y ha) (ltD_p 60 60 x y hx hy ha).symm q
  unfold gLt at hg
  split at hg
  · cases hg; exact key rfl rfl rfl (by simp [ltD])
  · split at hg
    · rename_i hk
      simp only [Bool.and_eq_true] at hk
      cases hg
      exact key hk.1.1 hk.1.2 hk.2 rfl
    · cases hg
theorem e_ge : OpE R (rGeX R.K) gGe := by
  intro F H x y vx vy d Q e rx ry hg q
  have key : x.okd 60 = true → y.okd 60 = true → alikeD x y = true → d = .bl (!ltD x y) → rGeX R.K vx vy H Q := fun hx hy ha hd => by
    subst hd
    exact opDD e rx ry hx hy (alikeD_p x y ha) (by rw [ltD_p 60 60 x y hx hy ha]) q
  unfold gGe at hg
  split at hg
  · rename_i i j
    cases hg; exact key rfl rfl rfl (by simp only [ltD]; congr 1; by_cases h : i < j <;> simp [h] <;> omega)
  · split at hg
    · rename_i hk
      simp only [Bool.and_eq_true] at hk
      cases hg
      exact key hk.1.1 hk.1.2 hk.2 rfl
    · cases hg
theorem e_gt : OpE R (rGtX R.K) gGt := by
  intro F H x y vx vy d Q e rx ry hg q
  have key : x.okd 60 = true → y.okd 60 = true → alikeD x y = true → alikeD y x = true → d = .bl (ltD y x) → rGtX R.K vx vy H Q := fun hx hy ha ha' hd => by
    subst hd
    exact opDD e rx ry hx hy (alikeD_p x y ha) (ltD_p 60 60 y x hy hx ha').symm q
  unfold gGt at hg
  split at hg
  · cases hg; exact key rfl rfl rfl rfl (by simp [ltD])
  · split at hg
    · rename_i hk
      simp only [Bool.and_eq_true] at hk
      cases hg
      exact key hk.1.1.1 hk.1.1.2 hk.1.2 hk.2 rfl
    · cases hg
theorem e_le : OpE R (rLeX R.K) gLe := by
  intro F H x y vx vy d Q e rx ry hg q
  have key : x.okd 60 = true → y.okd 60 = true → alikeD x y = true → alikeD y x = true → d = .bl (!ltD y x) → rLeX R.K vx vy H Q := fun hx hy ha ha' hd => by
    subst hd
    exact opDD e rx ry hx hy (alikeD_p x y ha) (by rw [ltD_p 60 60 y x hy hx ha']) q
  unfold gLe at hg
  split at hg
  · rename_i i j
    cases hg; exact key rfl rfl rfl rfl (by simp only [ltD]; congr 1; by_cases h : j < i <;> simp [h] <;> omega)
  · split at hg
    · rename_i hk
      simp only [Bool.and_eq_true] at hk
      cases hg
      exact key hk.1.1.1 hk.1.1.2 hk.1.2 hk.2 rfl
    · cases hg
theorem inDs_p {x : D} (hx : x.okd 60 = true) : ∀ ds : List D, D.okds 60 ds = true → inDs x ds = (D.ps ds).any fun z => PyData.eqv z x.p
  | [], _ => rfl
  | y :: ys, h => by
    simp only [D.okds, Bool.and_eq_true] at h
    simp only [inDs, D.ps, List.any_cons]
    rw [eqD_p 60 60 y x h.1 hx, inDs_p hx ys h.2]
theorem items_dp {F : Hp} {y : D} {vy : V} {ds : List D} (ry : Rep R F y vy) (h : items y = some ds) (hk : D.okds 60 ds = true) : Dp R.K F vy (.list (D.ps ds)) ∨ Dp R.K F vy (.tuple (D.ps ds)) := by
  cases ry with
  | tup h1 r => cases h; exact .inr (.tup (SqT.of h1) (Reps.dp r hk))
  | ktup h1 r => cases h; exact .inr (.tup h1 (Reps.dp r hk))
  | lst h1 r => cases h; exact .inl (.lst (SqL.of h1) (Reps.dp r hk))
  | _ => cases h
theorem e_in : OpE R (rInX R.K false) gIn := by
  intro F H x y vx vy d Q e rx ry hg q
  unfold gIn at hg
  split at hg
  · rename_i ds hi
    split at hg
    · rename_i hk
      rw [Bool.and_eq_true] at hk
      cases hg
      have p2 := okds_plain 60 ds hk.2
      refine ⟨x.p, D.ps ds, (rx.mono e).dp hk.1, items_dp (ry.mono e) hi hk.2, (okd_plain 60 x hk.1).1, p2.1, (okd_plain 60 x hk.1).2, p2.2, ?_⟩
      rw [inDs_p hk.1 ds hk.2] at q
      exact q _ F H (Grow.refl e) (.bl _)
    · cases hg
  · cases hg
theorem e_notIn : OpE R (rInX R.K true) gNotIn := by
  intro F H x y vx vy d Q e rx ry hg q
  unfold gNotIn at hg
  split at hg
  · rename_i ds hi
    split at hg
    · rename_i hk
      rw [Bool.and_eq_true] at hk
      cases hg
      have p2 := okds_plain 60 ds hk.2
      refine ⟨x.p, D.ps ds, (rx.mono e).dp hk.1, items_dp (ry.mono e) hi hk.2, (okd_plain 60 x hk.1).1, p2.1, (okd_plain 60 x hk.1).2, p2.2, ?_⟩
      rw [inDs_p hk.1 ds hk.2] at q
      exact q _ F H (Grow.refl e) (.bl _)
    · cases hg
  · cases hg
/-- x is None, x is not None, by the reading of the base -/
theorem EV.isN {S : Type} {Z : SK S} {m : Bool} {ta : TE} {fa : Fn S D} (h : EV R Z m ta fa) : EV R Z m (tIsN ta) (fUn gIsN fa) := by
  intro σ env F H s d s' Q p e q
  unfold fUn at e
  cases h1 : fa env s with
  | none => rw [h1] at e; cases e
  | some o1 =>
    obtain ⟨x, s1⟩ := o1
    rw [h1] at e
    simp only [gIsN, gIsNotN, Option.some.injEq, Prod.mk.injEq] at e
    obtain ⟨e1, e2⟩ := e
    subst e1 e2
    refine h σ env F H s x s1 _ p h1 fun vx F1 H1 g1 k1 r1 => ?_
    have : decide (vx = V.non) = x.isN := by cases r1 <;> simp [D.isN]
    rw [this]
    exact q _ F1 H1 g1 k1 (.bl _)
theorem EV.notN {S : Type} {Z : SK S} {m : Bool} {ta : TE} {fa : Fn S D} (h : EV R Z m ta fa) : EV R Z m (tNotN ta) (fUn gIsNotN fa) := by
  intro σ env F H s d s' Q p e q
  unfold fUn at e
  cases h1 : fa env s with
  | none => rw [h1] at e; cases e
  | some o1 =>
    obtain ⟨x, s1⟩ := o1
    rw [h1] at e
    simp only [gIsN, gIsNotN, Option.some.injEq, Prod.mk.injEq] at e
    obtain ⟨e1, e2⟩ := e
    subst e1 e2
    refine h σ env F H s x s1 _ p h1 fun vx F1 H1 g1 k1 r1 => ?_
    have : (!decide (vx = V.non)) = !x.isN := by cases r1 <;> simp [D.isN]
    rw [this]
    exact q _ F1 H1 g1 k1 (.bl _)
def rAddStr : R2 := fun x y H Q => ∃ i j, x = .str i ∧ y = .str j ∧ i.length + j.length ≤ sizeLine ∧ Q (.str (i ++ j)) H
def rAddX (K : PySem.W.Frag) : R2 := fun x y H Q => (∃ i j, x = .int i ∧ y = .int j ∧ Q (.int (i + j)) H) ∨ (rCatA K x y H Q ∨ rAddStr x y H Q)
theorem op_addX {X : Cx} : OpR X (binaryOp .Add) (rAddX X.K) := OpR.or op_add (OpR.or op_catA op_add_str)
theorem e_add : OpE R (rAddX R.K) gAdd := by
  intro F H x y vx vy d Q e rx ry hg q
  unfold gAdd at hg
  split at hg
  · cases hg; cases rx; cases ry
    exact .inl ⟨_, _, rfl, rfl, q _ F H (Grow.refl e) (.int _)⟩
  · split at hg
    case isFalse => cases hg
    rename_i xs ys hl
    cases hg
    cases rx with
    | tup h1 r1 => cases ry with
      | tup h2 r2 =>
        rename_i a vs b ws
        refine .inr (.inl ⟨a, b, vs, ws, rfl, rfl, sqT_ex e (SqT.of h1), sqT_ex e (SqT.of h2), ?_, fun z => ?_, fun z1 z2 => ?_, fun z1 z2 p hp => ?_⟩)
        · rw [← r1.length, ← r2.length]; exact sz5 hl
        · subst z; cases r1
          exact q _ F H (Grow.refl e) (.tup h2 r2)
        · subst z2; cases r2
          rw [List.append_nil] at q
          exact q _ F H (Grow.refl e) (.tup h1 r1)
        · have g : Gr0 F H (upd F p (.tup (vs ++ ws))) (upd H p (.tup (vs ++ ws))) := Gr0.new e hp
          exact q _ _ _ g (.tup upd_same ((r1.append r2).mono g.ff))
  · split at hg
    case isFalse => cases hg
    rename_i hl
    cases hg; cases rx; cases ry
    exact .inr (.inr ⟨_, _, rfl, rfl, sz5 hl, q _ F H (Grow.refl e) (.str _)⟩)
  · cases hg
/-- two ints -/
theorem opII {C : Int → Int → Prop} {r : Int → Int → V} {F H : Hp} {x y : D} {vx vy : V} {i j k : Int} {Q : VK} (e : Ex F H) (rx : Rep R F x vx) (ry : Rep R F y vy) (hx : x = .int i) (hy : y = .int j) (hC : C i j) (hr : r i j = .int k)
    (q : ∀ v F' H', Gr0 F H F' H' → Rep R F' (.int k) v → Q v H') : rI C r vx vy H Q := by
  subst hx hy
  cases rx
  cases ry
  refine ⟨i, j, rfl, rfl, hC, ?_⟩
  rw [hr]
  exact q _ F H (Grow.refl e) (.int k)
theorem opII0 {r : Int → Int → V} {F H : Hp} {x y : D} {vx vy : V} {i j k : Int} {Q : VK} (e : Ex F H) (rx : Rep R F x vx) (ry : Rep R F y vy) (hx : x = .int i) (hy : y = .int j) (hr : r i j = .int k)
    (q : ∀ v F' H', Gr0 F H F' H' → Rep R F' (.int k) v → Q v H') : rI0 r vx vy H Q := by
  subst hx hy
  cases rx
  cases ry
  refine ⟨i, j, rfl, rfl, ?_⟩
  rw [hr]
  exact q _ F H (Grow.refl e) (.int k)
abbrev rSubX : R2 := rI0 fun i j => .int (i - j)
theorem e_sub : OpE R rSubX gSub := by
  intro F H x y vx vy d Q e rx ry hg q
  unfold gSub at hg
  split at hg
  · cases hg
    exact opII0 e rx ry rfl rfl rfl q
  · cases hg
theorem small_of {i : Int} (h : smallI i = true) : -(2 ^ 64) < i ∧ i < 2 ^ 64 := by
  have := of_decide_eq_true h
  omega
abbrev rMulX : R2 := rI CMul fun i j => .int (i * j)
theorem e_mul : OpE R rMulX gMul := by
  intro F H x y vx vy d Q e rx ry hg q
  unfold gMul at hg
  split at hg
  · split at hg
    case isFalse => cases hg
    rename_i hk
    cases hg
    refine opII e rx ry rfl rfl ?_ rfl q
    rw [Bool.or_eq_true] at hk
    rcases hk with hk | hk
    · exact .inl (small_of hk)
    · exact .inr (small_of hk)
  · cases hg
abbrev rDivX : R2 := rI CDiv fun i j => .int (i / j)
theorem e_div : OpE R rDivX gDiv := by
  intro F H x y vx vy d Q e rx ry hg q
  unfold gDiv at hg
  split at hg
  · split at hg
    case isFalse => cases hg
    rename_i hk
    cases hg
    rw [Bool.and_eq_true] at hk
    exact opII e rx ry rfl rfl ⟨of_decide_eq_true hk.1, of_decide_eq_true hk.2⟩ rfl q
  · cases hg
abbrev rModX : R2 := rI (fun _ j => 0 < j) fun i j => .int (i % j)
theorem e_mod : OpE R rModX gMod := by
  intro F H x y vx vy d Q e rx ry hg q
  unfold gMod at hg
  split at hg
  · split at hg
    case isFalse => cases hg
    rename_i hk
    cases hg
    exact opII (C := fun _ j => 0 < j) e rx ry rfl rfl (of_decide_eq_true hk) rfl q
  · cases hg
abbrev rAndX : R2 := rI0 fun i j => .int (Builtin.bitAnd i j)
theorem e_and : OpE R rAndX gAnd := by
  intro F H x y vx vy d Q e rx ry hg q
  unfold gAnd at hg
  split at hg
  · cases hg
    exact opII0 e rx ry rfl rfl rfl q
  · cases hg
abbrev rXorX : R2 := rI0 fun i j => .int (Builtin.bitXor i j)
theorem e_xor : OpE R rXorX gXor := by
  intro F H x y vx vy d Q e rx ry hg q
  unfold gXor at hg
  split at hg
  · cases hg
    exact opII0 e rx ry rfl rfl rfl q
  · cases hg
theorem pow_of {i j : Int} (h : (decide (0 ≤ j) && decide (j ≤ 1000) && smallI i) = true) : CPow i j := by
  simp only [Bool.and_eq_true, decide_eq_true_eq] at h
  have := of_decide_eq_true h.2
  exact ⟨h.1.1, by omega, by omega⟩
abbrev rShlX : R2 := rI CPow fun i j => .int (i * 2 ^ j.toNat)
theorem e_shl : OpE R rShlX gShl := by
  intro F H x y vx vy d Q e rx ry hg q
  unfold gShl at hg
  split at hg
  · split at hg
    case isFalse => cases hg
    rename_i hk
    cases hg
    exact opII e rx ry rfl rfl (pow_of hk) rfl q
  · cases hg
abbrev rPowX : R2 := rI CPow fun i j => .int (i ^ j.toNat)
theorem e_pow : OpE R rPowX gPow := by
  intro F H x y vx vy d Q e rx ry hg q
  unfold gPow at hg
  split at hg
  · split at hg
    case isFalse => cases hg
    rename_i hk
    cases hg
    exact opII e rx ry rfl rfl (pow_of hk) rfl q
  · cases hg
abbrev rShrX : R2 := rI (fun _ j => 0 ≤ j) fun i j => .int (i / 2 ^ j.toNat)
theorem e_shr : OpE R rShrX gShr := by
  intro F H x y vx vy d Q e rx ry hg q
  unfold gShr at hg
  split at hg
  · split at hg
    case isFalse => cases hg
    rename_i hk
    cases hg
    exact opII (C := fun _ j => 0 ≤ j) e rx ry rfl rfl (of_decide_eq_true hk) rfl q
  · cases hg
theorem u_neg : UnE R (rU fun i => .int (-i)) gNeg := by
  intro F H x vx d Q e rx hg q
  unfold gNeg at hg
  split at hg
  · cases hg; cases rx
    exact ⟨_, rfl, q _ F H (Grow.refl e) (.int _)⟩
  · cases hg
end
end SL
/-! Sem6: built-in calls, subscripts, slices, attributes, walked things. -/
namespace SL
open PySem L2
open Evl (Ex)

/-! ### len, abs, int, min, max of two, sum -/
def gLen (xs : List D) : Option D := match xs with
  | [.tup ds] => some (.int ds.length)
  | [.lst ds] => some (.int ds.length)
  | [.ktup ds] => some (.int ds.length)
  | [.str x] => if x.length ≤ 100000 then some (.int x.length) else none
  | _ => none
def rLenX (K : PySem.W.Frag) : List V → Hp → VK → Prop := fun xs H Q => ∃ x n, xs = [x] ∧ LenV K x H n ∧ Q (.int n) H
theorem call_lenX {X : Cx} : CallR X (.builtin "len") (rLenX X.K) := call_len
def gAbs (xs : List D) : Option D := match xs with
  | [.int i] => some (.int (if i < 0 then -i else i))
  | _ => none
def rAbsX : List V → Hp → VK → Prop := fun xs H Q => ∃ i, xs = [.int i] ∧ Q (.int (if i < 0 then -i else i)) H
theorem call_absX {X : Cx} : CallR X (.builtin "abs") rAbsX := call_abs
def gMax2 (xs : List D) : Option D := match xs with
  | [.int i, .int j] => some (.int (if j > i then j else i))
  | _ => none
def gMin2 (xs : List D) : Option D := match xs with
  | [.int i, .int j] => some (.int (if j < i then j else i))
  | _ => none
def rMax2X : List V → Hp → VK → Prop := fun xs H Q => ∃ i j, xs = [.int i, .int j] ∧ Q (.int (if j > i then j else i)) H
def rMin2X : List V → Hp → VK → Prop := fun xs H Q => ∃ i j, xs = [.int i, .int j] ∧ Q (.int (if j < i then j else i)) H
theorem call_max2X {X : Cx} (hc : X.calm = true) : CallR X (.builtin "max") rMax2X := call_max2 hc
theorem call_min2X {X : Cx} (hc : X.calm = true) : CallR X (.builtin "min") rMin2X := call_min2 hc
def gInt (xs : List D) : Option D := match xs with
  | [.int i] => some (.int i)
  | [.bl b] => some (.int (if b then 1 else 0))
  | _ => none
def rIntX : List V → Hp → VK → Prop := fun xs H Q => (∃ i, xs = [.int i] ∧ Q (.int i) H) ∨ ∃ k, xs = [.bl k] ∧ Q (.int (if k then 1 else 0)) H
theorem call_intX {X : Cx} : CallR X (.type "int") rIntX := call_int1
def intsOf : List D → Option (List Int)
  | [] => some []
  | .int i :: ds => match intsOf ds with
    | some ns => some (i :: ns)
    | none => none
  | _ => none
def gSum (xs : List D) : Option D := match xs with
  | [.lst ds] => match intsOf ds with
    | some ns => some (.int ns.sum)
    | none => none
  | _ => none
section
variable {R : RC} {F H : Hp}
theorem Reps.one {d : D} {vs : List V} (r : Reps R F [d] vs) : ∃ v, vs = [v] ∧ Rep R F d v := by
  cases r with
  | cons h t => cases t; exact ⟨_, rfl, h⟩
theorem Reps.two {d e : D} {vs : List V} (r : Reps R F [d, e] vs) : ∃ v w, vs = [v, w] ∧ Rep R F d v ∧ Rep R F e w := by
  cases r with
  | cons h t => cases t with
    | cons h' t' => cases t'; exact ⟨_, _, rfl, h, h'⟩
theorem c_len : CallE R (rLenX R.K) gLen := by
  intro F H xs vs d Q e r hg q
  unfold gLen at hg
  split at hg
  · obtain ⟨v, rfl, rv⟩ := r.one
    cases rv with
    | tup h1 r1 =>
      cases hg
      exact ⟨_, _, rfl, .inr ⟨_, sqT_ex e (SqT.of h1), r1.length⟩, q _ F H (Grow.refl e) (.int _)⟩
  · obtain ⟨v, rfl, rv⟩ := r.one
    cases rv with
    | lst h1 r1 =>
      cases hg
      exact ⟨_, _, rfl, .inl ⟨_, SqL.of (e _ _ h1), r1.length⟩, q _ F H (Grow.refl e) (.int _)⟩
  · obtain ⟨v, rfl, rv⟩ := r.one
    cases rv with
    | ktup h1 r1 =>
      cases hg
      exact ⟨_, _, rfl, .inr ⟨_, sqT_ex e h1, r1.length⟩, q _ F H (Grow.refl e) (.int _)⟩
  · obtain ⟨v, rfl, rv⟩ := r.one
    cases rv with
    | str x =>
      split at hg
      · rename_i hl
        cases hg
        exact ⟨_, _, rfl, ⟨sz5 hl, rfl⟩, q _ F H (Grow.refl e) (.int _)⟩
      · cases hg
  · cases hg
theorem c_abs : CallE R rAbsX gAbs := by
  intro F H xs vs d Q e r hg q
  unfold gAbs at hg
  split at hg
  · obtain ⟨v, rfl, rv⟩ := r.one
    cases rv; cases hg
    exact ⟨_, rfl, q _ F H (Grow.refl e) (.int _)⟩
  · cases hg
theorem c_max2 : CallE R rMax2X gMax2 := by
  intro F H xs vs d Q e r hg q
  unfold gMax2 at hg
  split at hg
  · obtain ⟨v, w, rfl, rv, rw_⟩ := r.two
    cases rv; cases rw_; cases hg
    exact ⟨_, _, rfl, q _ F H (Grow.refl e) (.int _)⟩
  · cases hg
theorem c_min2 : CallE R rMin2X gMin2 := by
  intro F H xs vs d Q e r hg q
  unfold gMin2 at hg
  split at hg
  · obtain ⟨v, w, rfl, rv, rw_⟩ := r.two
    cases rv; cases rw_; cases hg
    exact ⟨_, _, rfl, q _ F H (Grow.refl e) (.int _)⟩
  · cases hg
theorem c_int : CallE R rIntX gInt := by
  intro F H xs vs d Q e r hg q
  unfold gInt at hg
  split at hg
  · obtain ⟨v, rfl, rv⟩ := r.one
    cases rv; cases hg
    exact .inl ⟨_, rfl, q _ F H (Grow.refl e) (.int _)⟩
  · obtain ⟨v, rfl, rv⟩ := r.one
    cases rv; cases hg
    exact .inr ⟨_, rfl, q _ F H (Grow.refl e) (.int _)⟩
  · cases hg
theorem ints_of : ∀ {ds : List D} {ns : List Int} {vs : List V}, Reps R F ds vs → intsOf ds = some ns → vs = ns.map V.int
  | [], ns, vs, r, h => by cases r; cases h; rfl
  | d :: ds, ns, vs, r, h => by
    cases r with
    | cons h1 r1 =>
      unfold intsOf at h
      split at h
      · rename_i q; cases q
      · rename_i i ds' e
        cases e
        split at h
        · rename_i ms hm
          cases h
          cases h1
          rw [ints_of r1 hm]
          rfl
        · cases h
      · cases h
theorem c_sum : CallE R (rSum R.K) gSum := by
  intro F H xs vs d Q e r hg q
  unfold gSum at hg
  split at hg
  · obtain ⟨v, rfl, rv⟩ := r.one
    cases rv with
    | lst h1 r1 =>
      split at hg
      · rename_i ns hn
        cases hg
        have := ints_of r1 hn
        subst this
        exact ⟨_, ns, rfl, SqL.of (e _ _ h1), q _ F H (Grow.refl e) (.int _)⟩
      · cases hg
  · cases hg
end

/-! ### any, all: by truth -/
def truD : D → Option Bool
  | .non => some false
  | .bl b => some b
  | .int i => some (i != 0)
  | .str x => if x.length ≤ 100000 then some ((x.length : Int) != 0) else none
  | .tup ds => if ds.length ≤ 100000 then some (!ds.isEmpty) else none
  | .lst ds => if ds.length ≤ 100000 then some (!ds.isEmpty) else none
  | _ => none
def truDs : List D → Option (List Bool)
  | [] => some []
  | d :: ds => match truD d with
    | some b => match truDs ds with
      | some bs => some (b :: bs)
      | none => none
    | none => none
def gAny (xs : List D) : Option D := match xs with
  | [y] => match items y with
    | some ds => match truDs ds with
      | some bs => if D.okds 60 ds then some (.bl (bs.any id)) else none
      | none => none
    | none => none
  | _ => none
def gAll (xs : List D) : Option D := match xs with
  | [y] => match items y with
    | some ds => match truDs ds with
      | some bs => if D.okds 60 ds then some (.bl (bs.all id)) else none
      | none => none
    | none => none
  | _ => none
def rTruX (K : PySem.W.Frag) (g : List PyData → Bool) : List V → Hp → VK → Prop := fun xs H Q => ∃ (y : V) (ds : List PyData), xs = [y] ∧ (Dp K H y (.list ds) ∨ Dp K H y (.tuple ds)) ∧ PyData.plainAll ds = true ∧ (∀ x ∈ ds, x.fits63) ∧ Q (.bl (g ds)) H
abbrev rAnyX (K : PySem.W.Frag) := rTruX K fun ds => ds.any PyData.truthy
abbrev rAllX (K : PySem.W.Frag) := rTruX K fun ds => ds.all PyData.truthy
section
variable {X : Cx}
theorem call_anyX (hc : X.calm = true) : CallR X (.builtin "any") (rAnyX X.K) := by
  intro pins s σ H xs us Q I r h
  obtain ⟨y, ds, rfl, hd, hp, hf, q⟩ := h
  obtain ⟨u, rfl, ru⟩ := vals1 r
  rcases hd with hd | hd
  · obtain ⟨as, rr⟩ := Dp.reads I _ y u hd ru
    cases rr with
    | list h1 h2 h3 h4 =>
      exact PySem.W.any_list_data (I.ok.hd hc) ⟨_, h1, h2, _, h3⟩ h4 hp hf fun h' tk hk => ⟨.bl _, H, I.kept hk, rfl, q⟩
  · obtain ⟨as, rr⟩ := Dp.reads I _ y u hd ru
    cases rr with
    | tuple h1 h2 h3 h4 =>
      exact PySem.W.any_tuple_data (I.ok.hd hc) ⟨_, h1, h2, _, h3⟩ h4 hp hf fun h' tk hk => ⟨.bl _, H, I.kept hk, rfl, q⟩
theorem call_allX (hc : X.calm = true) : CallR X (.builtin "all") (rAllX X.K) := by
  intro pins s σ H xs us Q I r h
  obtain ⟨y, ds, rfl, hd, hp, hf, q⟩ := h
  obtain ⟨u, rfl, ru⟩ := vals1 r
  rcases hd with hd | hd
  · obtain ⟨as, rr⟩ := Dp.reads I _ y u hd ru
    cases rr with
    | list h1 h2 h3 h4 =>
      exact PySem.W.all_list_data (I.ok.hd hc) ⟨_, h1, h2, _, h3⟩ h4 hp hf fun h' tk hk => ⟨.bl _, H, I.kept hk, rfl, q⟩
  · obtain ⟨as, rr⟩ := Dp.reads I _ y u hd ru
    cases rr with
    | tuple h1 h2 h3 h4 =>
      exact PySem.W.all_tuple_data (I.ok.hd hc) ⟨_, h1, h2, _, h3⟩ h4 hp hf fun h' tk hk => ⟨.bl _, H, I.kept hk, rfl, q⟩
end
theorem truD_p {d : D} {b : Bool} (h : truD d = some b) : d.p.truthy = b ∧ d.p.fits63 := by
  cases d with
  | non => cases h; exact ⟨rfl, trivial⟩
  | bl _ => cases h; exact ⟨rfl, trivial⟩
  | int _ => cases h; exact ⟨rfl, trivial⟩
  | str x =>
    simp only [truD] at h
    split at h
    · rename_i hl; cases h; exact ⟨rfl, by show (x.length : Int) < 2 ^ 63; omega⟩
    · cases h
  | tup ds =>
    simp only [truD] at h
    split at h
    · rename_i hl; cases h
      refine ⟨?_, by show ((D.ps ds).length : Int) < 2 ^ 63; rw [ps_length]; omega⟩
      show (!(D.ps ds).isEmpty) = !ds.isEmpty
      cases ds <;> rfl
    · cases h
  | lst ds =>
    simp only [truD] at h
    split at h
    · rename_i hl; cases h
      refine ⟨?_, by show ((D.ps ds).length : Int) < 2 ^ 63; rw [ps_length]; omega⟩
      show (!(D.ps ds).isEmpty) = !ds.isEmpty
      cases ds <;> rfl
    · cases h
  | ins _ _ => cases h
  | tok _ => cases h
  | own _ => cases h
  | odk _ _ _ => cases h
  | ktup _ => cases h
  | dic _ _ _ _ => cases h
  | xtup _ => cases h
theorem truDs_p : ∀ {ds : List D} {bs : List Bool}, truDs ds = some bs → (D.ps ds).map PyData.truthy = bs ∧ ∀ x ∈ D.ps ds, x.fits63
  | [], bs, h => by cases h; exact ⟨rfl, by simp [D.ps]⟩
  | d :: ds, bs, h => by
    unfold truDs at h
    split at h
    · rename_i b hb
      split at h
      · rename_i bs' hbs
        cases h
        obtain ⟨h1, h2⟩ := truD_p hb
        obtain ⟨h3, h4⟩ := truDs_p hbs
        refine ⟨by simp [D.ps, h1, h3], fun x hx => ?_⟩
        simp only [D.ps, List.mem_cons] at hx
        rcases hx with rfl | hx
        · exact h2
        · exact h4 x hx
      · cases h
    · cases h
section
variable {R : RC}
theorem c_any : CallE R (rAnyX R.K) gAny := by
  intro F H xs vs d Q e r hg q
  unfold gAny at hg
  split at hg
  case h_2 => cases hg
  obtain ⟨v, rfl, rv⟩ := r.one
  split at hg
  case h_2 => cases hg
  rename_i ds hi
  split at hg
  case h_2 => cases hg
  rename_i bs hb
  split at hg
  case isFalse => cases hg
  rename_i hk
  cases hg
  obtain ⟨h1, h2⟩ := truDs_p hb
  refine ⟨v, D.ps ds, rfl, items_dp (rv.mono e) hi hk, (okds_plain 60 ds hk).1, h2, ?_⟩
  have : bs.any id = (D.ps ds).any PyData.truthy := by rw [← h1, List.any_map]; rfl
  rw [this] at q
  exact q _ F H (Grow.refl e) (.bl _)
theorem c_all : CallE R (rAllX R.K) gAll := by
  intro F H xs vs d Q e r hg q
  unfold gAll at hg
  split at hg
  case h_2 => cases hg
  obtain ⟨v, rfl, rv⟩ := r.one
  split at hg
  case h_2 => cases hg
  rename_i ds hi
  split at hg
  case h_2 => cases hg
  rename_i bs hb
  split at hg
  case isFalse => cases hg
  rename_i hk
  cases hg
  obtain ⟨h1, h2⟩ := truDs_p hb
  refine ⟨v, D.ps ds, rfl, items_dp (rv.mono e) hi hk, (okds_plain 60 ds hk).1, h2, ?_⟩
  have : bs.all id = (D.ps ds).all PyData.truthy := by rw [← h1, List.all_map]; rfl
  rw [this] at q
  exact q _ F H (Grow.refl e) (.bl _)
/-- a value by its truth, as a test -/
def tTruX (K : PySem.W.Frag) (ta : TE) : TT := fun σ H Q => ta σ H fun x H' => ∃ k, TruV K x H' k ∧ Q k H'
def fTru {S : Type} (fa : Fn S D) : Fn S Bool := fun env s => match fa env s with
  | some (d, s1) => match truD d with
    | some b => some (b, s1)
    | none => none
  | none => none
theorem truD_V {F H : Hp} {d : D} {v : V} {b : Bool} (e : Ex F H) (r : Rep R F d v) (h : truD d = some b) : TruV R.K v H b := by
  cases r with
  | non => cases h; rfl
  | bl _ => cases h; rfl
  | int _ => cases h; rfl
  | str x =>
    simp only [truD] at h
    split at h
    · rename_i hl; cases h; exact ⟨sz5 hl, rfl⟩
    · cases h
  | tup h1 r1 =>
    simp only [truD] at h
    split at h
    · cases h
      refine .inr (.inl ⟨_, sqT_ex e (SqT.of h1), ?_⟩)
      cases r1 <;> rfl
    · cases h
  | lst h1 r1 =>
    simp only [truD] at h
    split at h
    · cases h
      refine .inl ⟨_, SqL.of (e _ _ h1), ?_⟩
      cases r1 <;> rfl
    · cases h
  | ins _ _ _ => cases h
  | ktup _ _ => cases h
  | xtup _ _ => cases h
  | dicK _ _ => cases h
  | dicT _ _ => cases h
  | tok _ => cases h
theorem EVt.tru {S : Type} {Z : SK S} {m : Bool} {ta : TE} {fa : Fn S D} (h : EV R Z m ta fa) : EVt R Z m (tTruX R.K ta) (fTru fa) := by
  intro σ env F H s b s' Q p e q
  unfold fTru at e
  cases h1 : fa env s with
  | none => rw [h1] at e; cases e
  | some o1 =>
    obtain ⟨x, s1⟩ := o1
    rw [h1] at e
    simp only at e
    cases h2 : truD x with
    | none => rw [h2] at e; cases e
    | some b1 =>
      rw [h2] at e
      cases e
      refine h σ env F H s x _ _ p h1 fun vx F1 H1 g1 k1 r1 => ?_
      exact ⟨_, truD_V g1.fh r1 h2, q F1 H1 g1 k1⟩
end

/-! ### isinstance(x, T) -/
def rIsiX (K : PySem.W.Frag) (T : String) (f : PyData → Bool) : List V → Hp → VK → Prop := fun xs H Q => ∃ (y : V) (d : PyData), xs = [y, .ty T] ∧ Dp K H y d ∧ Q (.bl (f d)) H
section
variable {X : Cx}
theorem call_isiInt : CallR X (.builtin "isinstance") (rIsiX X.K "int" PyData.isInt) := by
  intro pins s σ H xs us Q I r h
  obtain ⟨y, d, rfl, hd, q⟩ := h
  obtain ⟨u, w', rfl, ru, rw_⟩ := vals2 r
  obtain rfl : w' = Value.type "int" := rw_
  obtain ⟨as, rr⟩ := Dp.reads I _ y u hd ru
  exact PySem.W.isinstance_int_data rr fun tk _ => ⟨.bl _, H, I.tok tk, rfl, q⟩
theorem call_isiBool : CallR X (.builtin "isinstance") (rIsiX X.K "bool" PyData.isBool) := by
  intro pins s σ H xs us Q I r h
  obtain ⟨y, d, rfl, hd, q⟩ := h
  obtain ⟨u, w', rfl, ru, rw_⟩ := vals2 r
  obtain rfl : w' = Value.type "bool" := rw_
  obtain ⟨as, rr⟩ := Dp.reads I _ y u hd ru
  exact PySem.W.isinstance_bool_data rr fun tk _ => ⟨.bl _, H, I.tok tk, rfl, q⟩
theorem call_isiTuple : CallR X (.builtin "isinstance") (rIsiX X.K "tuple" PyData.isTuple) := by
  intro pins s σ H xs us Q I r h
  obtain ⟨y, d, rfl, hd, q⟩ := h
  obtain ⟨u, w', rfl, ru, rw_⟩ := vals2 r
  obtain rfl : w' = Value.type "tuple" := rw_
  obtain ⟨as, rr⟩ := Dp.reads I _ y u hd ru
  exact PySem.W.isinstance_tuple_data rr fun tk _ => ⟨.bl _, H, I.tok tk, rfl, q⟩
end
def gIsiInt (x : D) : Option D := if x.okd 60 then some (.bl (match x with | .int _ => true | .bl _ => true | _ => false)) else none
def gIsiBool (x : D) : Option D := if x.okd 60 then some (.bl (match x with | .bl _ => true | _ => false)) else none
def gIsiTuple (x : D) : Option D := if x.okd 60 then some (.bl (match x with | .tup _ => true | _ => false)) else none
section
variable {S : Type} {R : RC} {Z : SK S} {m : Bool} {ta : TE} {fa : Fn S D}
theorem EV.isi {T : String} {f : PyData → Bool} {g : D → Option D} (hg : ∀ x d, g x = some d → x.okd 60 = true ∧ d = .bl (f x.p)) (h : EV R Z m ta fa) : EV R Z m (tCB (rIsiX R.K T f) (tCons ta (tCons (tC (.ty T)) tNil))) (fUn g fa) := by
  intro σ env F H s d s' Q p e q
  unfold fUn at e
  cases h1 : fa env s with
  | none => rw [h1] at e; cases e
  | some o1 =>
    obtain ⟨x, s1⟩ := o1
    rw [h1] at e
    simp only at e
    cases h3 : g x with
    | none => rw [h3] at e; cases e
    | some d3 =>
      rw [h3] at e
      cases e
      obtain ⟨hk, rfl⟩ := hg x _ h3
      refine h σ env F H s x _ _ p h1 fun vx F1 H1 g1 k1 r1 => ?_
      exact ⟨vx, x.p, rfl, (r1.mono g1.fh).dp hk, q _ F1 H1 g1 k1 (.bl _)⟩
theorem EV.isiInt (h : EV R Z m ta fa) : EV R Z m (tCB (rIsiX R.K "int" PyData.isInt) (tCons ta (tCons (tC (.ty "int")) tNil))) (fUn gIsiInt fa) := EV.isi (fun x d e => by
  unfold gIsiInt at e
  split at e
  · rename_i hk
    cases e
    refine ⟨hk, ?_⟩
    cases x <;> rfl
  · cases e) h
theorem EV.isiBool (h : EV R Z m ta fa) : EV R Z m (tCB (rIsiX R.K "bool" PyData.isBool) (tCons ta (tCons (tC (.ty "bool")) tNil))) (fUn gIsiBool fa) := EV.isi (fun x d e => by
  unfold gIsiBool at e
  split at e
  · rename_i hk
    cases e
    refine ⟨hk, ?_⟩
    cases x <;> rfl
  · cases e) h
theorem EV.isiTuple (h : EV R Z m ta fa) : EV R Z m (tCB (rIsiX R.K "tuple" PyData.isTuple) (tCons ta (tCons (tC (.ty "tuple")) tNil))) (fUn gIsiTuple fa) := EV.isi (fun x d e => by
  unfold gIsiTuple at e
  split at e
  · rename_i hk
    cases e
    refine ⟨hk, ?_⟩
    cases x <;> rfl
  · cases e) h
end

/-! ### list(x), tuple(x) -/
def rListX (K : PySem.W.Frag) : List V → Hp → VK → Prop := fun xs H Q => ∃ p ys, xs = [.ref p] ∧ (SqL K H p ys ∨ SqT K H p ys) ∧ ∀ l, H l = none → Q (.ref l) (upd H l (.lst ys))
theorem call_listX {X : Cx} : CallR X (.type "list") (rListX X.K) := call_list_of
def rTupleX (K : PySem.W.Frag) : List V → Hp → VK → Prop := fun xs H Q => ∃ p ys, xs = [.ref p] ∧ ((SqL K H p ys ∧ ∀ l, H l = none → Q (.ref l) (upd H l (.tup ys))) ∨ (SqT K H p ys ∧ Q (.ref p) H))
theorem call_tupleX {X : Cx} : CallR X (.type "tuple") (rTupleX X.K) := call_tuple_of
def gTuple (xs : List D) : Option D := match xs with
  | [.lst ds] => some (.tup ds)
  | [.tup ds] => some (.tup ds)
  | _ => none
def fList {S : Type} (fa : Fn S D) : Fn S (List D) := fun env s => match fa env s with
  | some (d, s1) => match items d with
    | some ds => some (ds, s1)
    | none => none
  | none => none
section
variable {S : Type} {R : RC} {Z : SK S} {m : Bool} {ta : TE} {fa : Fn S D}
theorem c_tuple : CallE R (rTupleX R.K) gTuple := by
  intro F H xs vs d Q e r hg q
  unfold gTuple at hg
  split at hg
  · obtain ⟨v, rfl, rv⟩ := r.one
    cases rv with
    | lst h1 r1 =>
      cases hg
      rename_i ws
      refine ⟨_, _, rfl, .inl ⟨SqL.of (e _ _ h1), fun l hl => ?_⟩⟩
      have g : Gr0 F H (upd F l (.tup ws)) (upd H l (.tup ws)) := Gr0.new e hl
      exact q _ _ _ g (.tup upd_same (r1.mono g.ff))
  · obtain ⟨v, rfl, rv⟩ := r.one
    cases rv with
    | tup h1 r1 =>
      cases hg
      exact ⟨_, _, rfl, .inr ⟨sqT_ex e (SqT.of h1), q _ F H (Grow.refl e) (.tup h1 r1)⟩⟩
  · cases hg
/-- a new list from a walk over values: EVl by a reading of that form -/
theorem EVl.new {te : TE} {fl : Fn S (List D)} (h : ∀ σ env F H s ds s' Q, Pre R Z m σ env F H s → fl env s = some (ds, s') →
    (∀ F1 H1 vs, Grow Z.z F H F1 H1 → Z.ok s' H1 → Reps R F1 ds vs → ∀ a, H1 a = none → Q (.ref a) (upd H1 a (.lst vs))) → te σ H Q) : EVl R Z m te fl := by
  intro σ env F H s ds s' Q p e q
  refine h σ env F H s ds s' Q p e fun F1 H1 vs g1 k1 r1 a ha => ?_
  have p1 := p.next g1 k1
  have g2 : Gr0 F1 H1 F1 (upd H1 a (.lst vs)) := Gr0.newH p1.fh ha
  refine q a vs F1 _ (g1.trans g2.up p1.hz) (Z.grow k1 g2) ?_ (Ex.none p1.fh ha) upd_same r1
  by_cases hz : Z.z a
  · exact absurd ha (p1.hz a hz).1
  · cases e : H a with
    | none => rfl
    | some o => rw [g1.hh a o hz e] at ha; cases ha
theorem items_sq {F : Hp} {d : D} {v : V} {ds : List D} (r : Rep R F d v) (h : items d = some ds) : ∃ a vs, v = .ref a ∧ (SqL R.K F a vs ∨ SqT R.K F a vs) ∧ Reps R F ds vs := by
  cases r with
  | tup h1 r1 => cases h; exact ⟨_, _, rfl, .inr (SqT.of h1), r1⟩
  | ktup h1 r1 => cases h; exact ⟨_, _, rfl, .inr h1, r1⟩
  | lst h1 r1 => cases h; exact ⟨_, _, rfl, .inl (SqL.of h1), r1⟩
  | _ => cases h
theorem EVl.list (h : EV R Z m ta fa) : EVl R Z m (tCB (rListX R.K) (tCons ta tNil)) (fList fa) := by
  refine EVl.new fun σ env F H s ds s' Q p e q => ?_
  unfold fList at e
  cases h1 : fa env s with
  | none => rw [h1] at e; cases e
  | some o1 =>
    obtain ⟨x, s1⟩ := o1
    rw [h1] at e
    simp only at e
    cases h3 : items x with
    | none => rw [h3] at e; cases e
    | some ds3 =>
      rw [h3] at e
      cases e
      refine h σ env F H s x _ _ p h1 fun vx F1 H1 g1 k1 r1 => ?_
      obtain ⟨a, vs, rfl, hs, rs⟩ := items_sq r1 h3
      refine ⟨a, vs, rfl, ?_, fun l hl => q F1 H1 vs g1 k1 rs l hl⟩
      rcases hs with hs | hs
      · exact .inl (sqL_ex g1.fh hs)
      · exact .inr (sqT_ex g1.fh hs)
end

/-! ### x[i] -/
def atD (xs : List D) (i : Int) : Option D := match ixD xs.length i with
  | some j => xs[j]?
  | none => none
def gIx (x y : D) : Option D := match x, y with
  | .tup ds, .int i => atD ds i
  | .lst ds, .int i => atD ds i
  | .str z, .int i => if z.length ≤ 100000 then match atI z.cps.toList i with
    | some c => some (.str ⟨#[c]⟩)
    | none => none else none
  | _, _ => none
section
variable {R : RC}
theorem atD_V {F : Hp} {ds : List D} {vs : List V} {i : Int} {d : D} (r : Reps R F ds vs) (h : atD ds i = some d) : ∃ v, atI vs i = some v ∧ Rep R F d v := by
  unfold atD at h
  split at h
  · rename_i j hj
    obtain ⟨v, hv, rv⟩ := r.get h
    refine ⟨v, ?_, rv⟩
    unfold atI
    rw [← r.length, show ixN ds.length i = some j from hj]
    exact hv
  · cases h
theorem e_ix : OpE R (rIx R.K) gIx := by
  intro F H x y vx vy d Q e rx ry hg q
  unfold gIx at hg
  split at hg
  · cases rx with
    | tup h1 r1 =>
      cases ry
      obtain ⟨v, hv, rv⟩ := atD_V r1 hg
      exact .inr (.inl ⟨_, _, _, v, rfl, rfl, sqT_ex e (SqT.of h1), hv, q v F H (Grow.refl e) rv⟩)
  · cases rx with
    | lst h1 r1 =>
      cases ry
      obtain ⟨v, hv, rv⟩ := atD_V r1 hg
      exact .inl ⟨_, _, _, v, rfl, rfl, SqL.of (e _ _ h1), hv, q v F H (Grow.refl e) rv⟩
  · split at hg
    case isFalse => cases hg
    rename_i hl
    split at hg
    case h_2 => cases hg
    rename_i c hc
    cases hg; cases rx; cases ry
    exact .inr (.inr ⟨_, _, c, rfl, rfl, sz5 hl, hc, q _ F H (Grow.refl e) (.str _)⟩)
  · cases hg
end

/-! ### x[a:b] -/
def cutD (xs : List D) (lo hi : Option Int) : List D := (xs.drop (HT.sIx xs.length 0 lo)).take (HT.sIx xs.length xs.length hi - HT.sIx xs.length 0 lo)
def fNoPart {S : Type} : Fn S (Option Int) := fun _ s => some (none, s)
def fPart {S : Type} (fa : Fn S D) : Fn S (Option Int) := fun env s => match fa env s with
  | some (.int i, s1) => some (some i, s1)
  | _ => none
def gSl (x : D) (lo hi : Option Int) : Option D := match x with
  | .tup ds => some (.tup (cutD ds lo hi))
  | .lst ds => some (.lst (cutD ds lo hi))
  | .str z => if z.length ≤ 100000 then some (.str (cutS z lo hi)) else none
  | _ => none
def fSl {S : Type} (fa : Fn S D) (fl fh : Fn S (Option Int)) : Fn S D := fun env s => match fa env s with
  | none => none
  | some (x, s1) => match fl env s1 with
    | none => none
    | some (l, s2) => match fh env s2 with
      | none => none
      | some (u, s3) => match gSl x l u with
        | none => none
        | some d => some (d, s3)
/-- a new list cut out of a list -/
def fSlL {S : Type} (fa : Fn S D) (fl fh : Fn S (Option Int)) : Fn S (List D) := fun env s => match fa env s with
  | some (.lst x, s1) => match fl env s1 with
    | none => none
    | some (l, s2) => match fh env s2 with
      | none => none
      | some (u, s3) => some (cutD x l u, s3)
  | _ => none
def rSlX (K : PySem.W.Frag) : V → Option Int → Option Int → Hp → VK → Prop := fun x lo hi H Q => rSlA K x lo hi H Q ∨ (rSlL K x lo hi H Q ∨ rSlS x lo hi H Q)
theorem sl_X {X : Cx} : SlR X (rSlX X.K) := SlR.or sl_tupA (SlR.or sl_list sl_str)
section
variable {S : Type} {R : RC} {Z : SK S} {m : Bool} {ta : TE} {fa : Fn S D} {tl th : TO} {fl fh : Fn S (Option Int)}
theorem EVo.none : EVo R Z m tNoPart fNoPart := by
  intro σ env F H s o s' Q p e q
  cases e
  exact q F H (Grow.refl p.fh) p.ok
theorem EVo.part (h : EV R Z m ta fa) : EVo R Z m (tPart ta) (fPart fa) := by
  intro σ env F H s o s' Q p e q
  unfold fPart at e
  split at e
  · rename_i i s1 h1
    cases e
    refine h σ env F H s _ _ _ p h1 fun vx F1 H1 g1 k1 r1 => ?_
    cases r1
    exact ⟨i, rfl, q F1 H1 g1 k1⟩
  · cases e
theorem cutD_rep {F : Hp} {ds : List D} {vs : List V} (r : Reps R F ds vs) (lo hi : Option Int) : Reps R F (cutD ds lo hi) (cutV vs lo hi) := by
  unfold cutD cutV
  rw [r.length]
  exact (r.drop _).take _
theorem cut_all {vs : List V} {lo hi : Option Int} (h : HT.sIx vs.length 0 lo = 0 ∧ HT.sIx vs.length vs.length hi = vs.length) : cutV vs lo hi = vs := by
  unfold cutV
  rw [h.1, h.2]
  simp
theorem EV.sl (ha : EV R Z m ta fa) (hl : EVo R Z m tl fl) (hh : EVo R Z m th fh) : EV R Z m (tSl (rSlX R.K) ta tl th) (fSl fa fl fh) := by
  intro σ env F H s d s' Q p e q
  unfold fSl at e
  cases h1 : fa env s with
  | none => rw [h1] at e; cases e
  | some o1 =>
    obtain ⟨x, s1⟩ := o1
    rw [h1] at e
    simp only at e
    cases h2 : fl env s1 with
    | none => rw [h2] at e; cases e
    | some o2 =>
      obtain ⟨l, s2⟩ := o2
      rw [h2] at e
      simp only at e
      cases h3 : fh env s2 with
      | none => rw [h3] at e; cases e
      | some o3 =>
        obtain ⟨u, s3⟩ := o3
        rw [h3] at e
        simp only at e
        cases h4 : gSl x l u with
        | none => rw [h4] at e; cases e
        | some d4 =>
          rw [h4] at e
          cases e
          refine ha σ env F H s x s1 _ p h1 fun vx F1 H1 g1 k1 r1 => ?_
          have p1 := p.next g1 k1
          refine hl σ env F1 H1 s1 l s2 _ p1 h2 fun F2 H2 g2 k2 => ?_
          have p2 := p1.next g2 k2
          refine hh σ env F2 H2 s2 u _ _ p2 h3 fun F3 H3 g3 k3 => ?_
          have p3 := p2.next g3 k3
          have r3 := (r1.mono g2.ff).mono g3.ff
          have g13 := (g1.trans g2 p1.hz).trans g3 p2.hz
          unfold gSl at h4
          split at h4
          · cases h4
            cases r3 with
            | tup hT rs =>
              rename_i a vs
              refine .inl ⟨a, vs, rfl, sqT_ex p3.fh (SqT.of hT), fun z => ?_, fun z b hb => ?_⟩
              · have := cutD_rep rs l u
                rw [cut_all z] at this
                exact q _ F3 H3 g13 k3 (.tup hT this)
              · have g : Gr0 F3 H3 (upd F3 b (.tup (cutV vs l u))) (upd H3 b (.tup (cutV vs l u))) := Gr0.new p3.fh hb
                exact q _ _ _ (g13.trans g.up p3.hz) (Z.grow k3 g) (.tup upd_same ((cutD_rep rs l u).mono g.ff))
          · cases h4
            cases r3 with
            | lst hT rs =>
              rename_i a vs
              refine .inr (.inl ⟨a, vs, rfl, SqL.of (p3.fh _ _ hT), fun b hb => ?_⟩)
              have g : Gr0 F3 H3 (upd F3 b (.lst (cutV vs l u))) (upd H3 b (.lst (cutV vs l u))) := Gr0.new p3.fh hb
              exact q _ _ _ (g13.trans g.up p3.hz) (Z.grow k3 g) (.lst upd_same ((cutD_rep rs l u).mono g.ff))
          · split at h4
            case isFalse => cases h4
            rename_i hz
            cases h4
            cases r3
            exact .inr (.inr ⟨_, rfl, sz5 hz, q _ F3 H3 g13 k3 (.str _)⟩)
          · cases h4
theorem EVl.sl (ha : EV R Z m ta fa) (hl : EVo R Z m tl fl) (hh : EVo R Z m th fh) : EVl R Z m (tSl (rSlX R.K) ta tl th) (fSlL fa fl fh) := by
  refine EVl.new fun σ env F H s ds s' Q p e q => ?_
  unfold fSlL at e
  split at e
  case h_2 => cases e
  rename_i x s1 h1
  split at e
  case h_1 => cases e
  rename_i l s2 h2
  split at e
  case h_1 => cases e
  rename_i u s3 h3
  cases e
  refine ha σ env F H s _ s1 _ p h1 fun vx F1 H1 g1 k1 r1 => ?_
  have p1 := p.next g1 k1
  refine hl σ env F1 H1 s1 l s2 _ p1 h2 fun F2 H2 g2 k2 => ?_
  have p2 := p1.next g2 k2
  refine hh σ env F2 H2 s2 u _ _ p2 h3 fun F3 H3 g3 k3 => ?_
  have p3 := p2.next g3 k3
  have r3 := (r1.mono g2.ff).mono g3.ff
  cases r3 with
  | lst hT rs => exact .inr (.inl ⟨_, _, rfl, SqL.of (p3.fh _ _ hT), fun b hb => q F3 H3 _ ((g1.trans g2 p1.hz).trans g3 p2.hz) k3 (cutD_rep rs l u) b hb⟩)
end

/-! ### o.f -/
def gFld (c k : Nat) (x : D) : Option D := match x with
  | .ins c' ds => if c' = c then ds[k]? else none
  | _ => none
section
variable {S : Type} {R : RC} {Z : SK S} {m : Bool} {ta : TE} {fa : Fn S D}
theorem zip_lookup {f : Str} : ∀ {fs : List Str} {vs : List V} {k : Nat} {v : V}, fs.Nodup → fs[k]? = some f → vs[k]? = some v → (fs.zip vs).lookup f = some v
  | [], _, _, _, _, h, _ => by simp at h
  | _ :: _, [], _, _, _, _, h => by simp at h
  | g :: fs, w :: vs, 0, v, _, h1, h2 => by
    simp at h1 h2
    subst h1 h2
    simp [List.lookup]
  | g :: fs, w :: vs, k + 1, v, hn, h1, h2 => by
    have hn' := List.nodup_cons.mp hn
    have h1' : fs[k]? = some f := by simpa using h1
    have ne : (f == g) = false := by
      rw [beq_eq_false_iff_ne]
      intro e
      subst e
      exact hn'.1 (List.mem_of_getElem? h1')
    simp only [List.zip_cons_cons, List.lookup_cons, ne]
    exact zip_lookup hn'.2 h1' (by simpa using h2)
theorem lookup_app {f : Str} {v : V} {r : List (Str × V)} : ∀ {s : List (Str × V)}, s.lookup f = some v → (s ++ r).lookup f = some v
  | [], h => by cases h
  | (g, w) :: s, h => by
    rw [List.cons_append, List.lookup_cons]
    rw [List.lookup_cons] at h
    cases e : f == g with
    | true => rw [e] at h; exact h
    | false => rw [e] at h; exact lookup_app h
theorem lookup_rest {f g : Str} (h : f ≠ g) : ∀ {r : List (Str × V)}, (∀ x ∈ r, x.1 = g) → r.lookup f = none
  | [], _ => rfl
  | (a, w) :: r, hr => by
    have e : (f == a) = false := by
      rw [beq_eq_false_iff_ne]
      intro z
      exact h (z.trans (hr (a, w) (List.mem_cons_self ..)))
    rw [List.lookup_cons, e]
    exact lookup_rest h fun x hx => hr x (List.mem_cons_of_mem _ hx)
theorem lookup_appN {f : Str} {r : List (Str × V)} (h2 : r.lookup f = none) : ∀ {s : List (Str × V)}, s.lookup f = none → (s ++ r).lookup f = none
  | [], h => h2
  | (g, w) :: s, h => by
    rw [List.cons_append, List.lookup_cons]
    rw [List.lookup_cons] at h
    cases e : f == g with
    | true => rw [e] at h; cases h
    | false => rw [e] at h; exact lookup_appN h2 h
theorem EV.fld {c k : Nat} {f : Str} (h : EV R Z m ta fa) (cl : Cls R.K (R.cl c)) (na : NoAttr R.K (R.cl c) f) (hf : (R.nm c)[k]? = some f) (hn : (R.nm c).Nodup) : EV R Z m (tFld R.K ta f) (fUn (gFld c k) fa) := by
  intro σ env F H s d s' Q p e q
  unfold fUn at e
  cases h1 : fa env s with
  | none => rw [h1] at e; cases e
  | some o1 =>
    obtain ⟨x, s1⟩ := o1
    rw [h1] at e
    simp only at e
    cases h3 : gFld c k x with
    | none => rw [h3] at e; cases e
    | some d3 =>
      rw [h3] at e
      cases e
      refine h σ env F H s x _ _ p h1 fun vx F1 H1 g1 k1 r1 => ?_
      unfold gFld at h3
      split at h3
      · split at h3
        case isFalse => cases h3
        rename_i hc
        subst hc
        cases r1 with
        | ins hF hr hl rs =>
          obtain ⟨v, hv, rv⟩ := rs.get h3
          exact ⟨_, _, _, _, v, rfl, g1.fh _ _ hF, cl, na, lookup_app (zip_lookup hn hf hv), q v F1 H1 g1 k1 rv⟩
      · cases h3
end

/-! ### calls of defs -/
def spP (R : RC) (n : Nat) (g : List D → Option D) : Sp := fun vs H Q _ => ∃ F ds d, ds.length = n ∧ Ex F H ∧ Reps R F ds vs ∧ g ds = some d ∧ ∀ v F' H', Gr0 F H F' H' → Rep R F' d v → Q v H'
def spS {S : Type} (R : RC) (Z : SK S) (n : Nat) (g : List D → S → Option (D × S)) : Sp := fun vs H Q _ => ∃ F ds s d s', ds.length = n ∧ Ex F H ∧ (∀ a, Z.z a → F a = none) ∧ Z.ok s H ∧ Reps R F ds vs ∧ g ds s = some (d, s') ∧
  ∀ v F' H', Grow Z.z F H F' H' → Z.ok s' H' → Rep R F' d v → Q v H'
section
variable {S : Type} {R : RC} {Z : SK S} {m : Bool} {ta : TE} {fa : Fn S D} {tr : TA} {fr : Fn S (List D)}
/-- the number of arguments is looked at too -/
def lenG (n : Nat) (g : List D → Option D) : List D → Option D := fun ds => if ds.length = n then g ds else none
theorem EV.call {n : Nat} {g : List D → Option D} (h : EVa R Z m tr fr) : EV R Z m (tCall (spP R n g) [] E0 tr) (fCall (lenG n g) fr) := by
  intro σ env F H s d s' Q p e q
  unfold fCall lenG at e
  cases h1 : fr env s with
  | none => rw [h1] at e; cases e
  | some o1 =>
    obtain ⟨xs, s1⟩ := o1
    rw [h1] at e
    simp only at e
    split at e
    case h_1 => cases e
    rename_i d3 h3
    split at h3
    case isFalse => cases h3
    rename_i hn
    cases e
    refine h σ env F H s xs _ _ p h1 fun vs F1 H1 g1 k1 r1 => ?_
    have p1 := p.next g1 k1
    refine ⟨F1, xs, _, hn, p1.fh, by rw [List.append_nil]; exact r1, h3, fun v F3 H3 g3 r3 => ?_⟩
    exact q v F3 H3 (g1.trans g3.up p1.hz) (Z.grow k1 g3) r3
def lenGS {S : Type} (n : Nat) (g : List D → S → Option (D × S)) : List D → S → Option (D × S) := fun ds s => if ds.length = n then g ds s else none
theorem EV.callS {n : Nat} {g : List D → S → Option (D × S)} (h : EVa R Z m tr fr) : EV R Z m (tCall (spS R Z n g) [] E0 tr) (fCallS (lenGS n g) fr) := by
  intro σ env F H s d s' Q p e q
  unfold fCallS lenGS at e
  cases h1 : fr env s with
  | none => rw [h1] at e; cases e
  | some o1 =>
    obtain ⟨xs, s1⟩ := o1
    rw [h1] at e
    simp only at e
    split at e
    case isFalse => cases e
    rename_i hn
    refine h σ env F H s xs _ _ p h1 fun vs F1 H1 g1 k1 r1 => ?_
    have p1 := p.next g1 k1
    refine ⟨F1, xs, s1, d, s', hn, p1.fh, p1.zf, k1, by rw [List.append_nil]; exact r1, e, fun v F3 H3 g3 k3 r3 => ?_⟩
    exact q v F3 H3 (g1.trans g3 p1.hz) k3 r3
/-- o.m(..) -/
def fMeth {S : Type} (c n : Nat) (g : List D → Option D) (fa : Fn S D) (fr : Fn S (List D)) : Fn S D := fun env s => match fa env s with
  | some (.ins c' ds, s1) => if c' = c then match fr env s1 with
    | some (xs, s2) => match lenG n g (.ins c' ds :: xs) with
      | some d => some (d, s2)
      | none => none
    | none => none else none
  | _ => none
theorem zip_none {f : Str} : ∀ {fs : List Str} {vs : List V}, f ∉ fs → (fs.zip vs).lookup f = none
  | [], _, _ => by simp
  | _ :: _, [], _ => by simp
  | g :: fs, w :: vs, h => by
    rw [List.mem_cons, not_or] at h
    have ne : (f == g) = false := by rw [beq_eq_false_iff_ne]; exact h.1
    simp only [List.zip_cons_cons, List.lookup_cons, ne]
    exact zip_none h.2
theorem EV.meth {c n : Nat} {mm : Str} {g : List D → Option D} (ha : EV R Z m ta fa) (h : EVa R Z m tr fr) (hm : mm ∉ nSums :: R.nm c) : EV R Z m (tMeth (R.cl c) mm (spP R n g) [] E0 ta tr) (fMeth c n g fa fr) := by
  intro σ env F H s d s' Q p e q
  unfold fMeth lenG at e
  split at e
  case h_2 => cases e
  rename_i c' ds s1 h1
  split at e
  case isFalse => cases e
  rename_i hc
  subst hc
  split at e
  case h_2 => cases e
  rename_i xs s2 h2
  split at e
  case h_2 => cases e
  rename_i d3 h3
  split at h3
  case isFalse => cases h3
  rename_i hn
  cases e
  refine ha σ env F H s _ s1 _ p h1 fun vx F1 H1 g1 k1 r1 => ?_
  have p1 := p.next g1 k1
  have r1' := r1
  cases r1 with
  | ins hF hr hl rs =>
    refine ⟨_, _, _, rfl, p1.fh _ _ hF, lookup_appN (lookup_rest (fun z => hm (by rw [z]; exact List.mem_cons_self ..)) hr) (zip_none fun z => hm (List.mem_cons_of_mem _ z)), ?_⟩
    refine h σ env F1 H1 s1 xs _ _ p1 h2 fun vs F2 H2 g2 k2 r2 => ?_
    have p2 := p1.next g2 k2
    refine ⟨F2, _, _, hn, p2.fh, by rw [List.append_nil]; exact .cons (r1'.mono g2.ff) r2, h3, fun v F3 H3 g3 r3 => ?_⟩
    exact q v F3 H3 ((g1.trans g2 p1.hz).trans g3.up p2.hz) (Z.grow k2 g3) r3
end

/-! ### what is walked -/
def fItems {S : Type} (fa : Fn S D) : Fn S (List D) := fList fa
def iSeq (K : PySem.W.Frag) (tl : TE) : TI := fun σ H R => tl σ H fun x H1 => ∃ a, x = .ref a ∧ (((∃ xs, SqL K H1 a xs) ∧ R (Itl K a) H1) ∨ ((∃ xs, SqT K H1 a xs) ∧ R (Itt K a) H1))
theorem pi_seq {X : Cx} {tg l : Expr} {tl : TE} (hl : PE X l tl) : PI X tg l (iSeq X.K tl) := by
  refine ⟨fun pins s σ H R I h => ?_⟩
  refine thn (hl.run pins s σ H _ I h) fun v s1 ⟨x, H1, I1, r1, q1⟩ => ?_
  obtain ⟨a, e, q⟩ := q1
  subst e
  cases r1
  have hp : ∀ b, b ∈ [s1.heap.objs.size] → FpOk X pins H1 b := fun b hb => by
    have e : b = s1.heap.objs.size := by simpa using hb
    subst e
    exact I1.fpOk (Nat.le_refl _) (I1.hok.fresh (Nat.le_refl _))
  rcases q with ⟨⟨xs, hq⟩, q⟩ | ⟨⟨xs, hq⟩, q⟩
  · obtain ⟨its, rv, p, hz⟩ := I1.list hq
    refine wpAny_pyIter_list p.isList ?_
    exact ⟨s1.heap.objs.size, [s1.heap.objs.size], _, _, H1, rfl, I1.kept (t' := s1.toks) fun b o e => Heap.get?_push_of_some _ e, turn_list a _, ⟨_, Heap.get?_push_size _ rfl, rfl, rfl⟩, hp, q⟩
  · obtain ⟨its, rv, p, hz⟩ := I1.tuple hq
    refine wpAny_pyIter_tuple (show s1.heap.IsTuple a its.toArray from p) ?_
    exact ⟨s1.heap.objs.size, [s1.heap.objs.size], _, _, H1, rfl, I1.kept (t' := s1.toks) fun b o e => Heap.get?_push_of_some _ e, turn_tuple a _, ⟨_, Heap.get?_push_size _ rfl, rfl, rfl⟩, hp, q⟩
section
variable {S : Type} {R : RC} {Z : SK S} {m : Bool} {ta : TE} {fa : Fn S D} {tr : TA} {fr : Fn S (List D)}
theorem EVi.seq (h : EV R Z m ta fa) : EVi R Z m (iSeq R.K ta) (fList fa) := by
  intro σ env F H s ds s' K p e q
  unfold fList at e
  cases h1 : fa env s with
  | none => rw [h1] at e; cases e
  | some o1 =>
    obtain ⟨x, s1⟩ := o1
    rw [h1] at e
    simp only at e
    cases h3 : items x with
    | none => rw [h3] at e; cases e
    | some ds3 =>
      rw [h3] at e
      cases e
      refine h σ env F H s x _ _ p h1 fun vx F1 H1 g1 k1 r1 => ?_
      obtain ⟨a, vs, rfl, hs, rs⟩ := items_sq r1 h3
      refine ⟨a, rfl, ?_⟩
      rcases hs with hs | hs
      · exact .inl ⟨⟨vs, sqL_ex g1.fh hs⟩, q _ F1 H1 g1 k1 (ItE.list hs rs)⟩
      · exact .inr ⟨⟨vs, sqT_ex g1.fh hs⟩, q _ F1 H1 g1 k1 (ItE.tup hs rs)⟩
def okI (i : Int) : Bool := decide (-4611686018427387904 ≤ i) && decide (i < 4611686018427387904)
theorem okI_of {i : Int} (h : okI i = true) : -(2 ^ 62) ≤ i ∧ i < 2 ^ 62 := by
  simp only [okI, Bool.and_eq_true, decide_eq_true_eq] at h
  omega
def fRng {S : Type} (fr : Fn S (List D)) : Fn S (List D) := fun env s => match fr env s with
  | some ([.int j], s1) => if okI j then some (rangeD 0 j.toNat, s1) else none
  | some ([.int i, .int j], s1) => if okI i && okI j then some (rangeD i (j - i).toNat, s1) else none
  | _ => none
theorem EVi.rng1 (h : EVa R Z m tr fr) : EVi R Z m (iRng1 tr) (fun env s => match fr env s with | some ([.int j], s1) => if okI j then some (rangeD 0 j.toNat, s1) else none | _ => none) := by
  intro σ env F H s ds s' K p e q
  simp only at e
  split at e
  · rename_i j s1 h1
    split at e
    case isFalse => cases e
    rename_i hk
    cases e
    refine h σ env F H s _ _ _ p h1 fun vs F1 H1 g1 k1 r1 => ?_
    obtain ⟨v, rfl, rv⟩ := r1.one
    cases rv
    have := okI_of hk
    exact ⟨j, rfl, this.1, this.2, q _ F1 H1 g1 k1 (ItE.range 0 _)⟩
  · cases e
theorem EVi.rng2 (h : EVa R Z m tr fr) : EVi R Z m (iRng2 tr) (fun env s => match fr env s with | some ([.int i, .int j], s1) => if okI i && okI j then some (rangeD i (j - i).toNat, s1) else none | _ => none) := by
  intro σ env F H s ds s' K p e q
  simp only at e
  split at e
  · rename_i i j s1 h1
    split at e
    case isFalse => cases e
    rename_i hk
    rw [Bool.and_eq_true] at hk
    cases e
    refine h σ env F H s _ _ _ p h1 fun vs F1 H1 g1 k1 r1 => ?_
    obtain ⟨v, w, rfl, rv, rw_⟩ := r1.two
    cases rv
    cases rw_
    have h1 := okI_of hk.1
    have h2 := okI_of hk.2
    exact ⟨i, j, rfl, ⟨h1.1, h1.2, h2.1, h2.2⟩, q _ F1 H1 g1 k1 (ItE.range i _)⟩
  · cases e
theorem EVi.rev (h : EV R Z m ta fa) : EVi R Z m (RT.iRevA R.K ta) (fun env s => match fList fa env s with | some (ds, s1) => some (ds.reverse, s1) | none => none) := by
  intro σ env F H s ds s' K p e q
  simp only [fList] at e
  cases h1 : fa env s with
  | none => rw [h1] at e; cases e
  | some o1 =>
    obtain ⟨x, s1⟩ := o1
    rw [h1] at e
    simp only at e
    cases h3 : items x with
    | none => rw [h3] at e; cases e
    | some ds3 =>
      rw [h3] at e
      cases e
      refine h σ env F H s x _ _ p h1 fun vx F1 H1 g1 k1 r1 => ?_
      obtain ⟨a, vs, rfl, hs, rs⟩ := items_sq r1 h3
      refine ⟨a, vs, rfl, ?_⟩
      rcases hs with hs | hs
      · exact .inl ⟨sqL_ex g1.fh hs, q _ F1 H1 g1 k1 (ItE.rev hs rs)⟩
      · exact .inr ⟨sqT_ex g1.fh hs, q _ F1 H1 g1 k1 (ItE.revT hs rs)⟩
def fZip {S : Type} (fr : Fn S (List D)) : Fn S (List D) := fun env s => match fr env s with
  | some ([.tup xs, .tup ys], s1) => some (zipD xs ys, s1)
  | some ([.lst xs, .lst ys], s1) => some (zipD xs ys, s1)
  | _ => none
theorem EVi.zip (h : EVa R Z m tr fr) : EVi R Z m (RZ.iZipA R.K tr) (fZip fr) := by
  intro σ env F H s ds s' K p e q
  unfold fZip at e
  split at e
  · rename_i xs ys s1 h1
    cases e
    refine h σ env F H s _ _ _ p h1 fun vs F1 H1 g1 k1 r1 => ?_
    obtain ⟨v, w, rfl, rv, rw_⟩ := r1.two
    cases rv with
    | tup ha ra => cases rw_ with
      | tup hb rb => exact ⟨_, _, _, _, rfl, .inr ⟨sqT_ex g1.fh (SqT.of ha), sqT_ex g1.fh (SqT.of hb), q _ F1 H1 g1 k1 (ItE.zipT (SqT.of ha) ra (SqT.of hb) rb)⟩⟩
  · rename_i xs ys s1 h1
    cases e
    refine h σ env F H s _ _ _ p h1 fun vs F1 H1 g1 k1 r1 => ?_
    obtain ⟨v, w, rfl, rv, rw_⟩ := r1.two
    cases rv with
    | lst ha ra => cases rw_ with
      | lst hb rb => exact ⟨_, _, _, _, rfl, .inl ⟨SqL.of (g1.fh _ _ ha), SqL.of (g1.fh _ _ hb), q _ F1 H1 g1 k1 (ItE.zip (SqL.of ha) ra (SqL.of hb) rb)⟩⟩
  · cases e
def fEnum {S : Type} (fr : Fn S (List D)) : Fn S (List D) := fun env s => match fr env s with
  | some ([.lst xs], s1) => some (enumD 0 xs, s1)
  | _ => none
theorem EVi.enum (h : EVa R Z m tr fr) : EVi R Z m (iEnum R.K tr) (fEnum fr) := by
  intro σ env F H s ds s' K p e q
  unfold fEnum at e
  split at e
  · rename_i xs s1 h1
    cases e
    refine h σ env F H s _ _ _ p h1 fun vs F1 H1 g1 k1 r1 => ?_
    obtain ⟨v, rfl, rv⟩ := r1.one
    cases rv with
    | lst ha ra => exact ⟨_, _, rfl, SqL.of (g1.fh _ _ ha), q _ F1 H1 g1 k1 (ItE.enum (SqL.of ha) ra)⟩
  · cases e
end
end SL
/-! Sem7: one rule for each construct: the walk and what it computes at once. -/
namespace SL
open PySem L2
open Evl (Ex)

/-- where a text stands -/
structure CT where
  P : Program
  w : World
  R : RC
  mg : Str → Option Value
  base : Heap
  N : List Str
  sc : Scope
  fn : Str → Bool
  k : Nat
structure Is (T : CT) (X : Cx) : Prop where
  prog : X.prog = T.P
  w : X.w = T.w
  K : X.K = T.R.K
  mg : X.mg = T.mg
  base : X.base = T.base
  N : X.N = T.N
  sc : X.env.scope = T.sc
  fn : ∀ x, T.fn x = true → X.fn x = true
  calm : X.calm = true
  room : Room T.k X.A
  nd : X.N.Nodup
  own : PassesOwn (model X.prog X.w) X.A X.env X.xe
def rl (scope osc : Scope) : Scope := relabel scope { scope := osc, locals := 0, globals := 0, cells := [] , qual := Str.ofString "", code := .none, frame := none, builtins := 0 }
theorem rl_eq (scope : Scope) (env : PySem.Env) : relabel scope env = rl scope env.scope := rfl
/-- the block of a comprehension -/
def CT.blk (T : CT) (scope : Scope) : CT := { T with sc := rl scope T.sc, fn := fun x => List.lookup x scope.names == some NameKind.cell }
theorem Is.blk {T : CT} {X : Cx} (h : Is T X) (scope : Scope) (s : Shared) (H : Hp) (C : Addr) (cl : List (Str × Addr)) (fp : List Addr) : Is (T.blk scope) (X.blk s H scope (compEnvC scope cl C X.env) fp) where
  prog := h.prog
  w := h.w
  K := h.K
  mg := h.mg
  base := h.base
  N := h.N
  sc := by
    show relabel scope X.env = rl scope T.sc
    rw [rl_eq, h.sc]
  fn := fun x e => e
  calm := h.calm
  room := h.room
  nd := h.nd
  own := PassesOwn.never
theorem Is.hu {T : CT} {X : Cx} (h : Is T X) : X.A.units + 64 < cLine := by
  have := h.room.un
  omega

section
variable {S : Type} (T : CT) (Z : SK S) (m : Bool)
def SE (e : Expr) (f : Fn S D) : Prop := ∃ t, (∀ X, Is T X → PE X e t) ∧ EV T.R Z m t f
def SQ (e : Expr) (f : Fn S Bool) : Prop := ∃ t, (∀ X, Is T X → PT X e t) ∧ EVt T.R Z m t f
def SA (es : List Expr) (f : Fn S (List D)) : Prop := ∃ t, (∀ X, Is T X → PA X es t) ∧ EVa T.R Z m t f
def SN (e : Expr) (f : Fn S (List D)) : Prop := ∃ t, (∀ X, Is T X → PE X e t) ∧ EVl T.R Z m t f
def SO (e : Option Expr) (f : Fn S (Option Int)) : Prop := ∃ t, (∀ X, Is T X → PO X e t) ∧ EVo T.R Z m t f
def SW (tg e : Expr) (f : Fn S (List D)) : Prop := ∃ t, (∀ X, Is T X → PI X tg e t) ∧ EVi T.R Z m t f
def SQs (es : List Expr) (f : Fn S Bool) : Prop := ∃ t, (∀ X, Is T X → PTs X es t) ∧ EVt T.R Z m t f
end
section
variable (T : CT)
def SG (ws : List Nat) (e : Expr) (b : Bd) : Prop := ∃ t, (∀ X, Is T X → PG X e t) ∧ EVg T.R ws t b
def SGs (ws : List Nat) (es : List Expr) (b : Env → List D → Option Env) : Prop := ∃ t, (∀ X, Is T X → PGs X es t) ∧ EVgs T.R ws t b
end
section
variable {S : Type} (T : CT) (Z : SK S)
def XE (e : Expr) (f : Fn S D) : Prop := ∃ t, (∀ X, Is T X → PE X e t) ∧ ES T.R Z t f
def XQ (e : Expr) (f : Fn S Bool) : Prop := ∃ t, (∀ X, Is T X → PT X e t) ∧ ESt T.R Z t f
def XN (e : Expr) (f : Fn S (List D)) : Prop := ∃ t, (∀ X, Is T X → PE X e t) ∧ ESl T.R Z t f
def XW (tg e : Expr) (f : Fn S (List D)) : Prop := ∃ t, (∀ X, Is T X → PI X tg e t) ∧ ESi T.R Z t f
def SS (st : Stmt) (f : Stm S) : Prop := ∃ t, (∀ X, Is T X → PS X st t) ∧ ST T.R Z t f
def SB (sts : List Stmt) (f : Stm S) : Prop := ∃ t, (∀ X, Is T X → PSs X sts t) ∧ ST T.R Z t f
end

section
variable {S : Type} {T : CT} {Z : SK S} {m : Bool} {a b c e o : Expr} {es : List Expr} {fa fb fc fe fo : Fn S D} {fr : Fn S (List D)} {ft fu : Fn S Bool} {pos p apos cpos pos' : Pos} {tg : Expr}
theorem SE.var (i : Nat) {x : Str} (hx : T.N[i]? = some x := by rfl) (hv : Vis T.sc x := by first | exact .inl rfl | exact .inr (.inl rfl) | exact .inr (.inr rfl)) (h1 : (x == Str.ofString "__debug__") = false := by rfl) (h2 : (x == Str.ofString "__classdict__") = false := by rfl) : SE T Z m (.Name x pos) (fVar i) :=
  ⟨_, fun X h => pv i (by rw [h.N]; exact hx) (by rw [h.sc]; exact hv) h1 h2, EV.var⟩
theorem SE.varB (i : Nat) {x : Str} (hx : T.N[i]? = some x := by rfl) (hv : Vis T.sc x := by first | exact .inl rfl | exact .inr (.inl rfl) | exact .inr (.inr rfl)) (h1 : (x == Str.ofString "__debug__") = false := by rfl) (h2 : (x == Str.ofString "__classdict__") = false := by rfl) : SE T Z true (.Name x pos) (fVarB i) :=
  ⟨_, fun X h => pv i (by rw [h.N]; exact hx) (by rw [h.sc]; exact hv) h1 h2, EV.varB⟩
theorem SE.int {i : Int} {j : Nat} : SE T Z m (.Constant (.int i) j pos) (fC (.int i)) := ⟨_, fun X h => pe_int, EV.c fun F => .int i⟩
theorem SE.bl {i : Bool} {j : Nat} : SE T Z m (.Constant (.bool i) j pos) (fC (.bl i)) := ⟨_, fun X h => pe_bl, EV.c fun F => .bl i⟩
theorem SE.str {i : Str} {j : Nat} : SE T Z m (.Constant (.str i) j pos) (fC (.str i)) := ⟨_, fun X h => pe_str, EV.c fun F => .str i⟩
theorem SE.non {j : Nat} : SE T Z m (.Constant .none j pos) (fC .non) := ⟨_, fun X h => pe_non, EV.c fun F => .non⟩
theorem SE.op {op : Operator} {r : R2} {g : D → D → Option D} (h1 : ∀ X, Is T X → OpR X (binaryOp op) r) (h2 : OpE T.R r g) (ha : SE T Z m a fa) (hb : SE T Z m b fb) : SE T Z m (.BinOp a op b pos) (fOp g fa fb) := by
  obtain ⟨ta, pa, ea⟩ := ha
  obtain ⟨tb, pb, eb⟩ := hb
  exact ⟨_, fun X h => pe_op (h1 X h) (pa X h) (pb X h), EV.op ea eb h2⟩
theorem SE.add (ha : SE T Z m a fa) (hb : SE T Z m b fb) : SE T Z m (.BinOp a .Add b pos) (fOp gAdd fa fb) := SE.op (r := rAddX T.R.K) (fun X h => by rw [← h.K]; exact op_addX) e_add ha hb
theorem SE.sub (ha : SE T Z m a fa) (hb : SE T Z m b fb) : SE T Z m (.BinOp a .Sub b pos) (fOp gSub fa fb) := SE.op (fun X h => op_sub) e_sub ha hb
theorem SE.mul (ha : SE T Z m a fa) (hb : SE T Z m b fb) : SE T Z m (.BinOp a .Mult b pos) (fOp gMul fa fb) := SE.op (fun X h => op_mul) e_mul ha hb
theorem SE.div (ha : SE T Z m a fa) (hb : SE T Z m b fb) : SE T Z m (.BinOp a .FloorDiv b pos) (fOp gDiv fa fb) := SE.op (fun X h => op_fdiv) e_div ha hb
theorem SE.mod (ha : SE T Z m a fa) (hb : SE T Z m b fb) : SE T Z m (.BinOp a .Mod b pos) (fOp gMod fa fb) := SE.op (fun X h => op_mod) e_mod ha hb
theorem SE.neg (ha : SE T Z m a fa) : SE T Z m (.UnaryOp .USub a pos) (fUn gNeg fa) := by
  obtain ⟨ta, pa, ea⟩ := ha
  exact ⟨_, fun X h => pe_un un_neg (pa X h), EV.un ea u_neg⟩
theorem SE.cmp {op : CmpOp} {r : R2} {g : D → D → Option D} (h1 : ∀ X, Is T X → OpR X (compareOp op) r) (h2 : OpE T.R r g) (ha : SE T Z m a fa) (hb : SE T Z m b fb) (hm : behindInMarks op b = false) : SE T Z m (.Compare a [op] [b] pos) (fOp g fa fb) := by
  obtain ⟨ta, pa, ea⟩ := ha
  obtain ⟨tb, pb, eb⟩ := hb
  exact ⟨_, fun X h => pe_cmpR (h1 X h) (pa X h) (pb X h) hm, EV.op ea eb h2⟩
theorem SE.eq (ha : SE T Z m a fa) (hb : SE T Z m b fb) (hm : behindInMarks .Eq b = false := by rfl) : SE T Z m (.Compare a [.Eq] [b] pos) (fOp gEq fa fb) := SE.cmp (r := rEqX T.R.K) (fun X h => by rw [← h.K]; exact op_eqX h.hu) e_eq ha hb hm
theorem SE.ne (ha : SE T Z m a fa) (hb : SE T Z m b fb) (hm : behindInMarks .NotEq b = false := by rfl) : SE T Z m (.Compare a [.NotEq] [b] pos) (fOp gNe fa fb) := SE.cmp (r := rNeX T.R.K) (fun X h => by rw [← h.K]; exact op_neX h.hu) e_ne ha hb hm
theorem SE.lt (ha : SE T Z m a fa) (hb : SE T Z m b fb) (hm : behindInMarks .Lt b = false := by rfl) : SE T Z m (.Compare a [.Lt] [b] pos) (fOp gLt fa fb) := SE.cmp (r := rLtX T.R.K) (fun X h => by rw [← h.K]; exact op_ltX h.hu) e_lt ha hb hm
theorem SE.gt (ha : SE T Z m a fa) (hb : SE T Z m b fb) (hm : behindInMarks .Gt b = false := by rfl) : SE T Z m (.Compare a [.Gt] [b] pos) (fOp gGt fa fb) := SE.cmp (r := rGtX T.R.K) (fun X h => by rw [← h.K]; exact op_gtX h.hu) e_gt ha hb hm
theorem SE.le (ha : SE T Z m a fa) (hb : SE T Z m b fb) (hm : behindInMarks .LtE b = false := by rfl) : SE T Z m (.Compare a [.LtE] [b] pos) (fOp gLe fa fb) := SE.cmp (r := rLeX T.R.K) (fun X h => by rw [← h.K]; exact op_leX h.hu) e_le ha hb hm
theorem SE.ge (ha : SE T Z m a fa) (hb : SE T Z m b fb) (hm : behindInMarks .GtE b = false := by rfl) : SE T Z m (.Compare a [.GtE] [b] pos) (fOp gGe fa fb) := SE.cmp (r := rGeX T.R.K) (fun X h => by rw [← h.K]; exact op_geX h.hu) e_ge ha hb hm
theorem SE.in_ (ha : SE T Z m a fa) (hb : SE T Z m b fb) (hm : behindInMarks .In b = false := by rfl) : SE T Z m (.Compare a [.In] [b] pos) (fOp gIn fa fb) := SE.cmp (r := rInX T.R.K false) (fun X h => by rw [← h.K]; exact op_inX h.hu) e_in ha hb hm
theorem SE.notIn (ha : SE T Z m a fa) (hb : SE T Z m b fb) (hm : behindInMarks .NotIn b = false := by rfl) : SE T Z m (.Compare a [.NotIn] [b] pos) (fOp gNotIn fa fb) := SE.cmp (r := rInX T.R.K true) (fun X h => by rw [← h.K]; exact op_notInX h.hu) e_notIn ha hb hm
theorem SE.isN {j : Nat} (ha : SE T Z m a fa) (hm : behindInMarks .Is (.Constant .none j pos') = false := by rfl) : SE T Z m (.Compare a [.Is] [.Constant .none j pos'] pos) (fUn gIsN fa) := by
  obtain ⟨ta, pa, ea⟩ := ha
  exact ⟨_, fun X h => pe_cmp (pc_isN (pa X h)) hm, EV.isN ea⟩
theorem SE.notN {j : Nat} (ha : SE T Z m a fa) (hm : behindInMarks .IsNot (.Constant .none j pos') = false := by rfl) : SE T Z m (.Compare a [.IsNot] [.Constant .none j pos'] pos) (fUn gIsNotN fa) := by
  obtain ⟨ta, pa, ea⟩ := ha
  exact ⟨_, fun X h => pe_cmp (pc_notN (pa X h)) hm, EV.notN ea⟩
/-! chains of two -/
def fChain (g h : D → D → Option D) (fa fb fc : Fn S D) : Fn S D := fun env s => match fa env s with
  | none => none
  | some (x, s1) => match fb env s1 with
    | none => none
    | some (y, s2) => match g x y with
      | some (.bl true) => match fc env s2 with
        | none => none
        | some (z, s3) => match h y z with
          | some d => some (d, s3)
          | none => none
      | some (.bl false) => some (.bl false, s2)
      | _ => none
theorem EV.chain {ta tb tc : TE} {r r' : R2} {R : RC} {g g' : D → D → Option D} (ha : EV R Z m ta fa) (hb : EV R Z m tb fb) (hc : EV R Z m tc fc) (hr : OpE R r g) (hr' : OpE R r' g') : EV R Z m (tChain r r' ta tb tc) (fChain g g' fa fb fc) := by
  intro σ env F H s d s' Q p e q
  unfold fChain at e
  cases h1 : fa env s with
  | none => rw [h1] at e; cases e
  | some o1 =>
    obtain ⟨x, s1⟩ := o1
    rw [h1] at e
    cases h2 : fb env s1 with
    | none => simp only [h2] at e; cases e
    | some o2 =>
      obtain ⟨y, s2⟩ := o2
      simp only [h2] at e
      refine ha σ env F H s x s1 _ p h1 fun vx F1 H1 g1 k1 r1 => ?_
      have p1 := p.next g1 k1
      refine hb σ env F1 H1 s1 y s2 _ p1 h2 fun vy F2 H2 g2 k2 r2 => ?_
      have p2 := p1.next g2 k2
      split at e
      · rename_i h3
        refine hr F2 H2 x y vx vy _ _ p2.fh (r1.mono g2.ff) r2 h3 fun v F3 H3 g3 r3 => ?_
        have p3 := p2.next0 g3
        cases r3
        refine ⟨true, rfl, ?_⟩
        rw [if_pos rfl]
        cases h4 : fc env s2 with
        | none => simp only [h4] at e; cases e
        | some o4 =>
          obtain ⟨z, s3⟩ := o4
          simp only [h4] at e
          cases h5 : g' y z with
          | none => simp only [h5] at e; cases e
          | some d5 =>
            simp only [h5] at e
            cases e
            refine hc σ env F3 H3 s2 z _ _ p3 h4 fun vz F4 H4 g4 k4 r4 => ?_
            have p4 := p3.next g4 k4
            refine hr' F4 H4 y z vy vz _ _ p4.fh ((r2.mono g3.ff).mono g4.ff) r4 h5 fun v F5 H5 g5 r5 => ?_
            exact q v F5 H5 ((((g1.trans g2 p1.hz).trans g3.up p2.hz).trans g4 p3.hz).trans g5.up p4.hz) (Z.grow k4 g5) r5
      · rename_i h3
        cases e
        refine hr F2 H2 x y vx vy _ _ p2.fh (r1.mono g2.ff) r2 h3 fun v F3 H3 g3 r3 => ?_
        cases r3
        refine ⟨false, rfl, ?_⟩
        rw [if_neg (by simp)]
        exact q _ F3 H3 ((g1.trans g2 p1.hz).trans g3.up p2.hz) (Z.grow k2 g3) (.bl false)
      · cases e
/-- the orders of a chain -/
inductive Ord2 | lt | le | gt | ge | eq | ne
def Ord2.op : Ord2 → CmpOp
  | .lt => .Lt | .le => .LtE | .gt => .Gt | .ge => .GtE | .eq => .Eq | .ne => .NotEq
def Ord2.g : Ord2 → D → D → Option D
  | .lt => gLt | .le => gLe | .gt => gGt | .ge => gGe | .eq => gEq | .ne => gNe
def Ord2.r (K : PySem.W.Frag) : Ord2 → R2
  | .lt => rLtX K | .le => rLeX K | .gt => rGtX K | .ge => rGeX K | .eq => rEqX K | .ne => rNeX K
theorem Ord2.opr (q : Ord2) {X : Cx} (h : Is T X) : OpR X (compareOp q.op) (q.r T.R.K) := by
  rw [← h.K]
  cases q with
  | lt => exact op_ltX h.hu
  | le => exact op_leX h.hu
  | gt => exact op_gtX h.hu
  | ge => exact op_geX h.hu
  | eq => exact op_eqX h.hu
  | ne => exact op_neX h.hu
theorem Ord2.ope (q : Ord2) {R : RC} : OpE R (q.r R.K) q.g := by
  cases q with
  | lt => exact e_lt
  | le => exact e_le
  | gt => exact e_gt
  | ge => exact e_ge
  | eq => exact e_eq
  | ne => exact e_ne
theorem SE.chain (q q' : Ord2) {op op' : CmpOp} (ha : SE T Z m a fa) (hb : SE T Z m b fb) (hc : SE T Z m c fc) (ho : op = q.op := by rfl) (ho' : op' = q'.op := by rfl) (hm : lastMarks [op, op'] [b, c] = false := by rfl) : SE T Z m (.Compare a [op, op'] [b, c] pos) (fChain q.g q'.g fa fb fc) := by
  subst ho ho'
  obtain ⟨ta, pa, ea⟩ := ha
  obtain ⟨tb, pb, eb⟩ := hb
  obtain ⟨tc, pc, ec⟩ := hc
  exact ⟨_, fun X h => pe_chain (q.opr h) (q'.opr h) (pa X h) (pb X h) (pc X h) hm, EV.chain ea eb ec q.ope q'.ope⟩
theorem SE.and {rest : List Expr} (ha : SE T Z m a fa) (hb : SE T Z m (.BoolOp .And (b :: rest) pos) fb) : SE T Z m (.BoolOp .And (a :: b :: rest) pos) (fAndV fa fb) := by
  obtain ⟨ta, pa, ea⟩ := ha
  obtain ⟨tb, pb, eb⟩ := hb
  exact ⟨_, fun X h => pe_and (pa X h) (pb X h), EV.andV ea eb⟩
theorem SE.or {rest : List Expr} (ha : SE T Z m a fa) (hb : SE T Z m (.BoolOp .Or (b :: rest) pos) fb) : SE T Z m (.BoolOp .Or (a :: b :: rest) pos) (fOrV fa fb) := by
  obtain ⟨ta, pa, ea⟩ := ha
  obtain ⟨tb, pb, eb⟩ := hb
  exact ⟨_, fun X h => pe_or (pa X h) (pb X h), EV.orV ea eb⟩
theorem SE.one {op : BoolOp} (ha : SE T Z m a fa) : SE T Z m (.BoolOp op [a] pos) fa := by
  obtain ⟨ta, pa, ea⟩ := ha
  exact ⟨_, fun X h => pe_one (pa X h), ea⟩
theorem SE.not (ha : SE T Z m a fa) : SE T Z m (.UnaryOp .Not a pos) (fNotV fa) := by
  obtain ⟨ta, pa, ea⟩ := ha
  exact ⟨_, fun X h => pe_not (pa X h), EV.notV ea⟩
theorem SE.ite (hc : SQ T Z m c ft) (ha : SE T Z m a fa) (hb : SE T Z m b fb) : SE T Z m (.IfExp c a b pos) (fIf ft fa fb) := by
  obtain ⟨tc, pc, ec⟩ := hc
  obtain ⟨ta, pa, ea⟩ := ha
  obtain ⟨tb, pb, eb⟩ := hb
  exact ⟨_, fun X h => pe_ifExp (pc X h) (pa X h) (pb X h), EV.ite ec ea eb⟩
/-! tests -/
abbrev Plain (e : Expr) : Prop := ∀ (env : PySem.Env) (whole : Sem Value), PySem.isTrue e env whole = do
  let v ← whole
  standAt e.pos
  holding [v] (truthy v)
theorem SQ.v (ha : SE T Z m a fa) (hp : Plain a := by exact fun _ _ => rfl) : SQ T Z m a (fTest fa) := by
  obtain ⟨ta, pa, ea⟩ := ha
  exact ⟨_, fun X h => pt_val (pa X h) (hp X.env), EVt.tB ea⟩
theorem SQ.cmp {op : CmpOp} (ha : SE T Z m (.Compare a [op] [b] pos) fa) (hp : Plain (.Compare a [op] [b] pos) := by exact fun _ _ => rfl) : SQ T Z m (.Compare a [op] [b] pos) (fTest fa) := SQ.v ha hp
theorem SQ.tru (ha : SE T Z m a fa) (hp : Plain a := by exact fun _ _ => rfl) : SQ T Z m a (fTru fa) := by
  obtain ⟨ta, pa, ea⟩ := ha
  exact ⟨_, fun X h => by
    have := pt_truth (pa X h) (hp X.env)
    rw [h.K] at this
    exact this, EVt.tru ea⟩
theorem SQ.not (ha : SQ T Z m a ft) : SQ T Z m (.UnaryOp .Not a pos) (fNot ft) := by
  obtain ⟨ta, pa, ea⟩ := ha
  exact ⟨_, fun X h => pt_not (pa X h), EVt.not ea⟩
theorem SQs.nil : SQs T Z m [] fYes := ⟨_, fun X h => pts_nil, EVt.yes⟩
theorem SQs.one (h : SQ T Z m a ft) : SQs T Z m [a] ft := by
  obtain ⟨ta, pa, ea⟩ := h
  exact ⟨_, fun X h => pts_one (pa X h), ea⟩
/-! displays -/
theorem SA.nil : SA T Z m [] fNil := ⟨_, fun X h => pa_nil, EVa.nil⟩
theorem SA.cons (ha : SE T Z m a fa) (hr : SA T Z m es fr) (hs : ∀ env, starEach (a :: es) env = (false, eval a env) :: starEach es env := by exact fun _ => rfl) : SA T Z m (a :: es) (fCons fa fr) := by
  obtain ⟨ta, pa, ea⟩ := ha
  obtain ⟨tr, pr, er⟩ := hr
  exact ⟨_, fun X h => pa_cons (pa X h) (pr X h) (hs X.env), EVa.cons ea er⟩
theorem SE.tup {k : Nat} (h : SA T Z m es fr) : SE T Z m (.Tuple es k pos) (fTup fr) := by
  obtain ⟨t, p, e⟩ := h
  exact ⟨_, fun X h => pe_tup (p X h), EV.tup e⟩
theorem SN.lst (h : SA T Z m es fr) : SN T Z m (.List es pos) (fLst fr) := by
  obtain ⟨t, p, e⟩ := h
  exact ⟨_, fun X h => pe_lst (p X h), EVl.lst e⟩
theorem SN.ev (h : SN T Z m a fr) : SE T Z m a (fL fr) := by
  obtain ⟨t, p, e⟩ := h
  exact ⟨_, p, EVl.ev e⟩
/-! calls -/
theorem SE.callB {x : Str} {id : String} {r : List V → Hp → VK → Prop} {g : List D → Option D} (hr : ∀ X, Is T X → CallR X (.builtin id) r) (he : CallE T.R r g) (mx : T.mg x = none) (bx : bootBuiltins x = some (.builtin id))
    (hA : SA T Z m (e :: es) fr) (gx : List.lookup x T.sc.names = some NameKind.globalImplicit := by rfl) (n1 : x ≠ Str.ofString "__name__" := by decide) (n2 : (x == Str.ofString "__debug__") = false := by rfl)
    (hs : ∀ env, starEach (e :: es) env = (false, eval e env) :: starEach es env := by exact fun _ => rfl) (hs2 : ∀ env, ((backTo pos (starEach es env)).any fun x => x.fst) = false := by exact fun _ => rfl) : SE T Z m (.Call (.Name x p) (e :: es) [] pos) (fCall g fr) := by
  obtain ⟨t, pA, eA⟩ := hA
  exact ⟨_, fun X h => pe_callB (hr X h) (by show List.lookup x X.env.scope.names = _; rw [h.sc]; exact gx) (by rw [h.mg]; exact mx) bx (pA X h) n1 n2 (hs X.env) (hs2 X.env), EV.cb eA he⟩
theorem SE.callTy {x : Str} {id : String} {r : List V → Hp → VK → Prop} {g : List D → Option D} (hr : ∀ X, Is T X → CallR X (.type id) r) (he : CallE T.R r g) (mx : T.mg x = none) (bx : bootBuiltins x = some (.type id))
    (hA : SA T Z m (e :: es) fr) (gx : List.lookup x T.sc.names = some NameKind.globalImplicit := by rfl) (n1 : x ≠ Str.ofString "__name__" := by decide) (n2 : (x == Str.ofString "__debug__") = false := by rfl)
    (hs : ∀ env, starEach (e :: es) env = (false, eval e env) :: starEach es env := by exact fun _ => rfl) (hs2 : ∀ env, ((backTo pos (starEach es env)).any fun x => x.fst) = false := by exact fun _ => rfl) : SE T Z m (.Call (.Name x p) (e :: es) [] pos) (fCall g fr) := by
  obtain ⟨t, pA, eA⟩ := hA
  exact ⟨_, fun X h => pe_callTy (hr X h) (by show List.lookup x X.env.scope.names = _; rw [h.sc]; exact gx) (by rw [h.mg]; exact mx) bx (pA X h) n1 n2 (hs X.env) (hs2 X.env), EV.cb eA he⟩
theorem SN.list {x : Str} (mx : T.mg x = none) (bx : bootBuiltins x = some (.type "list")) (ha : SE T Z m a fa) (gx : List.lookup x T.sc.names = some NameKind.globalImplicit := by rfl) (n1 : x ≠ Str.ofString "__name__" := by decide) (n2 : (x == Str.ofString "__debug__") = false := by rfl)
    (hs : ∀ env, starEach [a] env = (false, eval a env) :: starEach [] env := by exact fun _ => rfl) (hs2 : ∀ env, ((backTo pos (starEach [] env)).any fun x => x.fst) = false := by exact fun _ => rfl) : SN T Z m (.Call (.Name x p) [a] [] pos) (fList fa) := by
  obtain ⟨t, pA, eA⟩ := ha
  exact ⟨_, fun X h => by
    have := pe_callTy (p := p) (pos := pos) call_listX (by show List.lookup x X.env.scope.names = _; rw [h.sc]; exact gx) (by rw [h.mg]; exact mx) bx (pa_cons (pA X h) pa_nil (hs X.env)) n1 n2 (hs X.env) (hs2 X.env)
    rw [h.K] at this
    exact this, EVl.list eA⟩
/-- a call of a def -/
theorem SE.call {k n : Nat} {f : Addr} {fd : FuncData} {ps : List Str} {g : List D → Option D} {x : Str} (G : FnOk T.P T.w T.R.K T.mg T.base CX0 k f fd ps (spP T.R n g)) (hk : k ≤ T.k) (mx : T.mg x = some (.ref f)) (kp : PySem.W.keepIn T.R.K (.ref f) = true) (b : Binds T.R.K fd ps [])
    (hA : SA T Z m (e :: es) fr) (gx : List.lookup x T.sc.names = some NameKind.globalImplicit := by rfl) (n2 : (x == Str.ofString "__debug__") = false := by rfl)
    (hs : ∀ env, starEach (e :: es) env = (false, eval e env) :: starEach es env := by exact fun _ => rfl) (hs2 : ∀ env, ((backTo pos (starEach es env)).any fun x => x.fst) = false := by exact fun _ => rfl) : SE T Z m (.Call (.Name x p) (e :: es) [] pos) (fCall (lenG n g) fr) := by
  obtain ⟨t, pA, eA⟩ := hA
  refine ⟨_, fun X h => ?_, EV.call eA⟩
  have G' : FnOk X.prog X.w X.K X.mg X.base CX0 k f fd ps (spP T.R n g) := by rw [h.prog, h.w, h.K, h.mg, h.base]; exact G
  exact pe_call G' (h.room.mono hk) (by show List.lookup x X.env.scope.names = _; rw [h.sc]; exact gx) (by rw [h.mg]; exact mx) (by rw [h.K]; exact kp) (by rw [h.K]; exact b) .nil pass0 (pA X h) n2 (hs X.env) (hs2 X.env)
theorem SE.callS {k n : Nat} {f : Addr} {fd : FuncData} {ps : List Str} {g : List D → S → Option (D × S)} {x : Str} (G : FnOk T.P T.w T.R.K T.mg T.base CX0 k f fd ps (spS T.R Z n g)) (hk : k ≤ T.k) (mx : T.mg x = some (.ref f)) (kp : PySem.W.keepIn T.R.K (.ref f) = true) (b : Binds T.R.K fd ps [])
    (hA : SA T Z m (e :: es) fr) (gx : List.lookup x T.sc.names = some NameKind.globalImplicit := by rfl) (n2 : (x == Str.ofString "__debug__") = false := by rfl)
    (hs : ∀ env, starEach (e :: es) env = (false, eval e env) :: starEach es env := by exact fun _ => rfl) (hs2 : ∀ env, ((backTo pos (starEach es env)).any fun x => x.fst) = false := by exact fun _ => rfl) : SE T Z m (.Call (.Name x p) (e :: es) [] pos) (fCallS (lenGS n g) fr) := by
  obtain ⟨t, pA, eA⟩ := hA
  refine ⟨_, fun X h => ?_, EV.callS eA⟩
  have G' : FnOk X.prog X.w X.K X.mg X.base CX0 k f fd ps (spS T.R Z n g) := by rw [h.prog, h.w, h.K, h.mg, h.base]; exact G
  exact pe_call G' (h.room.mono hk) (by show List.lookup x X.env.scope.names = _; rw [h.sc]; exact gx) (by rw [h.mg]; exact mx) (by rw [h.K]; exact kp) (by rw [h.K]; exact b) .nil pass0 (pA X h) n2 (hs X.env) (hs2 X.env)
end
end SL
/-! Sem8: the rules, further: fields, methods, subscripts, comprehensions, what is walked, targets. -/
namespace SL
open PySem L2
open Evl (Ex)
section
variable {S : Type} {T : CT} {Z : SK S} {m : Bool} {a b c e o : Expr} {es : List Expr} {fa fb fc fe fo : Fn S D} {fr : Fn S (List D)} {ft fu : Fn S Bool} {pos p apos cpos pos' : Pos} {tg : Expr}
theorem SE.fld {ci k : Nat} {f : Str} (h : SE T Z m a fa) (cl : Cls T.R.K (T.R.cl ci)) (na : NoAttr T.R.K (T.R.cl ci) f) (hf : (T.R.nm ci)[k]? = some f) (hn : (T.R.nm ci).Nodup) (hb : ∀ env, attributeBase a f env (eval a env) = eval a env := by exact fun _ => rfl) : SE T Z m (.Attribute a f pos) (fUn (gFld ci k) fa) := by
  obtain ⟨t, pA, eA⟩ := h
  exact ⟨_, fun X h => by
    have := pe_fld (pos := pos) (pA X h) (hb X.env)
    rw [h.K] at this
    exact this, EV.fld eA cl na hf hn⟩
theorem SE.meth {ci k n : Nat} {f : Addr} {fd : FuncData} {ps : List Str} {g : List D → Option D} {mm : Str} (ho : SE T Z m o fo) (cl : Cls T.R.K (T.R.cl ci)) (me : Meth T.R.K (T.R.cl ci) mm f) (hm : mm ∉ nSums :: T.R.nm ci) (G : FnOk T.P T.w T.R.K T.mg T.base CX0 k f fd ps (spP T.R n g)) (hk : k ≤ T.k) (b : Binds T.R.K fd ps [])
    (hA : SA T Z m (e :: es) fr)
    (hs : ∀ env, starEach (e :: es) env = (false, eval e env) :: starEach es env := by exact fun _ => rfl) (hs2 : ∀ env, ((backTo pos (starEach es env)).any fun x => x.fst) = false := by exact fun _ => rfl)
    (hc : ∀ env, ∃ pl : Sem Bool, eval (.Call (.Attribute o mm apos) (e :: es) [] pos) env = (do
      let ov ← eval o env
      standAt apos.atName
      let __x ← holding [ov] (getMethod ov mm pl)
      match __x with
        | (f, first) => callWith pos f first (backTo pos (starEach (e :: es) env)) (backToKw pos (keywordEach [] env))) := by exact fun _ => ⟨_, rfl⟩) : SE T Z m (.Call (.Attribute o mm apos) (e :: es) [] pos) (fMeth ci n g fo fr) := by
  obtain ⟨to, pO, eO⟩ := ho
  obtain ⟨t, pA, eA⟩ := hA
  refine ⟨_, fun X h => ?_, EV.meth eO eA hm⟩
  have G' : FnOk X.prog X.w X.K X.mg X.base CX0 k f fd ps (spP T.R n g) := by rw [h.prog, h.w, h.K, h.mg, h.base]; exact G
  obtain ⟨pl, hpl⟩ := hc X.env
  exact pe_meth (pO X h) (by rw [h.K]; exact cl) (by rw [h.K]; exact me) G' (h.room.mono hk) (by rw [h.K]; exact b) .nil pass0 (pA X h) (hs X.env) (hs2 X.env) hpl
theorem ix_X {X : Cx} : IxR X (rIx X.K) := IxR.or ix_list (IxR.or ix_tup ix_str)
theorem SE.ix (ha : SE T Z m a fa) (hb : SE T Z m b fb) (hp : PlainIx b := by exact fun _ _ => rfl) : SE T Z m (.Subscript a b pos) (fOp gIx fa fb) := by
  obtain ⟨ta, pa, ea⟩ := ha
  obtain ⟨tb, pb, eb⟩ := hb
  exact ⟨_, fun X h => by
    have := pe_ix (pos := pos) ix_X (pa X h) (pb X h) hp
    rw [h.K] at this
    exact this, EV.op ea eb e_ix⟩
theorem SO.non : SO T Z m none fNoPart := ⟨_, fun X h => po_none, EVo.none⟩
theorem SO.some (ha : SE T Z m a fa) : SO T Z m (some a) (fPart fa) := by
  obtain ⟨ta, pa, ea⟩ := ha
  exact ⟨_, fun X h => po_some (pa X h), EVo.part ea⟩
theorem SE.sl {lo hi : Option Expr} {fl fh : Fn S (Option Int)} (ha : SE T Z m a fa) (hl : SO T Z m lo fl) (hh : SO T Z m hi fh) : SE T Z m (.Subscript a (.Slice lo hi none pos') pos) (fSl fa fl fh) := by
  obtain ⟨ta, pa, ea⟩ := ha
  obtain ⟨tl, pl, el⟩ := hl
  obtain ⟨th, ph, eh⟩ := hh
  exact ⟨_, fun X h => by
    have := pe_slice (pos := pos) (p2 := pos') sl_X (pa X h) (pl X h) (ph X h)
    rw [h.K] at this
    exact this, EV.sl ea el eh⟩
theorem SN.sl {lo hi : Option Expr} {fl fh : Fn S (Option Int)} (ha : SE T Z m a fa) (hl : SO T Z m lo fl) (hh : SO T Z m hi fh) : SN T Z m (.Subscript a (.Slice lo hi none pos') pos) (fSlL fa fl fh) := by
  obtain ⟨ta, pa, ea⟩ := ha
  obtain ⟨tl, pl, el⟩ := hl
  obtain ⟨th, ph, eh⟩ := hh
  exact ⟨_, fun X h => by
    have := pe_slice (pos := pos) (p2 := pos') sl_X (pa X h) (pl X h) (ph X h)
    rw [h.K] at this
    exact this, EVl.sl ea el eh⟩
/-- a name of the module: a constant -/
theorem SE.glob {x : Str} {v : V} {u : Value} {d : D} (mx : T.mg x = some u) (hv : RelV v u) (hd : ∀ F, Rep T.R F d v) (gx : List.lookup x T.sc.names = some NameKind.globalImplicit := by rfl) (n2 : (x == Str.ofString "__debug__") = false := by rfl) : SE T Z m (.Name x pos) (fC d) :=
  ⟨_, fun X h => pe_glob (by show List.lookup x X.env.scope.names = _; rw [h.sc]; exact gx) (by rw [h.mg]; exact mx) hv n2, EV.c hd⟩
/-- isinstance(x, int) and the like -/
theorem SE.isi {x y : Str} {Ty : String} {f : PyData → Bool} {g : D → Option D} {p2 : Pos} (hr : ∀ X, Is T X → CallR X (.builtin "isinstance") (rIsiX T.R.K Ty f)) (hg : ∀ x d, g x = some d → x.okd 60 = true ∧ d = .bl (f x.p)) (mx : T.mg x = none) (bx : bootBuiltins x = some (.builtin "isinstance")) (my : T.mg y = none) (by_ : bootBuiltins y = some (.type Ty))
    (ha : SE T Z m a fa) (gx : List.lookup x T.sc.names = some NameKind.globalImplicit := by rfl) (n1 : x ≠ Str.ofString "__name__" := by decide) (n2 : (x == Str.ofString "__debug__") = false := by rfl) (gy : List.lookup y T.sc.names = some NameKind.globalImplicit := by rfl) (ny1 : y ≠ Str.ofString "__name__" := by decide) (ny2 : (y == Str.ofString "__debug__") = false := by rfl)
    (hs : ∀ env, starEach [a, .Name y p2] env = (false, eval a env) :: starEach [.Name y p2] env := by exact fun _ => rfl) (hs2 : ∀ env, ((backTo pos (starEach [.Name y p2] env)).any fun x => x.fst) = false := by exact fun _ => rfl)
    (hs3 : ∀ env, starEach [.Name y p2] env = (false, eval (.Name y p2) env) :: starEach [] env := by exact fun _ => rfl) : SE T Z m (.Call (.Name x p) [a, .Name y p2] [] pos) (fUn g fa) := by
  obtain ⟨t, pA, eA⟩ := ha
  exact ⟨_, fun X h => pe_callB (hr X h) (by show List.lookup x X.env.scope.names = _; rw [h.sc]; exact gx) (by rw [h.mg]; exact mx) bx (pa_cons (pA X h) (pa_cons (pe_bltn (by show List.lookup y X.env.scope.names = _; rw [h.sc]; exact gy) (by rw [h.mg]; exact my) by_ (show RelV (.ty Ty) (.type Ty) from rfl) ny1 ny2) pa_nil (hs3 X.env)) (hs X.env)) n1 n2 (hs X.env) (hs2 X.env), EV.isi hg eA⟩
/-! comprehensions -/
theorem SN.lc {elt iter : Expr} {ifs : List Expr} {scope : Scope} {own : List (Str × Nat)} {bd : Bd} (hI : SW T Z m tg iter fr) (hB : BlkOk T.N T.sc scope own) (hG : SG (T.blk scope) (own.map (·.2)) tg bd) (hQ : SQs (T.blk scope) Z m ifs ft) (hE : SE (T.blk scope) Z m elt fe)
    (hf : ∀ env x, foldedSetIterable iter env x = pure x := by exact fun _ _ => rfl) : SN T Z m (.ListComp elt [{ target := tg, iter := iter, ifs := ifs, is_async := 0 }] scope pos) (fLc fr bd ft fe (own.map (·.2))) := by
  obtain ⟨ti, pi, ei⟩ := hI
  obtain ⟨tg, pg, eg⟩ := hG
  obtain ⟨tq, pq, eq⟩ := hQ
  obtain ⟨te, pe, ee⟩ := hE
  exact ⟨_, fun X h => pe_lc h.calm h.nd (pi X h) (by rw [h.N, h.sc]; exact hB) (fun s H C cl fp => pg _ (h.blk scope s H C cl fp)) (fun s H C cl fp => pq _ (h.blk scope s H C cl fp)) (fun s H C cl fp => pe _ (h.blk scope s H C cl fp)) (hf X.env), EVl.lc ei eg eq ee⟩
/-! what is walked -/
theorem SW.seq (ha : SE T Z m a fa) : SW T Z m tg a (fList fa) := by
  obtain ⟨t, pA, eA⟩ := ha
  exact ⟨_, fun X h => by
    have := pi_seq (tg := tg) (pA X h)
    rw [h.K] at this
    exact this, EVi.seq eA⟩
def fRng1 (fr : Fn S (List D)) : Fn S (List D) := fun env s => match fr env s with | some ([.int j], s1) => if okI j then some (rangeD 0 j.toNat, s1) else none | _ => none
def fRng2 (fr : Fn S (List D)) : Fn S (List D) := fun env s => match fr env s with | some ([.int i, .int j], s1) => if okI i && okI j then some (rangeD i (j - i).toNat, s1) else none | _ => none
theorem SW.rng1 (mx : T.mg (Str.ofString "range") = none) (ha : SA T Z m [a] fr) (gx : List.lookup (Str.ofString "range") T.sc.names = some NameKind.globalImplicit := by rfl) (hs : ∀ env, starEach [a] env = [(false, eval a env)] := by exact fun _ => rfl) : SW T Z m tg (.Call (.Name (Str.ofString "range") p) [a] [] pos) (fRng1 fr) := by
  obtain ⟨t, pA, eA⟩ := ha
  exact ⟨_, fun X h => pi_range1 (by show List.lookup _ X.env.scope.names = _; rw [h.sc]; exact gx) (by rw [h.mg]; exact mx) (pA X h) (hs X.env), EVi.rng1 eA⟩
theorem SW.rng2 (mx : T.mg (Str.ofString "range") = none) (ha : SA T Z m [a, b] fr) (gx : List.lookup (Str.ofString "range") T.sc.names = some NameKind.globalImplicit := by rfl) (hs : ∀ env, starEach [a, b] env = [(false, eval a env), (false, eval b env)] := by exact fun _ => rfl) (hs2 : ∀ env, starEach [b] env = [(false, eval b env)] := by exact fun _ => rfl) : SW T Z m tg (.Call (.Name (Str.ofString "range") p) [a, b] [] pos) (fRng2 fr) := by
  obtain ⟨t, pA, eA⟩ := ha
  exact ⟨_, fun X h => pi_range2 (by show List.lookup _ X.env.scope.names = _; rw [h.sc]; exact gx) (by rw [h.mg]; exact mx) (pA X h) (hs X.env) (hs2 X.env), EVi.rng2 eA⟩
def fRev (fa : Fn S D) : Fn S (List D) := fun env s => match fList fa env s with | some (ds, s1) => some (ds.reverse, s1) | none => none
theorem SW.rev (mx : T.mg (Str.ofString "reversed") = none) (ha : SE T Z m a fa) (gx : List.lookup (Str.ofString "reversed") T.sc.names = some NameKind.globalImplicit := by rfl) (hs : ∀ env, starEach [a] env = (false, eval a env) :: starEach [] env := by exact fun _ => rfl) : SW T Z m tg (.Call (.Name (Str.ofString "reversed") p) [a] [] pos) (fRev fa) := by
  obtain ⟨t, pA, eA⟩ := ha
  exact ⟨_, fun X h => by
    have := RT.pi_revA (tg := tg) (p := p) (pos := pos) (by show List.lookup _ X.env.scope.names = _; rw [h.sc]; exact gx) (by rw [h.mg]; exact mx) (pA X h) (hs X.env)
    rw [h.K] at this
    exact this, EVi.rev eA⟩
theorem SW.zip {elts : List Expr} {kk : Nat} {tpos : Pos} (mx : T.mg (Str.ofString "zip") = none) (ha : SA T Z m [a, b] fr) (gx : List.lookup (Str.ofString "zip") T.sc.names = some NameKind.globalImplicit := by rfl) (hs : ∀ env, starEach [a, b] env = (false, eval a env) :: starEach [b] env := by exact fun _ => rfl) (hs2 : ∀ env, ((backTo pos (starEach [b] env)).any fun x => x.fst) = false := by exact fun _ => rfl) : SW T Z m (.Tuple elts kk tpos) (.Call (.Name (Str.ofString "zip") p) [a, b] [] pos) (fZip fr) := by
  obtain ⟨t, pA, eA⟩ := ha
  exact ⟨_, fun X h => by
    have := RZ.pi_zipA (p := p) (pos := pos) (tpos := tpos) (elts := elts) (kk := kk) (by show List.lookup _ X.env.scope.names = _; rw [h.sc]; exact gx) (by rw [h.mg]; exact mx) (pA X h) (hs X.env) (hs2 X.env)
    rw [h.K] at this
    exact this, EVi.zip eA⟩
theorem SW.enum {elts : List Expr} {kk : Nat} {tpos : Pos} (mx : T.mg (Str.ofString "enumerate") = none) (ha : SA T Z m [a] fr) (gx : List.lookup (Str.ofString "enumerate") T.sc.names = some NameKind.globalImplicit := by rfl) (hs : ∀ env, starEach [a] env = [(false, eval a env)] := by exact fun _ => rfl) : SW T Z m (.Tuple elts kk tpos) (.Call (.Name (Str.ofString "enumerate") p) [a] [] pos) (fEnum fr) := by
  obtain ⟨t, pA, eA⟩ := ha
  exact ⟨_, fun X h => by
    have := pi_enum (p := p) (pos := pos) (tpos := tpos) (elts := elts) (kk := kk) (by show List.lookup _ X.env.scope.names = _; rw [h.sc]; exact gx) (by rw [h.mg]; exact mx) (pA X h) (hs X.env)
    rw [h.K] at this
    exact this, EVi.enum eA⟩
end
/-! targets -/
section
variable {T : CT} {ws ws' : List Nat} {a e : Expr} {es : List Expr} {b : Bd} {bs : Env → List D → Option Env} {pos : Pos}
theorem SG.name (i : Nat) {x : Str} (hx : T.N[i]? = some x := by rfl) (hv : L2.Loc T.sc x := by first | exact .inl rfl | exact .inr rfl) (hf : T.fn x = true ∨ List.lookup x T.sc.names = some NameKind.local := by first | exact .inr rfl | exact .inl rfl) : SG T [i] (.Name x pos) (bName i) :=
  ⟨_, fun X h => pg_name h.nd (by rw [h.N]; exact hx) (by rw [h.sc]; exact hv) (by
    rcases hf with hf | hf
    · exact .inl (h.fn x hf)
    · exact .inr (by rw [h.sc]; exact hf)), EVg.name i⟩
theorem SGs.nil : SGs T [] [] bsNil := ⟨_, fun X h => pgs_nil, EVgs.nil⟩
theorem SGs.cons (h1 : SG T ws a b) (h2 : SGs T ws' es bs) (hd : ∀ i, i ∈ ws → i ∉ ws' := by decide) (hs : ∀ env, List.map (fun x => x.snd) (assignEach (a :: es) env) = assign a env :: List.map (fun x => x.snd) (assignEach es env) := by exact fun _ => rfl) : SGs T (ws ++ ws') (a :: es) (bsCons b bs) := by
  obtain ⟨t, p, ev⟩ := h1
  obtain ⟨u, q, ew⟩ := h2
  exact ⟨_, fun X h => pgs_cons (p X h) (q X h) (hs X.env), EVgs.cons ev ew hd⟩
theorem SG.tup {k : Nat} (n : Nat) (h1 : SGs T ws es bs) (hn : ∀ env ds env', bs env ds = some env' → ds.length = n) (ha : ∀ env, (assignEach es env).length = n := by exact fun _ => rfl) (hb : ∀ env, List.findIdx? (fun x => x.fst) (assignEach es env) = none := by exact fun _ => rfl) : SG T ws (.Tuple es k pos) (bTup bs) := by
  obtain ⟨t, p, ev⟩ := h1
  exact ⟨_, fun X h => by
    have := pg_tup (pos := pos) (k := k) h.calm (p X h) (ha X.env) (hb X.env)
    rw [h.K] at this
    exact this, EVg.tup n ev hn⟩
end
end SL
/-! Sem9: statements, blocks, defs. -/
namespace SL
open PySem L2
open Evl (Ex)
open Classical
def dE (sc : Scope) : PySem.Env := { scope := sc, locals := 0, globals := 0, cells := [] , qual := Str.ofString "", code := .none, frame := none, builtins := 0 }
theorem sw_dE (e : Expr) (t : Option Expr) (l : Nat) (env : PySem.Env) : swapsWith e t l env = swapsWith e t l (dE env.scope) := rfl
theorem sws_dE (e : List Expr) (t : Expr) (l : Nat) (env : PySem.Env) : swapsWithSole e t l env = swapsWithSole e t l (dE env.scope) := by
  cases e with
  | nil => rfl
  | cons x r => cases r <;> rfl
theorem sst_dE (e : List Expr) (t : Expr) (env : PySem.Env) : swappedStores e t env = swappedStores e t (dE env.scope) := rfl

/-! evaluations within statements -/
section
variable {S : Type} {T : CT} {Z : SK S} {a b c e o tg : Expr} {es : List Expr} {fa fb fe fk : Fn S D} {fr fl : Fn S (List D)} {ft : Fn S Bool} {pos p apos cpos pos' : Pos}
theorem XE.mA (h : SE T Z false a fa) : XE T Z a fa := by
  obtain ⟨t, p, ev⟩ := h
  exact ⟨t, p, ES.a ev⟩
theorem XE.mB (h : SE T Z true a fa) : XE T Z a (fFlat fa) := by
  obtain ⟨t, p, ev⟩ := h
  exact ⟨t, p, ES.b ev⟩
theorem XQ.mA (h : SQ T Z false a ft) : XQ T Z a ft := by
  obtain ⟨t, p, ev⟩ := h
  exact ⟨t, p, ESt.a ev⟩
theorem XQ.mB (h : SQ T Z true a ft) : XQ T Z a ft := by
  obtain ⟨t, p, ev⟩ := h
  exact ⟨t, p, ESt.b ev⟩
theorem XN.mA (h : SN T Z false a fl) : XN T Z a fl := by
  obtain ⟨t, p, ev⟩ := h
  exact ⟨t, p, ESl.a ev⟩
theorem XN.mB (h : SN T Z true a fl) : XN T Z a (fFlats fl) := by
  obtain ⟨t, p, ev⟩ := h
  exact ⟨t, p, ESl.b ev⟩
theorem XW.mA (h : SW T Z false tg a fl) : XW T Z tg a fl := by
  obtain ⟨t, p, ev⟩ := h
  exact ⟨t, p, ESi.a ev⟩
end

/-! statements -/
section
variable {S : Type} {T : CT} {Z : SK S} {a b c e o tg : Expr} {es : List Expr} {fa fb fe fk : Fn S D} {fr fl : Fn S (List D)} {ft : Fn S Bool} {pos p apos cpos pos' : Pos} {st : Stmt} {rest body orelse : List Stmt} {f g : Stm S} {bd : Bd} {ws : List Nat}
theorem SB.nil : SB T Z [] sNext := ⟨_, fun X h => pss_nil, ST.next⟩
theorem SB.one (h : SS T Z st f) : SB T Z [st] f := by
  obtain ⟨t, p, ev⟩ := h
  exact ⟨_, fun X h => pss_one (p X h), ev⟩
theorem SB.cons (h : SS T Z st f) (hr : SB T Z rest g) : SB T Z (st :: rest) (sSeq f g) := by
  obtain ⟨t, p, ev⟩ := h
  obtain ⟨u, q, ew⟩ := hr
  exact ⟨_, fun X h => pss_cons (p X h) (q X h), ST.seq ev ew⟩
theorem SB.never : SB T Z rest sNever := ⟨_, fun X h => pss_never, ST.never⟩
theorem SB.freeze {j : Nat} (h : SB T Z rest f) : SB T Z rest (SL.freeze j f) := by
  obtain ⟨t, p, ev⟩ := h
  exact ⟨_, p, ST.freeze ev⟩
theorem SS.freeze {j : Nat} (h : SS T Z st f) : SS T Z st (SL.freeze j f) := by
  obtain ⟨t, p, ev⟩ := h
  exact ⟨_, p, ST.freeze ev⟩
theorem SS.never : SS T Z st sNever := ⟨_, fun X h => ps_never, ST.never⟩
theorem SS.pass : SS T Z (.Pass pos) sNext := ⟨_, fun X h => ps_pass, ST.next⟩
theorem SS.brk : SS T Z (.Break pos) sBreak := ⟨_, fun X h => ps_break, ST.brk⟩
theorem SS.cont : SS T Z (.Continue pos) sCont := ⟨_, fun X h => ps_continue, ST.cont⟩
theorem SS.ite (h : XQ T Z c ft) (h1 : SB T Z body f) (h2 : SB T Z orelse g) : SS T Z (.If c body orelse pos) (sIf ft f g) := by
  obtain ⟨tc, pc, ec⟩ := h
  obtain ⟨t, p, ev⟩ := h1
  obtain ⟨u, q, ew⟩ := h2
  exact ⟨_, fun X h => ps_if (pc X h) (p X h) (q X h), ST.ite ec ev ew⟩
theorem SS.drop (h : XE T Z a fa) (hs : swapsWith a none pos.line (dE T.sc) = pure false := by rfl) : SS T Z (.Expr a pos) (sDrop fa) := by
  obtain ⟨t, p, ev⟩ := h
  exact ⟨_, fun X h => ps_expr (p X h) (by rw [sw_dE, h.sc]; exact hs), ST.drop ev⟩
theorem SS.ret (h : XE T Z a fa) : SS T Z (.Return (some a) pos) (sRet fa) := by
  obtain ⟨t, p, ev⟩ := h
  exact ⟨_, fun X h => ps_ret (p X h), ST.ret ev⟩
theorem SS.retL (h : XN T Z a fl) : SS T Z (.Return (some a) pos) (sRet (fL fl)) := by
  obtain ⟨t, p, ev⟩ := h
  exact ⟨_, fun X h => ps_ret (p X h), ST.retL ev⟩
theorem SS.retN : SS T Z (.Return none pos) sRetN := ⟨_, fun X h => ps_retN, ST.retN⟩
theorem SS.retO (j : Nat) {x : Str} (hx : T.N[j]? = some x := by rfl) (hv : Vis T.sc x := by first | exact .inl rfl | exact .inr (.inl rfl) | exact .inr (.inr rfl)) (h1 : (x == Str.ofString "__debug__") = false := by rfl) (h2 : (x == Str.ofString "__classdict__") = false := by rfl) : SS T Z (.Return (some (.Name x pos')) pos) (sRetO j) :=
  ⟨_, fun X h => ps_ret (pv j (by rw [h.N]; exact hx) (by rw [h.sc]; exact hv) h1 h2), ST.retO⟩
/-- x = e -/
theorem SS.set (i : Nat) {x : Str} (h : XE T Z a fa) (hx : T.N[i]? = some x := by rfl) (hv : L2.Loc T.sc x := by first | exact .inl rfl | exact .inr rfl) (hs : swapsWith a (some (.Name x pos')) pos.line (dE T.sc) = pure false := by rfl) (hf : T.fn x = true ∨ List.lookup x T.sc.names = some NameKind.local := by first | exact .inr rfl | exact .inl rfl) : SS T Z (.Assign [.Name x pos'] a pos) (sAsg fa (bName i)) := by
  obtain ⟨t, p, ev⟩ := h
  exact ⟨_, fun X h => ps_set (i := i) h.nd (by rw [h.N]; exact hx) (by rw [h.sc]; exact hv) (p X h) (by rw [sw_dE, h.sc]; exact hs) (by
    rcases hf with hf | hf
    · exact .inl (h.fn x hf)
    · exact .inr (by rw [h.sc]; exact hf)), ST.asg ev (EVg.name i)⟩
/-- x = a new list -/
theorem SS.own (i : Nat) {x : Str} (h : XN T Z a fl) (hx : T.N[i]? = some x := by rfl) (hv : L2.Loc T.sc x := by first | exact .inl rfl | exact .inr rfl) (hs : swapsWith a (some (.Name x pos')) pos.line (dE T.sc) = pure false := by rfl) (hf : T.fn x = true ∨ List.lookup x T.sc.names = some NameKind.local := by first | exact .inr rfl | exact .inl rfl) : SS T Z (.Assign [.Name x pos'] a pos) (sOwn i fl) := by
  obtain ⟨t, p, ev⟩ := h
  exact ⟨_, fun X h => ps_set (i := i) h.nd (by rw [h.N]; exact hx) (by rw [h.sc]; exact hv) (p X h) (by rw [sw_dE, h.sc]; exact hs) (by
    rcases hf with hf | hf
    · exact .inl (h.fn x hf)
    · exact .inr (by rw [h.sc]; exact hf)), ST.ownL ev⟩
/-- x = y, y's list given up -/
theorem SS.move (i j : Nat) {x y : Str} {p2 : Pos} (hy : T.N[j]? = some y := by rfl) (hvy : Vis T.sc y := by first | exact .inl rfl | exact .inr (.inl rfl) | exact .inr (.inr rfl)) (h1 : (y == Str.ofString "__debug__") = false := by rfl) (h2 : (y == Str.ofString "__classdict__") = false := by rfl) (hx : T.N[i]? = some x := by rfl) (hv : L2.Loc T.sc x := by first | exact .inl rfl | exact .inr rfl) (hf : T.fn x = true ∨ List.lookup x T.sc.names = some NameKind.local := by first | exact .inr rfl | exact .inl rfl) : SS T Z (.Assign [.Name x pos'] (.Name y p2) pos) (sMove i j) :=
  ⟨_, fun X h => ps_set (i := i) h.nd (by rw [h.N]; exact hx) (by rw [h.sc]; exact hv) (pv j (by rw [h.N]; exact hy) (by rw [h.sc]; exact hvy) h1 h2) (by rfl) (by
    rcases hf with hf | hf
    · exact .inl (h.fn x hf)
    · exact .inr (by rw [h.sc]; exact hf)), ST.move⟩
/-- target = e -/
theorem SS.asg (h : XE T Z a fa) (hg : SG T ws tg bd) (hs : swapsWithSole [tg] a pos.line (dE T.sc) = pure false := by rfl) (hs2 : swappedStores [tg] a (dE T.sc) = pure none := by rfl) (hs3 : ∀ env, List.map (fun x => x.snd) (assignEach [tg] env) = [assign tg env] := by exact fun _ => rfl) : SS T Z (.Assign [tg] a pos) (sAsg fa bd) := by
  obtain ⟨t, p, ev⟩ := h
  obtain ⟨u, q, ew⟩ := hg
  exact ⟨_, fun X h => ps_asg (p X h) (q X h) (by rw [sws_dE, h.sc]; exact hs) (by rw [sst_dE, h.sc]; exact hs2) (hs3 X.env), ST.asg ev ew⟩
/-- y = [..] of a comprehension, y local -/
theorem SS.lc (i : Nat) {y : Str} {elt iter : Expr} {scope : Scope} {own : List (Str × Nat)} (m : Bool) (hI : SW T Z m tg iter fr) (hB : BlkOk T.N T.sc scope own) (hG : SG (T.blk scope) (own.map (·.2)) tg bd) (hQ : SQs (T.blk scope) Z m es ft) (hE : SE (T.blk scope) Z m elt fe)
    (hx : T.N[i]? = some y := by rfl) (hv : List.lookup y T.sc.names = some NameKind.local := by rfl)
    (hs : swapsWith (.ListComp elt [{ target := tg, iter := iter, ifs := es, is_async := 0 }] scope pos) (some (.Name y pos')) apos.line (dE T.sc) = pure true := by rfl)
    (hf : ∀ env x, foldedSetIterable iter env x = pure x := by exact fun _ _ => rfl) : SS T Z (.Assign [.Name y pos'] (.ListComp elt [{ target := tg, iter := iter, ifs := es, is_async := 0 }] scope pos) apos) (sOwn i (if m then fFlats (fLc fr bd ft fe (own.map (·.2))) else fLc fr bd ft fe (own.map (·.2)))) := by
  obtain ⟨ti, pi, ei⟩ := hI
  obtain ⟨tg, pg, eg⟩ := hG
  obtain ⟨tq, pq, eq⟩ := hQ
  obtain ⟨te, pe, ee⟩ := hE
  refine ⟨_, fun X h => ps_setLc (i := i) h.calm h.nd (by rw [h.N]; exact hx) (by rw [h.sc]; exact hv) (by rw [sw_dE, h.sc]; exact hs) (pi X h) (by rw [h.N, h.sc]; exact hB) (fun s H C cl fp => pg _ (h.blk scope s H C cl fp)) (fun s H C cl fp => pq _ (h.blk scope s H C cl fp)) (fun s H C cl fp => pe _ (h.blk scope s H C cl fp)) (hf X.env), ST.ownL ?_⟩
  cases m with
  | false => exact ESl.a (EVl.lc ei eg eq ee)
  | true => exact ESl.b (EVl.lc ei eg eq ee)
theorem SS.for (hi : XW T Z tg a fl) (hg : SG T ws tg bd) (hb : SB T Z body f) (hf : ∀ env x, foldedSetIterable a env x = pure x := by exact fun _ _ => rfl) : SS T Z (.For tg a body [] pos) (sFor fl bd f) := by
  obtain ⟨ti, pi, ei⟩ := hi
  obtain ⟨tg, pg, eg⟩ := hg
  obtain ⟨t, p, ev⟩ := hb
  exact ⟨_, fun X h => ps_for h.own h.calm (pi X h) (pg X h) (p X h) (hf X.env), ST.for ei eg ev⟩
theorem SS.while (n : Nat) (hc : XQ T Z c ft) (hb : SB T Z body f) : SS T Z (.While c body [] pos) (sWhile ft f n) := by
  obtain ⟨tc, pc, ec⟩ := hc
  obtain ⟨t, p, ev⟩ := hb
  exact ⟨_, fun X h => ps_while h.own (pc X h) (p X h), ST.while ec ev⟩
abbrev BmOk (o e : Expr) (es : List Expr) (name : Str) (apos cpos : Pos) : Prop := ∀ env : PySem.Env, attributeBase o name env (eval o env) = eval o env ∧
  (((((backTo cpos (starEach (e :: es) env)).all fun x => !x.fst) && (backToKw cpos (keywordEach [] env)).all fun x => x.fst.isSome) && decide (((e :: es).length + ([] : List Keyword).length + if ([] : List Keyword).isEmpty = true then 0 else 1) < 30)) = true) ∧
  starEach (e :: es) env = (false, eval e env) :: starEach es env ∧ (((backTo cpos (starEach es env)).any fun x => x.fst) = false)
theorem pe_bmQ {X : Cx} {to : TE} {t : TA} {name : Str} {Ty id : String} {r : V → List V → Hp → VK → Prop} (h1 : PlainAttrs Ty) (h2 : Slot Ty name id) (h3 : typeOf (.builtin id) = pure (.type "method_descriptor")) (h4 : MtR X id r) (po : PE X o to) (pA : PA X (e :: es) t) (hb : BmOk o e es name apos cpos) (hl : (apos.endLine == cpos.line) = true) : PE X (.Call (.Attribute o name apos) (e :: es) [] cpos) (tBM X.K Ty r to t) :=
  pe_bm h1 h2 h3 h4 po pA (hb X.env).1 (hb X.env).2.1 hl (hb X.env).2.2.1 (hb X.env).2.2.2
/-- y.append(e) -/
theorem SS.app (i : Nat) {y : Str} {p2 : Pos} (h : XE T Z e fe) (hx : T.N[i]? = some y := by rfl) (hv : Vis T.sc y := by first | exact .inl rfl | exact .inr (.inl rfl) | exact .inr (.inr rfl)) (h1 : (y == Str.ofString "__debug__") = false := by rfl) (h2 : (y == Str.ofString "__classdict__") = false := by rfl)
    (hb : BmOk (.Name y p2) e [] (Str.ofString "append") apos cpos := by exact fun _ => ⟨rfl, rfl, rfl, rfl⟩) (hl : (apos.endLine == cpos.line) = true := by rfl) (hs : swapsWith (.Call (.Attribute (.Name y p2) (Str.ofString "append") apos) [e] [] cpos) none pos.line (dE T.sc) = pure false := by rfl) : SS T Z (.Expr (.Call (.Attribute (.Name y p2) (Str.ofString "append") apos) [e] [] cpos) pos) (sApp i fe) := by
  obtain ⟨t, p, ev⟩ := h
  exact ⟨_, fun X h => by
    have := pe_bmQ (cpos := cpos) PySem.F.plainAttrs_list PySem.F.slot_list_append PySem.F.type_list_append mt_append (pv i (by rw [h.N]; exact hx) (by rw [h.sc]; exact hv) h1 h2) (pa_cons (p X h) pa_nil (hb X.env).2.2.1) hb hl
    rw [h.K] at this
    exact ps_expr this (by rw [sw_dE, h.sc]; exact hs), ST.app ev⟩
/-- x.append(y), y's list given up -/
theorem SS.appO (i j : Nat) {x y : Str} {p2 p3 : Pos} (hx : T.N[i]? = some x := by rfl) (hv : Vis T.sc x := by first | exact .inl rfl | exact .inr (.inl rfl) | exact .inr (.inr rfl)) (h1 : (x == Str.ofString "__debug__") = false := by rfl) (h2 : (x == Str.ofString "__classdict__") = false := by rfl)
    (hy : T.N[j]? = some y := by rfl) (hvy : Vis T.sc y := by first | exact .inl rfl | exact .inr (.inl rfl) | exact .inr (.inr rfl)) (h1y : (y == Str.ofString "__debug__") = false := by rfl) (h2y : (y == Str.ofString "__classdict__") = false := by rfl)
    (hb : BmOk (.Name x p2) (.Name y p3) [] (Str.ofString "append") apos cpos := by exact fun _ => ⟨rfl, rfl, rfl, rfl⟩) (hl : (apos.endLine == cpos.line) = true := by rfl) (hs : swapsWith (.Call (.Attribute (.Name x p2) (Str.ofString "append") apos) [.Name y p3] [] cpos) none pos.line (dE T.sc) = pure false := by rfl) : SS T Z (.Expr (.Call (.Attribute (.Name x p2) (Str.ofString "append") apos) [.Name y p3] [] cpos) pos) (sAppO i j) :=
  ⟨_, fun X h => by
    have := pe_bmQ (cpos := cpos) PySem.F.plainAttrs_list PySem.F.slot_list_append PySem.F.type_list_append mt_append (pv i (by rw [h.N]; exact hx) (by rw [h.sc]; exact hv) h1 h2) (pa_cons (pv j (by rw [h.N]; exact hy) (by rw [h.sc]; exact hvy) h1y h2y) pa_nil (hb X.env).2.2.1) hb hl
    rw [h.K] at this
    exact ps_expr this (by rw [sw_dE, h.sc]; exact hs), ST.appO⟩
abbrev SubOk (o i : Expr) (pos : Pos) : Prop := ∀ (env : PySem.Env) (v : Value), assign (.Subscript o i pos) env v = (do
  let ov ← holding [v] (eval o env)
  let iv ← holding [v, ov] (eval i env)
  standAt pos
  holding [v, ov, iv] (setItem ov iv v)
  release [v, ov, iv] [])
/-- y[k] = e -/
theorem SS.sub (i : Nat) {y : Str} {k : Expr} {p2 p3 : Pos} (h : XE T Z e fe) (hk : XE T Z k fk) (hx : T.N[i]? = some y := by rfl) (hv : Vis T.sc y := by first | exact .inl rfl | exact .inr (.inl rfl) | exact .inr (.inr rfl)) (h1 : (y == Str.ofString "__debug__") = false := by rfl) (h2 : (y == Str.ofString "__classdict__") = false := by rfl)
    (ho : SubOk (.Name y p2) k p3 := by exact fun _ _ => rfl) (hs : swapsWithSole [.Subscript (.Name y p2) k p3] e pos.line (dE T.sc) = pure false := by rfl) (hs2 : swappedStores [.Subscript (.Name y p2) k p3] e (dE T.sc) = pure none := by rfl) (hs3 : ∀ env, List.map (fun x => x.snd) (assignEach [.Subscript (.Name y p2) k p3] env) = [assign (.Subscript (.Name y p2) k p3) env] := by exact fun _ => rfl) : SS T Z (.Assign [.Subscript (.Name y p2) k p3] e pos) (sSet i fk fe) := by
  obtain ⟨t, p, ev⟩ := h
  obtain ⟨u, q, ew⟩ := hk
  exact ⟨_, fun X h => ps_asg (p X h) (pg_sub (pv i (by rw [h.N]; exact hx) (by rw [h.sc]; exact hv) h1 h2) (q X h) set_list (ho X.env)) (by rw [sws_dE, h.sc]; exact hs) (by rw [sst_dE, h.sc]; exact hs2) (hs3 X.env), ST.set ev ew⟩
end

/-! defs -/
def outR {S : Type} : Option (Out × S) → Option (D × S)
  | some (.rt d, s) => some (d, s)
  | some (.nx _, s) => some (.non, s)
  | _ => none
def startE (n : Nat) (ds : List D) : Env := ds.map some ++ List.replicate (n - ds.length) none
def runS {S : Type} (n : Nat) (f : Stm S) : List D → S → Option (D × S) := fun ds s => if ds.any D.isOwn then none else outR (f (startE n ds) s)
def runP (n : Nat) (f : Stm Unit) : List D → Option D := fun ds => match runS n f ds () with
  | some (d, _) => some d
  | none => none
theorem start_get {R : RC} {F : Hp} {N : List Str} {ds : List D} {vs : List V} (r : Reps R F ds vs) {i : Nat} {d : D} (h : (startE N.length ds)[i]? = some (some d)) : ∃ v, (L2.start N vs)[i]? = some (some v) ∧ Rep R F d v := by
  unfold startE at h
  by_cases hi : i < ds.length
  · rw [List.getElem?_append_left (by simpa using hi), List.getElem?_map] at h
    cases e : ds[i]? with
    | none => rw [e] at h; cases h
    | some d' =>
      rw [e] at h
      cases h
      obtain ⟨v, h1, h2⟩ := r.get e
      refine ⟨v, ?_, h2⟩
      unfold L2.start
      rw [List.getElem?_append_left (by rw [List.length_map, ← r.length]; exact hi), List.getElem?_map, h1]
      rfl
  · rw [List.getElem?_append_right (by simpa using hi), List.getElem?_replicate] at h
    split at h <;> cases h
theorem start_si {S : Type} {R : RC} {Z : SK S} {F H : Hp} {N : List Str} {ds : List D} {vs : List V} {s : S} (r : Reps R F ds vs) (ho : ds.any D.isOwn = false) (fh : Ex F H) (zf : ∀ a, Z.z a → F a = none) (ok : Z.ok s H) (hl : ds.length ≤ N.length) : SI R Z F H (L2.start N vs) (startE N.length ds) F H s where
  gr := Grow.refl fh
  zf := zf
  ok := ok
  z0 := fun a ha => (Z.has s H a ok ha).1
  sh := fun i d _ h => start_get r h
  ow := fun i d ho h => by
    obtain ⟨v, _, h2⟩ := start_get (N := N) r h
    exact rep_ownF h2 ho
  dj := fun i j d e p ho _ h => by
    obtain ⟨v, _, h2⟩ := start_get (N := N) r h
    exact rep_ownF h2 ho
  len := by
    unfold L2.start startE
    rw [List.length_append, List.length_append, List.length_map, List.length_map, List.length_replicate, List.length_replicate, r.length]
/-- a def -/
theorem defS {S : Type} {Z : SK S} {P : Program} {w : World} {R : RC} {mg : Str → Option Value} {base : Heap} {x qual : Str} {st : Stmt} {f : Addr} {fd : FuncData} {N ps : List Str} {k : Nat} {body : Stm S} (F : Fun R.K x qual st f fd) (sc : FnScope N ps (defScope st)) (h : SB ⟨P, w, R, mg, base, N, defScope st, fun _ => true, k⟩ Z (defBody st) body) (hl : ps.length ≤ N.length) : FnOk P w R.K mg base CX0 (k + 1) f fd ps (spS R Z ps.length (runS N.length body)) := by
  obtain ⟨t, p, ev⟩ := h
  refine F.ok sc (fun vs H Q E h => ?_) (fun cdv A outer s H vs Q E hr h => ?_)
  · obtain ⟨F, ds, s, d, s', h1, _, _, _, h2, _⟩ := h
    rw [← h2.length, h1]
  · obtain ⟨F', ds, s1, d, s', h1, fh, zf, ok, h2, h3, q⟩ := h
    unfold runS at h3
    split at h3
    · cases h3
    rename_i ho
    rw [Bool.not_eq_true] at ho
    cases e : body (startE N.length ds) s1 with
    | none => rw [e] at h3; cases h3
    | some o =>
      obtain ⟨o, s2⟩ := o
      rw [e] at h3
      refine ⟨t, p _ ⟨rfl, rfl, rfl, rfl, rfl, rfl, rfl, fun _ _ => rfl, rfl, hr, sc.nd, PassesOwn.never⟩, ?_⟩
      refine ev F' H _ _ F' H s1 o s2 _ (start_si h2 ho fh zf ok (by rw [h1]; exact hl)) e ?_
      cases o with
      | rt d' =>
        cases h3
        exact fun v F2 H2 g k r => q v F2 H2 g k r
      | nx e' =>
        cases h3
        exact fun σ' F2 H2 p' x' => q .non F2 H2 p'.gr p'.ok .non
      | bk e' => cases h3
      | ct e' => cases h3
theorem defP {P : Program} {w : World} {R : RC} {mg : Str → Option Value} {base : Heap} {x qual : Str} {st : Stmt} {f : Addr} {fd : FuncData} {N ps : List Str} {k : Nat} {body : Stm Unit} (F : Fun R.K x qual st f fd) (sc : FnScope N ps (defScope st)) (h : SB ⟨P, w, R, mg, base, N, defScope st, fun _ => true, k⟩ sk0 (defBody st) body) (hl : ps.length ≤ N.length) : FnOk P w R.K mg base CX0 (k + 1) f fd ps (spP R ps.length (runP N.length body)) := by
  have G := defS F sc h hl
  refine ⟨fun vs H Q E h => ?_, fun A outer s H args us vs Q E hr E0 hb hv h => G.run A outer s H args us vs Q E hr E0 hb hv ?_⟩
  · obtain ⟨F, ds, d, h1, _, h2, _⟩ := h
    rw [← h2.length, h1]
  · obtain ⟨F', ds, d, h1, fh, h2, h3, q⟩ := h
    unfold runP at h3
    cases e : runS N.length body ds () with
    | none => rw [e] at h3; cases h3
    | some o =>
      rw [e] at h3
      cases h3
      exact ⟨F', ds, (), _, (), h1, fh, fun a z => z.elim, trivial, h2, e, fun v F2 H2 g k r => q v F2 H2 ⟨g.hh, g.ff, g.fh, g.nw⟩ r⟩
end SL
/-! Sem10: more operations. -/
namespace SL
open PySem L2
open Evl (Ex)

/-! ### is, is not of bools; tuple * int, list * int -/
def gIsB (x y : D) : Option D := match x, y with
  | .bl a, .bl b => some (.bl (decide (a = b)))
  | _, _ => none
def gIsNotB (x y : D) : Option D := match x, y with
  | .bl a, .bl b => some (.bl (!decide (a = b)))
  | _, _ => none
section
variable {R : RC}
theorem e_isB : OpE R rIsB gIsB := by
  intro F H x y vx vy d Q e rx ry hg q
  unfold gIsB at hg
  split at hg
  · cases hg
    cases rx
    cases ry
    exact ⟨_, _, rfl, rfl, q _ F H (Grow.refl e) (.bl _)⟩
  · cases hg
theorem e_isNotB : OpE R rNotB gIsNotB := by
  intro F H x y vx vy d Q e rx ry hg q
  unfold gIsNotB at hg
  split at hg
  · cases hg
    cases rx
    cases ry
    exact ⟨_, _, rfl, rfl, q _ F H (Grow.refl e) (.bl _)⟩
  · cases hg
def repD (ds : List D) : Nat → List D
  | 0 => []
  | n + 1 => ds ++ repD ds n
theorem repD_eq (ds : List D) : ∀ n, (List.replicate n ds).flatten = repD ds n
  | 0 => rfl
  | n + 1 => by rw [List.replicate_succ, List.flatten_cons, repD_eq ds n]; rfl
def gRep (x y : D) : Option D := match x, y with
  | .tup ds, .int k => if (decide (2 ≤ k) && decide (k ≤ 1000)) && (decide (ds.length ≤ 1000) && !ds.isEmpty) then some (.tup (repD ds k.toNat)) else none
  | _, _ => none
theorem e_rep : OpE R (rRepT R.K) gRep := by
  intro F H x y vx vy d Q e rx ry hg q
  unfold gRep at hg
  split at hg
  · rename_i ds k
    split at hg
    · rename_i hk
      simp only [Bool.and_eq_true, decide_eq_true_eq, Bool.not_eq_true', List.isEmpty_eq_false_iff] at hk
      cases hg
      cases rx with
      | tup hT rs =>
        cases ry
        rename_i a vs
        refine ⟨a, k, vs, rfl, rfl, sqT_ex e (SqT.of hT), fun z => hk.2.2 (rs.nil_iff.mp z), hk.1.1, hk.1.2, by rw [← rs.length]; exact hk.2.1, fun p hp => ?_⟩
        have g : Gr0 F H (upd F p (.tup (List.replicate k.toNat vs).flatten)) (upd H p (.tup (List.replicate k.toNat vs).flatten)) := Gr0.new e hp
        rw [← repD_eq] at q
        exact q _ _ _ g (.tup upd_same ((rs.rep k.toNat).mono g.ff))
    · cases hg
  · cases hg
end
/-- a new list: list * int -/
def fRepL {S : Type} (fa : Fn S (List D)) (fb : Fn S D) : Fn S (List D) := fun env s => match fa env s with
  | none => none
  | some (ds, s1) => match fb env s1 with
    | some (.int k, s2) => if (decide (-4611686018427387904 ≤ k) && decide (k < 4611686018427387904)) && decide (ds.length * k.toNat ≤ 100000) then some (repD ds k.toNat, s2) else none
    | _ => none
section
variable {S : Type} {R : RC} {Z : SK S} {m : Bool} {ta tb : TE} {fl : Fn S (List D)} {fb : Fn S D}
theorem EVl.rep (ha : EVl R Z m ta fl) (hb : EV R Z m tb fb) : EVl R Z m (tOp rRep ta tb) (fRepL fl fb) := by
  refine EVl.new fun σ env F H s ds s' Q p e q => ?_
  unfold fRepL at e
  split at e
  case h_1 => cases e
  rename_i ds1 s1 h1
  split at e
  case h_2 => cases e
  rename_i k s2 h2
  split at e
  case isFalse => cases e
  rename_i hk
  simp only [Bool.and_eq_true, decide_eq_true_eq] at hk
  cases e
  refine ha σ env F H s ds1 s1 _ p h1 fun a vs F1 H1 g1 k1 n1 nF hH r1 => ?_
  have p1 := p.next g1 k1
  refine hb σ env F1 H1 s1 _ _ _ p1 h2 fun v F2 H2 g2 k2 r2 => ?_
  have p2 := p1.next g2 k2
  cases r2
  have haz : ¬ Z.z a := fun z => (p.hz a z).1 n1
  refine ⟨a, k, vs, rfl, rfl, g2.hh a _ haz hH, by omega, by omega, Evl.sz_of (by rw [← r1.length]; exact hk.2), fun b hb => ?_⟩
  rw [← repD_eq] at q
  exact q F2 H2 _ (g1.trans g2 p1.hz) k2 ((r1.mono g2.ff).rep k.toNat) b hb
end

/-! ### min, max of a list or a tuple of ints -/
def minI : Int → List Int → Int
  | x, [] => x
  | x, y :: ys => minI (if y < x then y else x) ys
def maxI : Int → List Int → Int
  | x, [] => x
  | x, y :: ys => maxI (if x < y then y else x) ys
theorem minI_p : ∀ (ys : List Int) (x : Int), PySem.W.minD (.int x) (ys.map PyData.int) = .int (minI x ys)
  | [], x => rfl
  | y :: ys, x => by
    unfold minI
    rw [← minI_p ys]
    unfold PySem.W.minD
    rw [List.map_cons, List.foldl_cons, PySem.W.dataLt_int]
    congr 1
    by_cases h : y < x <;> simp [h]
theorem maxI_p : ∀ (ys : List Int) (x : Int), PySem.W.maxD (.int x) (ys.map PyData.int) = .int (maxI x ys)
  | [], x => rfl
  | y :: ys, x => by
    unfold maxI
    rw [← maxI_p ys]
    unfold PySem.W.maxD
    rw [List.map_cons, List.foldl_cons, PySem.W.dataLt_int]
    congr 1
    by_cases h : x < y <;> simp [h]
def gMM (g : Int → List Int → Int) (xs : List D) : Option D := match xs with
  | [x] => match items x with
    | some ds => match intsOf ds with
      | some (n :: ns) => some (.int (g n ns))
      | _ => none
    | none => none
  | _ => none
abbrev gMin1 := gMM minI
abbrev gMax1 := gMM maxI
def rMM (K : PySem.W.Frag) (g : Int → List Int → Int) : List V → Hp → VK → Prop := fun xs H Q => ∃ (a : Addr) (n : Int) (ns : List Int), xs = [.ref a] ∧ (SqL K H a ((n :: ns).map V.int) ∨ SqT K H a ((n :: ns).map V.int)) ∧ Q (.int (g n ns)) H
theorem dpAll_ints {K : PySem.W.Frag} {H : Hp} : ∀ ns : List Int, DpAll K H (ns.map V.int) (ns.map PyData.int)
  | [] => .nil
  | _ :: ns => .cons (.int _) (dpAll_ints ns)
theorem alike_ints (ns : List Int) : PySem.W.AlikeAll (ns.map PyData.int) := by
  refine ⟨fun x hx y hy => ?_, fun x hx => ?_⟩
  · rw [List.mem_map] at hx hy
    obtain ⟨i, _, rfl⟩ := hx
    obtain ⟨j, _, rfl⟩ := hy
    simp [PySem.W.alike]
  · rw [List.mem_map] at hx
    obtain ⟨i, _, rfl⟩ := hx
    simp
theorem depth_ints : ∀ ns : List Int, PyData.depthAll (ns.map PyData.int) = 0
  | [] => by simp [PyData.depthAll]
  | _ :: ns => by simp [PyData.depthAll, PyData.depth, depth_ints ns]
theorem reads_int {h : Heap} {v : Value} {n : Int} {bs : List Addr} (r : Reads h v (.int n) bs) : RelV (.int n) v := by
  cases r
  exact ⟨_, rfl⟩
section
variable {X : Cx}
theorem call_min1 (hc : X.calm = true) (hu : X.A.units + 64 < cLine) : CallR X (.builtin "min") (rMM X.K minI) := by
  intro pins s σ H xs us Q I r h
  obtain ⟨a, n, ns, rfl, hd, q⟩ := h
  obtain ⟨u, rfl, ru⟩ := vals1 r
  have hd' : Dp X.K H (.ref a) (.list ((n :: ns).map PyData.int)) ∨ Dp X.K H (.ref a) (.tuple ((n :: ns).map PyData.int)) := by
    rcases hd with hd | hd
    · exact .inl (.lst hd (dpAll_ints _))
    · exact .inr (.tup hd (dpAll_ints _))
  have fin : ∀ (i : Nat) (v : Value) (h' : Heap) (tk : Nat) (bs : List Addr), Reads h' v (PySem.W.minD (.int n) (ns.map PyData.int)) bs → (∀ (b : Addr) (o : Obj), s.heap.get? b = some o → h'.get? b = some o) → EP X pins σ Q v { heap := h', gens := s.gens, drawn := s.drawn, toks := tk, os := s.os } := fun i v h' tk bs hr hk => by
    rw [minI_p] at hr
    exact ⟨_, H, I.kept hk, reads_int hr, q⟩
  have hdep := depth_ints (n :: ns)
  rw [List.map_cons] at hdep
  rcases hd' with hd | hd
  · obtain ⟨as, rr⟩ := Dp.reads I _ _ u hd ru
    cases rr with
    | list h1 h2 h3 h4 =>
      exact PySem.W.min_list_data (I.ok.hd hc) ⟨_, h1, h2, _, h3⟩ h4 (alike_ints (n :: ns)) (by rw [hdep]; omega) fun i v h' tk bs _ hr hk => fin i v h' tk bs hr hk
  · obtain ⟨as, rr⟩ := Dp.reads I _ _ u hd ru
    cases rr with
    | tuple h1 h2 h3 h4 =>
      exact PySem.W.min_tuple_data (I.ok.hd hc) ⟨_, h1, h2, _, h3⟩ h4 (alike_ints (n :: ns)) (by rw [hdep]; omega) fun i v h' tk bs _ hr hk => fin i v h' tk bs hr hk
theorem call_max1 (hc : X.calm = true) (hu : X.A.units + 64 < cLine) : CallR X (.builtin "max") (rMM X.K maxI) := by
  intro pins s σ H xs us Q I r h
  obtain ⟨a, n, ns, rfl, hd, q⟩ := h
  obtain ⟨u, rfl, ru⟩ := vals1 r
  have hd' : Dp X.K H (.ref a) (.list ((n :: ns).map PyData.int)) ∨ Dp X.K H (.ref a) (.tuple ((n :: ns).map PyData.int)) := by
    rcases hd with hd | hd
    · exact .inl (.lst hd (dpAll_ints _))
    · exact .inr (.tup hd (dpAll_ints _))
  have fin : ∀ (i : Nat) (v : Value) (h' : Heap) (tk : Nat) (bs : List Addr), Reads h' v (PySem.W.maxD (.int n) (ns.map PyData.int)) bs → (∀ (b : Addr) (o : Obj), s.heap.get? b = some o → h'.get? b = some o) → EP X pins σ Q v { heap := h', gens := s.gens, drawn := s.drawn, toks := tk, os := s.os } := fun i v h' tk bs hr hk => by
    rw [maxI_p] at hr
    exact ⟨_, H, I.kept hk, reads_int hr, q⟩
  have hdep := depth_ints (n :: ns)
  rw [List.map_cons] at hdep
  rcases hd' with hd | hd
  · obtain ⟨as, rr⟩ := Dp.reads I _ _ u hd ru
    cases rr with
    | list h1 h2 h3 h4 =>
      exact PySem.W.max_list_data (I.ok.hd hc) ⟨_, h1, h2, _, h3⟩ h4 (alike_ints (n :: ns)) (by rw [hdep]; omega) fun i v h' tk bs _ hr hk => fin i v h' tk bs hr hk
  · obtain ⟨as, rr⟩ := Dp.reads I _ _ u hd ru
    cases rr with
    | tuple h1 h2 h3 h4 =>
      exact PySem.W.max_tuple_data (I.ok.hd hc) ⟨_, h1, h2, _, h3⟩ h4 (alike_ints (n :: ns)) (by rw [hdep]; omega) fun i v h' tk bs _ hr hk => fin i v h' tk bs hr hk
end
theorem c_MM {R : RC} (g : Int → List Int → Int) : CallE R (rMM R.K g) (gMM g) := by
  intro F H xs vs d Q e r hg q
  unfold gMM at hg
  split at hg
  case h_2 => cases hg
  rename_i x
  split at hg
  case h_2 => cases hg
  rename_i ds hi
  split at hg
  case h_2 => cases hg
  rename_i n ns hn
  cases hg
  obtain ⟨v, rfl, rv⟩ := r.one
  obtain ⟨a, us, rfl, hs, rs⟩ := items_sq rv hi
  have := ints_of rs hn
  subst this
  refine ⟨a, n, ns, rfl, ?_, q _ F H (Grow.refl e) (.int _)⟩
  rcases hs with hs | hs
  · exact .inl (sqL_ex e hs)
  · exact .inr (sqT_ex e hs)
theorem c_min1 {R : RC} : CallE R (rMM R.K minI) gMin1 := c_MM minI
theorem c_max1 {R : RC} : CallE R (rMM R.K maxI) gMax1 := c_MM maxI
end SL
/-! Sem11: comprehensions with two fors; parallel assignment, exchange of items, +=. -/
namespace SL
open PySem L2
open Evl (Ex)
section
variable {S : Type} {R : RC} {Z : SK S} {m : Bool} {g : TG} {b : Bd} {tt : TT} {ft : Fn S Bool} {te : TE} {fe : Fn S D} {vs : List Nat}
theorem lc_loop {J : It} {A : Addr} {F0 H0 F1 H1 : Hp} {σ : L2.St} {env : Env} {xs acc0 as : List D} {ws0 : List V} {s1 s' : S} {post : Hp → Prop}
    (hg : EVg R vs g b) (ht : EVt R Z m tt ft) (he : EV R Z m te fe) (p1 : Pre R Z m σ env F1 H1 s1) (g0 : Grow Z.z F0 H0 F1 H1) (z0 : ∀ a, Z.z a → NT (H0 a)) (hA0 : H0 A = none) (hF1A : F1 A = none) (hH1A : H1 A = some (.lst ws0)) (r0 : Reps R F1 acc0 ws0) (it : ItE R J F1 xs)
    (e : lcRun b ft fe (wipeE env vs) xs s1 = some (as, s')) (hlen : (acc0 ++ as).length ≤ 100000)
    (q : ∀ F' H' ws', Pre R Z m σ env F' H' s' → Grow Z.z F0 H0 F' H' → Ex F1 F' → F' A = none → H' A = some (.lst ws') → Reps R F' (acc0 ++ as) ws' → post H') :
    ∃ W : Nat → Nat → Hp → Prop, (∃ m, W 0 m H1) ∧ ∀ i m H, W i m H → J.stop i H ∧ post H ∨ J.go i H ∧ ∃ Nx : Hp → Prop, (∀ H', Nx H' → ∃ m', m' < m ∧ W (i + 1) m' H') ∧ ∀ x H', J.yld i H x H' →
      g x (wipe σ vs) H' fun σ' H2 => wipe σ' vs = wipe σ vs ∧ tt σ' H2 fun b H3 => if b = true then te σ' H3 fun y H4 => ∃ acc, H4 A = some (.lst acc) ∧ acc.length < sizeLine ∧ Nx (upd H4 A (.lst (acc ++ [y]))) else Nx H3 := by
  have hlenE := p1.len
  have hAz : ¬ Z.z A := fun z => (z0 A z).1 hA0
  refine ⟨fun i k H' => k = xs.length - i ∧ i ≤ xs.length ∧ ∃ (F2 : Hp) (s2 : S) (acc : List D) (ws : List V) (rest : List D), Pre R Z m σ env F2 H' s2 ∧ Grow Z.z F0 H0 F2 H' ∧ Ex F1 F2 ∧ F2 A = none ∧ H' A = some (.lst ws) ∧ Reps R F2 acc ws ∧
    lcRun b ft fe (wipeE env vs) (xs.drop i) s2 = some (rest, s') ∧ acc ++ rest = acc0 ++ as, ⟨xs.length, by simp, Nat.zero_le _, F1, s1, acc0, ws0, as, p1, g0, Ex.refl _, hF1A, hH1A, r0, by simpa using e, rfl⟩, ?_⟩
  rintro i k H2 ⟨rfl, hile, F2, s2, acc, ws, rest, p2, g2, e12, hF2A, hH2A, ra, er, ed⟩
  by_cases hilt : i < xs.length
  · refine .inr ⟨it.go i H2 hilt (e12.trans p2.fh), fun H' => i + 1 ≤ xs.length ∧ ∃ (F2 : Hp) (s2 : S) (acc : List D) (ws : List V) (rest : List D), Pre R Z m σ env F2 H' s2 ∧ Grow Z.z F0 H0 F2 H' ∧ Ex F1 F2 ∧ F2 A = none ∧ H' A = some (.lst ws) ∧ Reps R F2 acc ws ∧
      lcRun b ft fe (wipeE env vs) (xs.drop (i + 1)) s2 = some (rest, s') ∧ acc ++ rest = acc0 ++ as, fun H' h => ⟨xs.length - (i + 1), by omega, rfl, h.1, h.2⟩, fun x H3 hy => ?_⟩
    have hd : xs[i]? = some xs[i] := List.getElem?_eq_getElem hilt
    obtain ⟨F3, g3, r3⟩ := it.yld i H2 x H3 F2 _ hd e12 p2.fh hy
    have p3 := p2.next0 g3
    rw [List.drop_eq_getElem_cons hilt] at er
    unfold lcRun at er
    cases eb : b (wipeE env vs) xs[i] with
    | none => rw [eb] at er; cases er
    | some env1 =>
      rw [eb] at er
      simp only at er
      refine hg (wipe σ vs) (wipeE env vs) env1 F3 H3 xs[i] x _ p3.fh r3 (by rw [wipe_length, wipeE_length]; exact hlenE) eb fun σ' l1 l2 kk kk' => ?_
      refine ⟨?_, ?_⟩
      · have := wipe_eq (σ := wipe σ vs) (σ' := σ') vs l1 fun j hj => (kk j hj).1
        rw [this]
        exact wipe_eq vs (wipe_length σ vs) fun j hj => wipe_get σ j vs hj
      have p3' : Pre R Z m σ' env1 F3 H3 s2 := ⟨p3.fh, p3.zf, p3.ok, ⟨fun j d hj hjd => by
        by_cases hjv : j ∈ vs
        · exact kk' j hjv d hjd
        · obtain ⟨c1, c2⟩ := kk j hjv
          rw [c2, wipeE_get env j vs hjv] at hjd
          obtain ⟨v, hv, rv⟩ := p3.sl.sh j d hj hjd
          exact ⟨v, by rw [c1, wipe_get σ j vs hjv]; exact hv, rv⟩, fun hm j ds hdo hjd => by
        by_cases hjv : j ∈ vs
        · obtain ⟨w, _, h⟩ := kk' j hjv _ hjd
          exact rep_ownF h hdo
        · obtain ⟨c1, c2⟩ := kk j hjv
          rw [c2, wipeE_get env j vs hjv] at hjd
          obtain ⟨v, o, hv, rv⟩ := p3.sl.ow hm j ds hdo hjd
          exact ⟨v, o, by rw [c1, wipe_get σ j vs hjv]; exact hv, rv⟩⟩, by rw [l1, l2, wipe_length, wipeE_length]; exact hlenE⟩
      cases et : ft env1 s2 with
      | none => rw [et] at er; cases er
      | some o3 =>
        obtain ⟨c, s3⟩ := o3
        rw [et] at er
        refine ht σ' env1 F3 H3 s2 c s3 _ p3' et fun F4 H4 g4 k4 => ?_
        have p4 := p3'.next g4 k4
        have hA3 : H3 A = some (.lst ws) := g3.ex A _ hH2A
        have hA4 : H4 A = some (.lst ws) := g4.hh A _ hAz hA3
        have nF : ∀ {G G' K K' : Hp} {z : Addr → Prop}, Grow z G K G' K' → G A = none → K A = some (.lst ws) → G' A = none := fun {G G' K K' z} gg h1 h2 => by
          cases e : G' A with
          | none => rfl
          | some o =>
            rcases gg.nw A o e with q | q | ⟨xs, q1, q⟩
            · rw [h1] at q; cases q
            · rw [h2] at q; cases q
            · rw [h2, q1] at q; cases q
        have hF3A := nF g3 hF2A hH2A
        have hF4A := nF g4 hF3A hA3
        have g24 : Grow Z.z F2 H2 F4 H4 := (g3.up (z := Z.z)).trans g4 p3.hz
        cases c with
        | true =>
          show te σ' H4 _
          simp only at er
          cases ee : fe env1 s3 with
          | none => rw [ee] at er; cases er
          | some o5 =>
            obtain ⟨y, s5⟩ := o5
            rw [ee] at er
            simp only at er
            refine he σ' env1 F4 H4 s3 y s5 _ p4 ee fun vy F5 H5 g5 k5 r5 => ?_
            have p5 := p4.next g5 k5
            have hA5 : H5 A = some (.lst ws) := g5.hh A _ hAz hA4
            have hF5A := nF g5 hF4A hA4
            have g25 : Grow Z.z F2 H2 F5 H5 := g24.trans g5 p4.hz
            have hwl : ws.length = acc.length := (ra.length).symm
            cases el : lcRun b ft fe (wipeE env vs) (xs.drop (i + 1)) s5 with
            | none => rw [el] at er; cases er
            | some o6 =>
              obtain ⟨ys, s6⟩ := o6
              rw [el] at er
              simp only [Option.some.injEq, Prod.mk.injEq] at er
              obtain ⟨er1, er2⟩ := er
              subst er1 er2
              have hll : acc.length + (ys.length + 1) = (acc0 ++ as).length := by rw [← ed, List.length_append, List.length_cons]
              refine ⟨ws, hA5, Evl.sz_lt (by omega), ?_⟩
              have e5 : Ex F2 F5 := g25.ff
              refine ⟨hilt, F5, s5, acc ++ [y], ws ++ [vy], ys, ?_, ?_, e12.trans e5, hF5A, upd_same, ((ra.mono e5).append (.cons r5 .nil)), el, by rw [List.append_assoc]; exact ed⟩
              · refine ⟨fun a u h => ?_, p5.zf, ?_, (p2.sl.mono e5), hlenE⟩
                · rw [upd_ne (ne_of_none h hF5A)]
                  exact p5.fh a u h
                · exact Z.keep s5 H5 _ k5 (fun a ha => upd_ne fun z => by subst z; exact hAz ha)
              · exact ⟨fun a o n h => by
                    rw [upd_ne (ne_of_none h hA0)]
                    exact (g2.trans g25 p2.hz).hh a o n h, (g2.trans g25 p2.hz).ff, fun a u h => by
                    rw [upd_ne (ne_of_none h hF5A)]
                    exact p5.fh a u h, (g2.trans g25 p2.hz).nw⟩
        | false =>
          simp only at er
          exact ⟨hilt, F4, s3, acc, ws, rest, ⟨p4.fh, p4.zf, p4.ok, p2.sl.mono g24.ff, hlenE⟩, g2.trans g24 p2.hz, e12.trans g24.ff, hF4A, hA4, ra.mono g24.ff, er, ed⟩
  · have hi' : i = xs.length := by omega
    subst hi'
    refine .inl ⟨it.stop H2 (e12.trans p2.fh), ?_⟩
    rw [List.drop_length] at er
    simp only [lcRun, Option.some.injEq, Prod.mk.injEq] at er
    obtain ⟨er1, er2⟩ := er
    subst er1 er2
    rw [List.append_nil] at ed
    subst ed
    exact q F2 H2 ws p2 g2 e12 hF2A hH2A ra
end
section
variable {S : Type}
def lc2Run (b : Bd) (ft : Fn S Bool) (fi1 : Fn S (List D)) (vs1 : List Nat) (b1 : Bd) (ft1 : Fn S Bool) (fe : Fn S D) (env : Env) : List D → S → Option (List D × S)
  | [], s => some ([], s)
  | x :: xs, s => match b env x with
    | none => none
    | some env1 => match ft env1 s with
      | none => none
      | some (true, s1) => match fi1 env1 s1 with
        | none => none
        | some (ys, s2) => match lcRun b1 ft1 fe (wipeE env1 vs1) ys s2 with
          | none => none
          | some (as, s3) => match lc2Run b ft fi1 vs1 b1 ft1 fe env xs s3 with
            | none => none
            | some (bs, s4) => some (as ++ bs, s4)
      | some (false, s1) => lc2Run b ft fi1 vs1 b1 ft1 fe env xs s1
def fLc2 (fi : Fn S (List D)) (b : Bd) (ft : Fn S Bool) (fi1 : Fn S (List D)) (b1 : Bd) (ft1 : Fn S Bool) (fe : Fn S D) (vs vs1 : List Nat) : Fn S (List D) := fun env s => match fi env s with
  | none => none
  | some (xs, s1) => match lc2Run b ft fi1 vs1 b1 ft1 fe (wipeE env vs) xs s1 with
    | none => none
    | some (ds, s2) => if ds.length ≤ 100000 then some (ds, s2) else none
end
section
variable {S : Type} {R : RC} {Z : SK S} {m : Bool} {wi wi1 : TI} {fi fi1 : Fn S (List D)} {g g1 : TG} {b b1 : Bd} {tt tt1 : TT} {ft ft1 : Fn S Bool} {te : TE} {fe : Fn S D} {vs vs1 : List Nat}
theorem EVl.lc2 {us0 : List Nat} (hws : ∀ i, i ∈ us0 → i ∈ vs) (hi : EVi R Z m wi fi) (hg : EVg R us0 g b) (ht : EVt R Z m tt ft) (hi1 : EVi R Z m wi1 fi1) (hg1 : EVg R vs1 g1 b1) (ht1 : EVt R Z m tt1 ft1) (he : EV R Z m te fe) : EVl R Z m (tLc2 wi g tt wi1 g1 tt1 te vs vs1) (fLc2 fi b ft fi1 b1 ft1 fe vs vs1) := by
  intro σ env F H s ds s' Q p e q
  have hlen := p.len
  unfold fLc2 at e
  cases h1 : fi env s with
  | none => rw [h1] at e; cases e
  | some o1 =>
    obtain ⟨xs, s1⟩ := o1
    rw [h1] at e
    simp only at e
    cases h2 : lc2Run b ft fi1 vs1 b1 ft1 fe (wipeE env vs) xs s1 with
    | none => rw [h2] at e; cases e
    | some o2 =>
    obtain ⟨ds2, s2⟩ := o2
    rw [h2] at e
    simp only at e
    split at e
    case isFalse => cases e
    rename_i hds
    cases e
    refine hi σ env F H s xs s1 _ p h1 fun J F1 H1 g1 k1 it => ?_
    have p1 := p.next g1 k1
    intro A hA
    have hAz : ¬ Z.z A := fun z => (p1.hz A z).1 hA
    have hA0 : H A = none := by
      cases e : H A with
      | none => rfl
      | some o => rw [g1.hh A o hAz e] at hA; cases hA
    have hF1A : F1 A = none := Ex.none p1.fh hA
    have gn : Gr0 F1 H1 F1 (upd H1 A (.lst [])) := Gr0.newH p1.fh hA
    refine ⟨fun i k H' => k = xs.length - i ∧ i ≤ xs.length ∧ ∃ (F2 : Hp) (s2 : S) (acc : List D) (ws : List V) (rest : List D), Pre R Z m σ env F2 H' s2 ∧ Grow Z.z F H F2 H' ∧ Ex F1 F2 ∧ F2 A = none ∧ H' A = some (.lst ws) ∧ Reps R F2 acc ws ∧
      lc2Run b ft fi1 vs1 b1 ft1 fe (wipeE env vs) (xs.drop i) s2 = some (rest, s') ∧ acc ++ rest = ds, ⟨xs.length, by simp, Nat.zero_le _, F1, s1, [], [], ds, p1.next0 gn, g1.trans gn.up p1.hz, Ex.refl _, hF1A, upd_same, .nil, by simpa using h2, rfl⟩, ?_⟩
    rintro i k H2 ⟨rfl, hile, F2, s2, acc, ws, rest, p2, g2, e12, hF2A, hH2A, ra, er, ed⟩
    by_cases hilt : i < xs.length
    · refine .inr ⟨it.go i H2 hilt (e12.trans p2.fh), fun H' => i + 1 ≤ xs.length ∧ ∃ (F2 : Hp) (s2 : S) (acc : List D) (ws : List V) (rest : List D), Pre R Z m σ env F2 H' s2 ∧ Grow Z.z F H F2 H' ∧ Ex F1 F2 ∧ F2 A = none ∧ H' A = some (.lst ws) ∧ Reps R F2 acc ws ∧
        lc2Run b ft fi1 vs1 b1 ft1 fe (wipeE env vs) (xs.drop (i + 1)) s2 = some (rest, s') ∧ acc ++ rest = ds, fun H' h => ⟨xs.length - (i + 1), by omega, rfl, h.1, h.2⟩, fun x H3 hy => ?_⟩
      have hd : xs[i]? = some xs[i] := List.getElem?_eq_getElem hilt
      obtain ⟨F3, g3, r3⟩ := it.yld i H2 x H3 F2 _ hd e12 p2.fh hy
      have p3 := p2.next0 g3
      rw [List.drop_eq_getElem_cons hilt] at er
      unfold lc2Run at er
      cases eb : b (wipeE env vs) xs[i] with
      | none => rw [eb] at er; cases er
      | some env1 =>
        rw [eb] at er
        simp only at er
        refine hg (wipe σ vs) (wipeE env vs) env1 F3 H3 xs[i] x _ p3.fh r3 (by rw [wipe_length, wipeE_length]; exact hlen) eb fun σ' l1 l2 kk kk' => ?_
        refine ⟨?_, ?_⟩
        · have := wipe_eq (σ := wipe σ vs) (σ' := σ') vs l1 fun j hj => (kk j fun z => hj (hws j z)).1
          rw [this]
          exact wipe_eq vs (wipe_length σ vs) fun j hj => wipe_get σ j vs hj
        have p3' : Pre R Z m σ' env1 F3 H3 s2 := ⟨p3.fh, p3.zf, p3.ok, ⟨fun j d hj hjd => by
          by_cases hjv : j ∈ vs
          · by_cases hjw : j ∈ us0
            · exact kk' j hjw d hjd
            · obtain ⟨c1, c2⟩ := kk j hjw
              rw [c2] at hjd
              exact absurd hjd (wipeE_none env j vs hjv d)
          · obtain ⟨c1, c2⟩ := kk j fun z => hjv (hws j z)
            rw [c2, wipeE_get env j vs hjv] at hjd
            obtain ⟨v, hv, rv⟩ := p3.sl.sh j d hj hjd
            exact ⟨v, by rw [c1, wipe_get σ j vs hjv]; exact hv, rv⟩, fun hm j ds hdo hjd => by
          by_cases hjv : j ∈ vs
          · by_cases hjw : j ∈ us0
            · obtain ⟨w, _, h⟩ := kk' j hjw _ hjd
              exact rep_ownF h hdo
            · obtain ⟨c1, c2⟩ := kk j hjw
              rw [c2] at hjd
              exact absurd hjd (wipeE_none env j vs hjv _)
          · obtain ⟨c1, c2⟩ := kk j fun z => hjv (hws j z)
            rw [c2, wipeE_get env j vs hjv] at hjd
            obtain ⟨v, o, hv, rv⟩ := p3.sl.ow hm j ds hdo hjd
            exact ⟨v, o, by rw [c1, wipe_get σ j vs hjv]; exact hv, rv⟩⟩, by rw [l1, l2, wipe_length, wipeE_length]; exact hlen⟩
        cases et : ft env1 s2 with
        | none => rw [et] at er; cases er
        | some o3 =>
          obtain ⟨c, s3⟩ := o3
          rw [et] at er
          refine ht σ' env1 F3 H3 s2 c s3 _ p3' et fun F4 H4 g4 k4 => ?_
          have p4 := p3'.next g4 k4
          have hA3 : H3 A = some (.lst ws) := g3.ex A _ hH2A
          have hA4 : H4 A = some (.lst ws) := g4.hh A _ hAz hA3
          have nF : ∀ {G G' K K' : Hp} {z : Addr → Prop}, Grow z G K G' K' → G A = none → K A = some (.lst ws) → G' A = none := fun {G G' K K' z} gg h1 h2 => by
            cases e : G' A with
            | none => rfl
            | some o =>
              rcases gg.nw A o e with q | q | ⟨xs, q1, q⟩
              · rw [h1] at q; cases q
              · rw [h2] at q; cases q
              · rw [h2, q1] at q; cases q
          have hF3A := nF g3 hF2A hH2A
          have hF4A := nF g4 hF3A hA3
          have g24 : Grow Z.z F2 H2 F4 H4 := (g3.up (z := Z.z)).trans g4 p3.hz
          cases c with
          | false =>
            simp only at er
            exact ⟨hilt, F4, s3, acc, ws, rest, ⟨p4.fh, p4.zf, p4.ok, p2.sl.mono g24.ff, hlen⟩, g2.trans g24 p2.hz, e12.trans g24.ff, hF4A, hA4, ra.mono g24.ff, er, ed⟩
          | true =>
            simp only at er
            cases ei : fi1 env1 s3 with
            | none => rw [ei] at er; cases er
            | some o5 =>
              obtain ⟨ys, s5⟩ := o5
              rw [ei] at er
              simp only at er
              cases el : lcRun b1 ft1 fe (wipeE env1 vs1) ys s5 with
              | none => rw [el] at er; cases er
              | some o6 =>
                obtain ⟨as, s6⟩ := o6
                rw [el] at er
                simp only at er
                cases e2 : lc2Run b ft fi1 vs1 b1 ft1 fe (wipeE env vs) (xs.drop (i + 1)) s6 with
                | none => rw [e2] at er; cases er
                | some o7 =>
                  obtain ⟨bs, s7⟩ := o7
                  rw [e2] at er
                  simp only [Option.some.injEq, Prod.mk.injEq] at er
                  obtain ⟨er1, er2⟩ := er
                  subst er1 er2
                  refine hi1 σ' env1 F4 H4 s3 ys s5 _ p4 ei fun J1 F5 H5 g5 k5 it1 => ?_
                  have p5 := p4.next g5 k5
                  have hA5 : H5 A = some (.lst ws) := g5.hh A _ hAz hA4
                  have hF5A := nF g5 hF4A hA4
                  have g25 : Grow Z.z F2 H2 F5 H5 := g24.trans g5 p4.hz
                  refine lc_loop hg1 ht1 he p5 (g2.trans g25 p2.hz) p.hz hA0 hF5A hA5 (ra.mono g25.ff) it1 el (by
                    have : (acc ++ (as ++ bs)).length ≤ 100000 := by rw [ed]; exact hds
                    rw [← List.append_assoc, List.length_append] at this
                    omega) fun F6 H6 ws6 p6 g6 x6 n6 h6 r6 => ?_
                  exact ⟨hilt, F6, s6, acc ++ as, ws6, bs, ⟨p6.fh, p6.zf, p6.ok, (p2.sl.mono g25.ff).mono x6, hlen⟩, g6, (e12.trans g25.ff).trans x6, n6, h6, r6, e2, by rw [List.append_assoc]; exact ed⟩
    · have hi' : i = xs.length := by omega
      subst hi'
      refine .inl ⟨it.stop H2 (e12.trans p2.fh), ?_⟩
      rw [List.drop_length] at er
      simp only [lc2Run, Option.some.injEq, Prod.mk.injEq] at er
      obtain ⟨er1, er2⟩ := er
      subst er1 er2
      rw [List.append_nil] at ed
      subst ed
      exact q A ws F2 H2 g2 p2.ok hA0 hF2A hH2A ra
end
end SL
/-! Sem12: exchange of items, parallel assignment, +=, wrappers. -/
namespace SL
open PySem L2
open Evl (Ex)
/-! ### xs[i] += e -/
def rGetL (K : PySem.W.Frag) : V → V → Hp → VK → Prop := fun o i H Q => ∃ (p : Addr) (xs : List V) (k : Int) (v : V), o = .ref p ∧ i = .int k ∧ SqL K H p xs ∧ 0 ≤ k ∧ xs[k.toNat]? = some v ∧ Q v H
theorem get_list {X : Cx} : PGet X (rGetL X.K) := by
  intro pins s σ H o i ov iv Q I ro ri h
  obtain ⟨p, xs, k, v, rfl, rfl, hs, hk, hv, q⟩ := h
  obtain rfl : ov = .ref p := ro
  obtain ⟨t, rfl⟩ := ri
  obtain ⟨its, rv, pl, hz⟩ := I.list hs
  obtain ⟨u, hu, ru⟩ := rv.get hv
  have hlt : k.toNat < xs.length := (List.getElem?_eq_some_iff.mp hv).1
  have hsz : (k.toNat : Int) < 2 ^ 63 := by
    have : xs.length ≤ sizeLine := hz
    have h2 : (sizeLine : Int) < 2 ^ 63 := by decide
    omega
  exact wpAny_getItem_list pl.isList hk (by omega) (by simpa using hu) ⟨v, H, I, ru, q⟩
section
variable {S : Type}
/-- y[k] op= e, y an own slot -/
def sAugS (g : D → D → Option D) (i : Nat) (fk fe : Fn S D) : Stm S := fun env s => match fk env s with
  | some (.int k, s1) => match fe env s1 with
    | none => none
    | some (d, s2) => match env[i]? with
      | some (some (.own ds)) => if 0 ≤ k then match ds[k.toNat]? with
        | some x => match g x d with
          | some y => some (.nx (env.set i (some (.own (ds.set k.toNat y)))), s2)
          | none => none
        | none => none else none
      | _ => none
  | _ => none
/-- x op= e, x a shared slot -/
def sAug (g : D → D → Option D) (i : Nat) (fe : Fn S D) : Stm S := fun env s => match env[i]? with
  | some (some x) => if x.isOwn then none else match fe env s with
    | none => none
    | some (d, s1) => match g x d with
      | some y => some (.nx (env.set i (some y)), s1)
      | none => none
  | _ => none
end
/-- the plain += of ints -/
def IpE (R : RC) (r : TIp) (g : D → D → Option D) : Prop := ∀ F H x y vx vy d (Q : VK), Ex F H → Rep R F x vx → Rep R F y vy → g x y = some d → (∀ v, Rep R F d v → Q v H) → r vx vy H Q
def gAddI (x y : D) : Option D := match x, y with
  | .int i, .int j => some (.int (i + j))
  | _, _ => none
theorem ipe_add {R : RC} : IpE R (ipI fun i j => i + j) gAddI := by
  intro F H x y vx vy d Q e rx ry hg q
  unfold gAddI at hg
  split at hg
  · cases hg
    cases rx
    cases ry
    exact ⟨_, _, rfl, rfl, q _ (.int _)⟩
  · cases hg
theorem ipe_sub {R : RC} : IpE R (ipI fun i j => i - j) gSub := by
  intro F H x y vx vy d Q e rx ry hg q
  unfold gSub at hg
  split at hg
  · cases hg
    cases rx
    cases ry
    exact ⟨_, _, rfl, rfl, q _ (.int _)⟩
  · cases hg
section
variable {S : Type} {R : RC} {Z : SK S} {te tk : TE} {fe fk : Fn S D} {r : TIp} {g : D → D → Option D}
theorem ST.aug {i : Nat} (h : ES R Z te fe) (hr : IpE R r g) : ST R Z (tAug i te r) (sAug g i fe) := fun F0 H0 σ env F H s o s' D p e q => by
  unfold sAug at e
  split at e
  case h_2 => cases e
  rename_i x hx
  split at e
  case isTrue => cases e
  rename_i hn
  rw [Bool.not_eq_true] at hn
  split at e
  case h_1 => cases e
  rename_i d s1 e1
  split at e
  case h_2 => cases e
  rename_i y hy
  cases e
  obtain ⟨v, hv, rv⟩ := p.sh i x hn hx
  refine ⟨v, hv, ?_⟩
  refine h F0 H0 σ env F H s d _ _ p e1 fun w F' H' p' x' rw_ => ?_
  refine hr F' H' x d v w y _ p'.gr.fh (rv.mono x') rw_ hy fun z rz => ?_
  have hl : i < env.length := (List.getElem?_eq_some_iff.mp hx).1
  refine q (σ.set i (some z)) F' H' (p'.bound (ws := [i]) (by simp) (by simp) (fun k hk => ?_) fun k hk x hx => ?_) x'
  · have : i ≠ k := fun z => hk (by simp [z])
    rw [List.getElem?_set_ne this, List.getElem?_set_ne this]
    exact ⟨rfl, rfl⟩
  · have : k = i := by simpa using hk
    subst this
    rw [List.getElem?_set_self hl] at hx
    cases hx
    exact ⟨z, List.getElem?_set_self (by rw [p'.len]; exact hl), rz⟩
theorem ST.augS {i : Nat} (hk : ES R Z tk fk) (h : ES R Z te fe) (hr : IpE R r g) : ST R Z (tAugS (tVar i) tk te (rGetL R.K) r rSetL) (sAugS g i fk fe) := fun F0 H0 σ env F H s o s' D p e q => by
  unfold sAugS at e
  split at e
  case h_2 => cases e
  rename_i k s1 e1
  split at e
  case h_1 => cases e
  rename_i d s2 e2
  split at e
  case h_2 => cases e
  rename_i ds he
  split at e
  case isFalse => cases e
  rename_i hk0
  split at e
  case h_2 => cases e
  rename_i x hx
  split at e
  case h_2 => cases e
  rename_i y hy
  cases e
  obtain ⟨a, vs, c2, c3, c4, c5, c6⟩ := p.owL i ds he
  refine ⟨.ref a, c2, ?_⟩
  refine hk F0 H0 σ env F H s _ _ _ p e1 fun w F1 H1 p1 x1 r1 => ?_
  cases r1
  obtain ⟨a', vs1, c2', c3', c4', c5', c6'⟩ := p1.owL i ds he
  rw [c2] at c2'
  cases c2'
  obtain ⟨v, hv, rv⟩ := c6'.get hx
  refine ⟨a, vs1, k, v, rfl, rfl, SqL.of c3', hk0, hv, ?_⟩
  refine h F0 H0 σ env F1 H1 s1 d _ _ p1 e2 fun w F2 H2 p2 x2 r2 => ?_
  obtain ⟨a', vs2, d2, d3, d4, d5, d6⟩ := p2.owL i ds he
  rw [c2] at d2
  cases d2
  refine hr F2 H2 x d v w y _ p2.gr.fh (rv.mono x2) r2 hy fun z rz => ?_
  have hlt : k.toNat < ds.length := (List.getElem?_eq_some_iff.mp hx).1
  refine ⟨a, vs2, k, k.toNat, rfl, rfl, d3, ?_, ?_⟩
  · show ixN vs2.length k = some k.toNat
    have : ixD ds.length k = some k.toNat := by
      unfold ixD
      rw [if_pos hk0, if_pos (by omega)]
    rw [← d6.length]
    exact ixD_eq this
  · exact q σ F2 _ (p2.setOwn he c2 (d6.set rz k.toNat)) (x1.trans x2)
end
/-! ### a[i], a[j] = .. -/
section
variable {S : Type}
/-- y[k1], y[k2] = a, b; y an own slot -/
def sSwap (i j : Nat) (fk1 fk2 : Fn S D) (fa : Fn S (List D)) : Stm S := fun env s => match fa env s with
  | some ([x, y], s1) => match fk1 env s1 with
    | some (.int k1, s2) => match env[i]? with
      | some (some (.own ds)) => match ixD ds.length k1 with
        | some n1 => match fk2 (env.set i (some (.own (ds.set n1 x)))) s2 with
          | some (.int k2, s3) => match (env.set i (some (.own (ds.set n1 x))))[j]? with
            | some (some (.own es)) => match ixD es.length k2 with
              | some n2 => some (.nx ((env.set i (some (.own (ds.set n1 x)))).set j (some (.own (es.set n2 y)))), s3)
              | none => none
            | _ => none
          | _ => none
        | none => none
      | _ => none
    | _ => none
  | _ => none
end
/-- evaluations of lists of values within statements -/
def ESa {S : Type} (R : RC) (Z : SK S) (t : TA) (f : Fn S (List D)) : Prop := ∀ F0 H0 σ env F H s ds s' Q, SI R Z F0 H0 σ env F H s → f env s = some (ds, s') →
  (∀ vs F' H', SI R Z F0 H0 σ env F' H' s' → Ex F F' → Reps R F' ds vs → Q vs H') → t σ H Q
section
variable {S : Type} {R : RC} {Z : SK S} {ta : TA} {fr : Fn S (List D)} {tk tl : TE} {fk fl : Fn S D}
theorem ESa.mA (h : EVa R Z false ta fr) : ESa R Z ta fr := fun F0 H0 σ env F H s d s' Q p e q =>
  h σ env F H s d s' Q p.preA e fun v F' H' g k r => q v F' H' (p.next g k) g.ff r
theorem ESa.mB (h : EVa R Z true ta fr) : ESa R Z ta (fFlats fr) := fun F0 H0 σ env F H s d s' Q p e q => by
  unfold fFlats at e
  cases e1 : fr env s with
  | none => rw [e1] at e; cases e
  | some o =>
    obtain ⟨d1, s1⟩ := o
    rw [e1] at e
    simp only at e
    split at e
    · rename_i hf
      cases e
      exact h σ env _ H s _ _ Q p.preB e1 fun v F' H' g k r => q v _ H' (p.nextB g k) (p.growB g).ff (r.flat (p.unL g) hf)
    · cases e
theorem ST.swap {i j : Nat} (h : ESa R Z ta fr) (hk : ES R Z tk fk) (hl : ES R Z tl fl) : ST R Z (tAsg (tTup ta) (gTup R.K 2 (gCons (L2.gSub (tVar i) tk rSetL) (gCons (L2.gSub (tVar j) tl rSetL) gNil)))) (sSwap i j fk fl fr) := fun F0 H0 σ env F H s o s' D p e q => by
  unfold sSwap at e
  split at e
  case h_2 => cases e
  rename_i x y s1 e1
  split at e
  case h_2 => cases e
  rename_i k1 s2 e2
  split at e
  case h_2 => cases e
  rename_i ds he
  split at e
  case h_2 => cases e
  rename_i n1 hn1
  split at e
  case h_2 => cases e
  rename_i k2 s3 e3
  split at e
  case h_2 => cases e
  rename_i es hes
  split at e
  case h_2 => cases e
  rename_i n2 hn2
  cases e
  refine h F0 H0 σ env F H s _ _ _ p e1 fun us F1 H1 p1 x1 r1 => ?_
  obtain ⟨v, w, rfl, rv, rw_⟩ := r1.two
  refine ⟨sz5 (by show 2 ≤ 100000; omega), fun t ht => ?_⟩
  have g2 : Gr0 F1 H1 (upd F1 t (.tup [v, w])) (upd H1 t (.tup [v, w])) := Gr0.new p1.gr.fh ht
  have p2 := p1.next g2.up (Z.grow p1.ok g2)
  refine ⟨t, [v, w], rfl, SqT.of upd_same, rfl, v, [w], rfl, ?_⟩
  obtain ⟨a, vs, c2, c3, c4, c5, c6⟩ := p2.owL i ds he
  refine ⟨.ref a, c2, ?_⟩
  refine hk F0 H0 σ env _ _ s1 _ _ _ p2 e2 fun z F3 H3 p3 x3 r3 => ?_
  cases r3
  obtain ⟨a', vs3, c2', c3', c4', c5', c6'⟩ := p3.owL i ds he
  rw [c2] at c2'
  cases c2'
  refine ⟨a, vs3, k1, n1, rfl, rfl, c3', by rw [← c6'.length]; exact ixD_eq hn1, ?_⟩
  have rv3 := (rv.mono g2.ff).mono x3
  have rw3 := (rw_.mono g2.ff).mono x3
  have p4 := p3.setOwn he c2 (c6'.set rv3 n1)
  refine ⟨w, [], rfl, ?_⟩
  obtain ⟨b, us, d2, d3, d4, d5, d6⟩ := p4.owL j es hes
  refine ⟨.ref b, d2, ?_⟩
  refine hl F0 H0 σ _ _ _ s2 _ _ _ p4 e3 fun z F5 H5 p5 x5 r5 => ?_
  cases r5
  obtain ⟨b', us5, d2', d3', d4', d5', d6'⟩ := p5.owL j es hes
  rw [d2] at d2'
  cases d2'
  refine ⟨b, us5, k2, n2, rfl, rfl, d3', by rw [← d6'.length]; exact ixD_eq hn2, ?_⟩
  exact ⟨rfl, q σ F5 _ (p5.setOwn hes d2 (d6'.set (rw3.mono x5) n2)) (((x1.trans g2.ff).trans x3).trans x5)⟩
/-- x, y = a, b -/
def sPar (i j : Nat) (fr : Fn S (List D)) : Stm S := fun env s => match fr env s with
  | some ([x, y], s1) => if i < env.length ∧ j < env.length then some (.nx ((env.set i (some x)).set j (some y)), s1) else none
  | _ => none
theorem ST.par {i j : Nat} (h : ESa R Z ta fr) : ST R Z (tPar i j ta) (sPar i j fr) := fun F0 H0 σ env F H s o s' D p e q => by
  unfold sPar at e
  split at e
  case h_2 => cases e
  rename_i x y s1 e1
  split at e
  case isFalse => cases e
  rename_i hl
  cases e
  refine h F0 H0 σ env F H s _ _ _ p e1 fun us F1 H1 p1 x1 r1 => ?_
  obtain ⟨v, w, rfl, rv, rw_⟩ := r1.two
  refine ⟨v, w, rfl, ?_⟩
  have hs := p1.len
  refine q _ F1 H1 (p1.bound (ws := [i, j]) (by simp) (by simp) (fun k hk => ?_) fun k hk x' hx => ?_) x1
  · simp only [List.mem_cons, List.not_mem_nil, or_false, not_or] at hk
    rw [List.getElem?_set_ne (Ne.symm hk.2), List.getElem?_set_ne (Ne.symm hk.1), List.getElem?_set_ne (Ne.symm hk.2), List.getElem?_set_ne (Ne.symm hk.1)]
    exact ⟨rfl, rfl⟩
  · by_cases hj : j = k
    · subst hj
      rw [List.getElem?_set_self (by simpa using hl.2)] at hx
      cases hx
      exact ⟨w, List.getElem?_set_self (by simp; omega), rw_⟩
    · have : i = k := by
        simp only [List.mem_cons, List.not_mem_nil, or_false] at hk
        rcases hk with hk | hk
        · exact hk.symm
        · exact absurd hk.symm hj
      subst this
      rw [List.getElem?_set_ne hj, List.getElem?_set_self hl.1] at hx
      cases hx
      exact ⟨v, by rw [List.getElem?_set_ne hj, List.getElem?_set_self (by omega)], rv⟩
end
end SL
/-! Sem13: wrappers: one rule a construct. -/
namespace SL
open PySem L2
open Evl (Ex)
section
variable {S : Type} {T : CT} {Z : SK S} {m : Bool} {a b c e o : Expr} {es : List Expr} {fa fb fc fe fo fk fl : Fn S D} {fr : Fn S (List D)} {ft fu : Fn S Bool} {pos p p2 p3 apos cpos pos' : Pos} {tg : Expr}
theorem SE.band (ha : SE T Z m a fa) (hb : SE T Z m b fb) : SE T Z m (.BinOp a .BitAnd b pos) (fOp gAnd fa fb) := SE.op (fun X h => op_and) e_and ha hb
theorem SE.bxor (ha : SE T Z m a fa) (hb : SE T Z m b fb) : SE T Z m (.BinOp a .BitXor b pos) (fOp gXor fa fb) := SE.op (fun X h => op_xor) e_xor ha hb
theorem SE.shl (ha : SE T Z m a fa) (hb : SE T Z m b fb) : SE T Z m (.BinOp a .LShift b pos) (fOp gShl fa fb) := SE.op (fun X h => op_shl) e_shl ha hb
theorem SE.shr (ha : SE T Z m a fa) (hb : SE T Z m b fb) : SE T Z m (.BinOp a .RShift b pos) (fOp gShr fa fb) := SE.op (fun X h => op_shr) e_shr ha hb
theorem SE.pow (ha : SE T Z m a fa) (hb : SE T Z m b fb) : SE T Z m (.BinOp a .Pow b pos) (fOp gPow fa fb) := SE.op (fun X h => op_pow) e_pow ha hb
theorem SE.rep (ha : SE T Z m a fa) (hb : SE T Z m b fb) : SE T Z m (.BinOp a .Mult b pos) (fOp gRep fa fb) := SE.op (r := rRepT T.R.K) (fun X h => by rw [← h.K]; exact op_repT) e_rep ha hb
theorem SN.rep (ha : SN T Z m a fr) (hb : SE T Z m b fb) : SN T Z m (.BinOp a .Mult b pos) (fRepL fr fb) := by
  obtain ⟨ta, pa, ea⟩ := ha
  obtain ⟨tb, pb, eb⟩ := hb
  exact ⟨_, fun X h => pe_op op_rep (pa X h) (pb X h), EVl.rep ea eb⟩
theorem SE.isB (ha : SE T Z m a fa) (hb : SE T Z m b fb) (hm : behindInMarks .Is b = false := by rfl) : SE T Z m (.Compare a [.Is] [b] pos) (fOp gIsB fa fb) := SE.cmp (fun X h => op_isBl) e_isB ha hb hm
theorem SE.notB (ha : SE T Z m a fa) (hb : SE T Z m b fb) (hm : behindInMarks .IsNot b = false := by rfl) : SE T Z m (.Compare a [.IsNot] [b] pos) (fOp gIsNotB fa fb) := SE.cmp (fun X h => op_notBl) e_isNotB ha hb hm
abbrev GlB (T : CT) (x : String) : Prop := List.lookup (Str.ofString x) T.sc.names = some NameKind.globalImplicit
abbrev Sta (es : List Expr) (pos : Pos) : Prop := ∀ env : PySem.Env, ((backTo pos (starEach es env)).any fun x => x.fst) = false
theorem SE.len (mx : T.mg (Str.ofString "len") = none) (hA : SA T Z m [e] fr) (gx : GlB T "len" := by rfl) (hs : ∀ env, starEach [e] env = (false, eval e env) :: starEach [] env := by exact fun _ => rfl) : SE T Z m (.Call (.Name (Str.ofString "len") p) [e] [] pos) (fCall gLen fr) := SE.callB (r := rLenX T.R.K) (fun X h => by rw [← h.K]; exact call_lenX) c_len mx (by rfl) hA gx (by decide) (by rfl) hs (fun _ => rfl)
theorem SE.abs (mx : T.mg (Str.ofString "abs") = none) (hA : SA T Z m [e] fr) (gx : GlB T "abs" := by rfl) (hs : ∀ env, starEach [e] env = (false, eval e env) :: starEach [] env := by exact fun _ => rfl) : SE T Z m (.Call (.Name (Str.ofString "abs") p) [e] [] pos) (fCall gAbs fr) := SE.callB (fun X h => call_absX) c_abs mx (by rfl) hA gx (by decide) (by rfl) hs (fun _ => rfl)
theorem SE.sum (mx : T.mg (Str.ofString "sum") = none) (hA : SA T Z m [e] fr) (gx : GlB T "sum" := by rfl) (hs : ∀ env, starEach [e] env = (false, eval e env) :: starEach [] env := by exact fun _ => rfl) : SE T Z m (.Call (.Name (Str.ofString "sum") p) [e] [] pos) (fCall gSum fr) := SE.callB (r := rSum T.R.K) (fun X h => by rw [← h.K]; exact cr_sum h.calm) c_sum mx (by rfl) hA gx (by decide) (by rfl) hs (fun _ => rfl)
theorem SE.any (mx : T.mg (Str.ofString "any") = none) (hA : SA T Z m [e] fr) (gx : GlB T "any" := by rfl) (hs : ∀ env, starEach [e] env = (false, eval e env) :: starEach [] env := by exact fun _ => rfl) : SE T Z m (.Call (.Name (Str.ofString "any") p) [e] [] pos) (fCall gAny fr) := SE.callB (r := rAnyX T.R.K) (fun X h => by rw [← h.K]; exact call_anyX h.calm) c_any mx (by rfl) hA gx (by decide) (by rfl) hs (fun _ => rfl)
theorem SE.all (mx : T.mg (Str.ofString "all") = none) (hA : SA T Z m [e] fr) (gx : GlB T "all" := by rfl) (hs : ∀ env, starEach [e] env = (false, eval e env) :: starEach [] env := by exact fun _ => rfl) : SE T Z m (.Call (.Name (Str.ofString "all") p) [e] [] pos) (fCall gAll fr) := SE.callB (r := rAllX T.R.K) (fun X h => by rw [← h.K]; exact call_allX h.calm) c_all mx (by rfl) hA gx (by decide) (by rfl) hs (fun _ => rfl)
theorem SE.max1 (mx : T.mg (Str.ofString "max") = none) (hA : SA T Z m [e] fr) (gx : GlB T "max" := by rfl) (hs : ∀ env, starEach [e] env = (false, eval e env) :: starEach [] env := by exact fun _ => rfl) : SE T Z m (.Call (.Name (Str.ofString "max") p) [e] [] pos) (fCall gMax1 fr) := SE.callB (r := rMM T.R.K maxI) (fun X h => by rw [← h.K]; exact call_max1 h.calm h.hu) c_max1 mx (by rfl) hA gx (by decide) (by rfl) hs (fun _ => rfl)
theorem SE.min1 (mx : T.mg (Str.ofString "min") = none) (hA : SA T Z m [e] fr) (gx : GlB T "min" := by rfl) (hs : ∀ env, starEach [e] env = (false, eval e env) :: starEach [] env := by exact fun _ => rfl) : SE T Z m (.Call (.Name (Str.ofString "min") p) [e] [] pos) (fCall gMin1 fr) := SE.callB (r := rMM T.R.K minI) (fun X h => by rw [← h.K]; exact call_min1 h.calm h.hu) c_min1 mx (by rfl) hA gx (by decide) (by rfl) hs (fun _ => rfl)
theorem SE.max2 (mx : T.mg (Str.ofString "max") = none) (hA : SA T Z m [a, e] fr) (gx : GlB T "max" := by rfl) (hs : ∀ env, starEach [a, e] env = (false, eval a env) :: starEach [e] env := by exact fun _ => rfl) (hs2 : Sta [e] pos := by exact fun _ => rfl) : SE T Z m (.Call (.Name (Str.ofString "max") p) [a, e] [] pos) (fCall gMax2 fr) := SE.callB (fun X h => call_max2X h.calm) c_max2 mx (by rfl) hA gx (by decide) (by rfl) hs hs2
theorem SE.min2 (mx : T.mg (Str.ofString "min") = none) (hA : SA T Z m [a, e] fr) (gx : GlB T "min" := by rfl) (hs : ∀ env, starEach [a, e] env = (false, eval a env) :: starEach [e] env := by exact fun _ => rfl) (hs2 : Sta [e] pos := by exact fun _ => rfl) : SE T Z m (.Call (.Name (Str.ofString "min") p) [a, e] [] pos) (fCall gMin2 fr) := SE.callB (fun X h => call_min2X h.calm) c_min2 mx (by rfl) hA gx (by decide) (by rfl) hs hs2
theorem SE.toInt (mx : T.mg (Str.ofString "int") = none) (hA : SA T Z m [e] fr) (gx : GlB T "int" := by rfl) (hs : ∀ env, starEach [e] env = (false, eval e env) :: starEach [] env := by exact fun _ => rfl) : SE T Z m (.Call (.Name (Str.ofString "int") p) [e] [] pos) (fCall gInt fr) := SE.callTy (fun X h => call_intX) c_int mx (by rfl) hA gx (by decide) (by rfl) hs (fun _ => rfl)
theorem SE.tuple (mx : T.mg (Str.ofString "tuple") = none) (hA : SA T Z m [e] fr) (gx : GlB T "tuple" := by rfl) (hs : ∀ env, starEach [e] env = (false, eval e env) :: starEach [] env := by exact fun _ => rfl) : SE T Z m (.Call (.Name (Str.ofString "tuple") p) [e] [] pos) (fCall gTuple fr) := SE.callTy (r := rTupleX T.R.K) (fun X h => by rw [← h.K]; exact call_tupleX) c_tuple mx (by rfl) hA gx (by decide) (by rfl) hs (fun _ => rfl)
theorem SN.toList (mx : T.mg (Str.ofString "list") = none) (ha : SE T Z m a fa) (gx : GlB T "list" := by rfl) (hs : ∀ env, starEach [a] env = (false, eval a env) :: starEach [] env := by exact fun _ => rfl) : SN T Z m (.Call (.Name (Str.ofString "list") p) [a] [] pos) (fList fa) := SN.list mx (by rfl) ha gx (by decide) (by rfl) hs (fun _ => rfl)
theorem gi_int : ∀ x d, gIsiInt x = some d → x.okd 60 = true ∧ d = .bl (PyData.isInt x.p) := fun x d e => by
  unfold gIsiInt at e
  split at e
  · rename_i h
    cases e
    refine ⟨h, ?_⟩
    cases x <;> first | rfl | (simp [D.okd] at h)
  · cases e
theorem gi_bool : ∀ x d, gIsiBool x = some d → x.okd 60 = true ∧ d = .bl (PyData.isBool x.p) := fun x d e => by
  unfold gIsiBool at e
  split at e
  · rename_i h
    cases e
    refine ⟨h, ?_⟩
    cases x <;> first | rfl | (simp [D.okd] at h)
  · cases e
theorem gi_tuple : ∀ x d, gIsiTuple x = some d → x.okd 60 = true ∧ d = .bl (PyData.isTuple x.p) := fun x d e => by
  unfold gIsiTuple at e
  split at e
  · rename_i h
    cases e
    refine ⟨h, ?_⟩
    cases x <;> first | rfl | (simp [D.okd] at h)
  · cases e
theorem SE.isInt (mx : T.mg (Str.ofString "isinstance") = none) (my : T.mg (Str.ofString "int") = none) (ha : SE T Z m a fa) (gx : GlB T "isinstance" := by rfl) (gy : GlB T "int" := by rfl) (hs : ∀ env, starEach [a, .Name (Str.ofString "int") p2] env = (false, eval a env) :: starEach [.Name (Str.ofString "int") p2] env := by exact fun _ => rfl) : SE T Z m (.Call (.Name (Str.ofString "isinstance") p) [a, .Name (Str.ofString "int") p2] [] pos) (fUn gIsiInt fa) :=
  SE.isi (fun X h => by rw [← h.K]; exact call_isiInt) gi_int mx (by rfl) my (by rfl) ha gx (by decide) (by rfl) gy (by decide) (by rfl) hs (fun _ => rfl) (fun _ => rfl)
theorem SE.isBool (mx : T.mg (Str.ofString "isinstance") = none) (my : T.mg (Str.ofString "bool") = none) (ha : SE T Z m a fa) (gx : GlB T "isinstance" := by rfl) (gy : GlB T "bool" := by rfl) (hs : ∀ env, starEach [a, .Name (Str.ofString "bool") p2] env = (false, eval a env) :: starEach [.Name (Str.ofString "bool") p2] env := by exact fun _ => rfl) : SE T Z m (.Call (.Name (Str.ofString "isinstance") p) [a, .Name (Str.ofString "bool") p2] [] pos) (fUn gIsiBool fa) :=
  SE.isi (fun X h => by rw [← h.K]; exact call_isiBool) gi_bool mx (by rfl) my (by rfl) ha gx (by decide) (by rfl) gy (by decide) (by rfl) hs (fun _ => rfl) (fun _ => rfl)
theorem SE.isTuple (mx : T.mg (Str.ofString "isinstance") = none) (my : T.mg (Str.ofString "tuple") = none) (ha : SE T Z m a fa) (gx : GlB T "isinstance" := by rfl) (gy : GlB T "tuple" := by rfl) (hs : ∀ env, starEach [a, .Name (Str.ofString "tuple") p2] env = (false, eval a env) :: starEach [.Name (Str.ofString "tuple") p2] env := by exact fun _ => rfl) : SE T Z m (.Call (.Name (Str.ofString "isinstance") p) [a, .Name (Str.ofString "tuple") p2] [] pos) (fUn gIsiTuple fa) :=
  SE.isi (fun X h => by rw [← h.K]; exact call_isiTuple) gi_tuple mx (by rfl) my (by rfl) ha gx (by decide) (by rfl) gy (by decide) (by rfl) hs (fun _ => rfl) (fun _ => rfl)
/-- comprehensions with two fors -/
theorem SN.lc2 {elt iter iter1 tg1 : Expr} {ifs ifs1 : List Expr} {scope : Scope} {own : List (Str × Nat)} {vs0 vs1 : List Nat} {fi fi1 : Fn S (List D)} {bd bd1 : Bd} (hI : SW T Z m tg iter fi) (hB : BlkOk T.N T.sc scope own) (hV : (∀ i, i ∈ vs0 → i ∈ own.map (·.2)) ∧ ∀ i, i ∈ vs1 → i ∈ own.map (·.2)) (hG : SG (T.blk scope) vs0 tg bd) (hQ : SQs (T.blk scope) Z m ifs ft)
    (hI1 : SW (T.blk scope) Z m tg1 iter1 fi1) (hG1 : SG (T.blk scope) vs1 tg1 bd1) (hQ1 : SQs (T.blk scope) Z m ifs1 fu) (hE : SE (T.blk scope) Z m elt fe)
    (hf : ∀ env x, foldedSetIterable iter env x = pure x := by exact fun _ _ => rfl) (hf1 : ∀ env x, foldedSetIterable iter1 env x = pure x := by exact fun _ _ => rfl) : SN T Z m (.ListComp elt [{ target := tg, iter := iter, ifs := ifs, is_async := 0 }, { target := tg1, iter := iter1, ifs := ifs1, is_async := 0 }] scope pos) (fLc2 fi bd ft fi1 bd1 fu fe (own.map (·.2)) vs1) := by
  obtain ⟨ti, pi, ei⟩ := hI
  obtain ⟨tg, pg, eg⟩ := hG
  obtain ⟨tq, pq, eq⟩ := hQ
  obtain ⟨ti1, pi1, ei1⟩ := hI1
  obtain ⟨tg1, pg1, eg1⟩ := hG1
  obtain ⟨tq1, pq1, eq1⟩ := hQ1
  obtain ⟨te, pe, ee⟩ := hE
  exact ⟨_, fun X h => pe_lc2 h.calm h.nd (pi X h) (by rw [h.N, h.sc]; exact hB) hV.2 (fun s H C cl fp => pg _ (h.blk scope s H C cl fp)) (fun s H C cl fp => pq _ (h.blk scope s H C cl fp)) (fun s H C cl fp => pi1 _ (h.blk scope s H C cl fp)) (fun s H C cl fp => pg1 _ (h.blk scope s H C cl fp)) (fun s H C cl fp => pq1 _ (h.blk scope s H C cl fp)) (fun s H C cl fp => pe _ (h.blk scope s H C cl fp)) (hf X.env) hf1, EVl.lc2 hV.1 ei eg eq ei1 eg1 eq1 ee⟩
/-! statements -/
def XA (T : CT) (Z : SK S) (es : List Expr) (f : Fn S (List D)) : Prop := ∃ t, (∀ X, Is T X → PA X es t) ∧ ESa T.R Z t f
theorem XA.mA (h : SA T Z false es fr) : XA T Z es fr := by
  obtain ⟨t, p, ev⟩ := h
  exact ⟨t, p, ESa.mA ev⟩
theorem XA.mB (h : SA T Z true es fr) : XA T Z es (fFlats fr) := by
  obtain ⟨t, p, ev⟩ := h
  exact ⟨t, p, ESa.mB ev⟩
theorem SS.aug {op : Operator} {g : D → D → Option D} {r : TIp} (i : Nat) {x : Str} (hr : ∀ X, PIp X op r) (he : IpE T.R r g) (h : XE T Z a fa) (hx : T.N[i]? = some x := by rfl) (hv : L2.Loc T.sc x := by first | exact .inl rfl | exact .inr rfl) (hf : T.fn x = true ∨ List.lookup x T.sc.names = some NameKind.local := by first | exact .inr rfl | exact .inl rfl) : SS T Z (.AugAssign (.Name x pos') op a pos) (sAug g i fa) := by
  obtain ⟨t, p, ev⟩ := h
  exact ⟨_, fun X h => ps_aug (i := i) h.nd (by rw [h.N]; exact hx) (by rw [h.sc]; exact hv) (p X h) (hr X) (by
    rcases hf with hf | hf
    · exact .inl (h.fn x hf)
    · exact .inr (by rw [h.sc]; exact hf)), ST.aug ev he⟩
abbrev AugOk (i : Expr) : Prop := ∀ (ov iv new : Value), augStore i ov iv new = (do
  holding [new, ov, iv] (setItem ov iv new)
  release [new, ov, iv] []
  pure Flow.next)
theorem SS.augS {op : Operator} {g : D → D → Option D} {r : TIp} (i : Nat) {y : Str} {k : Expr} (hr : ∀ X, PIp X op r) (he : IpE T.R r g) (hk : XE T Z k fk) (h : XE T Z e fe) (hx : T.N[i]? = some y := by rfl) (hv : Vis T.sc y := by first | exact .inl rfl | exact .inr (.inl rfl) | exact .inr (.inr rfl)) (h1 : (y == Str.ofString "__debug__") = false := by rfl) (h2 : (y == Str.ofString "__classdict__") = false := by rfl) (ho : AugOk k := by exact fun _ _ _ => rfl) : SS T Z (.AugAssign (.Subscript (.Name y p2) k p3) op e pos) (sAugS g i fk fe) := by
  obtain ⟨t, p, ev⟩ := h
  obtain ⟨u, q, ew⟩ := hk
  exact ⟨_, fun X h => ps_augS (pv i (by rw [h.N]; exact hx) (by rw [h.sc]; exact hv) h1 h2) (q X h) (by
    have : PGet X (rGetL X.K) := get_list
    rw [h.K] at this
    exact this) (p X h) (hr X) set_list ho, ST.augS ew ev he⟩
theorem SS.swap (i j : Nat) {x y : Str} {k l : Expr} {kt kv : Nat} {p4 p5 pt pv' : Pos} (h : XA T Z [a, b] fr) (hk : XE T Z k fk) (hl : XE T Z l fl) (hx : T.N[i]? = some x := by rfl) (hv : Vis T.sc x := by first | exact .inl rfl | exact .inr (.inl rfl) | exact .inr (.inr rfl)) (h1 : (x == Str.ofString "__debug__") = false := by rfl) (h2 : (x == Str.ofString "__classdict__") = false := by rfl)
    (hy : T.N[j]? = some y := by rfl) (hvy : Vis T.sc y := by first | exact .inl rfl | exact .inr (.inl rfl) | exact .inr (.inr rfl)) (h1y : (y == Str.ofString "__debug__") = false := by rfl) (h2y : (y == Str.ofString "__classdict__") = false := by rfl)
    (ho : SubOk (.Name x p2) k p3 := by exact fun _ _ => rfl) (ho2 : SubOk (.Name y p4) l p5 := by exact fun _ _ => rfl)
    (hs : swapsWithSole [.Tuple [.Subscript (.Name x p2) k p3, .Subscript (.Name y p4) l p5] kt pt] (.Tuple [a, b] kv pv') pos.line (dE T.sc) = pure false := by rfl) (hs2 : swappedStores [.Tuple [.Subscript (.Name x p2) k p3, .Subscript (.Name y p4) l p5] kt pt] (.Tuple [a, b] kv pv') (dE T.sc) = pure none := by rfl)
    (hs3 : ∀ env, List.map (fun x => x.snd) (assignEach [.Tuple [.Subscript (.Name x p2) k p3, .Subscript (.Name y p4) l p5] kt pt] env) = [assign (.Tuple [.Subscript (.Name x p2) k p3, .Subscript (.Name y p4) l p5] kt pt) env] := by exact fun _ => rfl)
    (hq : ∀ env, (assignEach [.Subscript (.Name x p2) k p3, .Subscript (.Name y p4) l p5] env).length = 2 ∧ List.findIdx? (fun x => x.fst) (assignEach [.Subscript (.Name x p2) k p3, .Subscript (.Name y p4) l p5] env) = none ∧ List.map (fun x => x.snd) (assignEach [.Subscript (.Name x p2) k p3, .Subscript (.Name y p4) l p5] env) = assign (.Subscript (.Name x p2) k p3) env :: List.map (fun x => x.snd) (assignEach [.Subscript (.Name y p4) l p5] env) ∧ List.map (fun x => x.snd) (assignEach [.Subscript (.Name y p4) l p5] env) = assign (.Subscript (.Name y p4) l p5) env :: List.map (fun x => x.snd) (assignEach [] env) := by exact fun _ => ⟨rfl, rfl, rfl, rfl⟩) :
    SS T Z (.Assign [.Tuple [.Subscript (.Name x p2) k p3, .Subscript (.Name y p4) l p5] kt pt] (.Tuple [a, b] kv pv') pos) (sSwap i j fk fl fr) := by
  obtain ⟨t, p, ev⟩ := h
  obtain ⟨u, q, ew⟩ := hk
  obtain ⟨u2, q2, ew2⟩ := hl
  exact ⟨_, fun X h => by
    have hg := pg_tup (k := kt) (pos := pt) h.calm (pgs_cons (pg_sub (pv i (by rw [h.N]; exact hx) (by rw [h.sc]; exact hv) h1 h2) (q X h) set_list (ho X.env)) (pgs_cons (pg_sub (pv j (by rw [h.N]; exact hy) (by rw [h.sc]; exact hvy) h1y h2y) (q2 X h) set_list (ho2 X.env)) pgs_nil (hq X.env).2.2.2) (hq X.env).2.2.1) (hq X.env).1 (hq X.env).2.1
    rw [h.K] at hg
    exact ps_asg (pe_tup (p X h)) hg (by rw [sws_dE, h.sc]; exact hs) (by rw [sst_dE, h.sc]; exact hs2) (hs3 X.env), ST.swap ev ew ew2⟩
theorem SS.par (i j : Nat) {x y : Str} {kt kv : Nat} {pt pv' px py : Pos} (h : XA T Z [a, b] fr) (hx : T.N[i]? = some x := by rfl) (hy : T.N[j]? = some y := by rfl) (hij : i ≠ j := by decide) (lx : List.lookup x T.sc.names = some NameKind.local := by rfl) (ly : List.lookup y T.sc.names = some NameKind.local := by rfl)
    (hs2 : swappedStores [.Tuple [.Name x px, .Name y py] kt pt] (.Tuple [a, b] kv pv') (dE T.sc) = pure (some [x, y]) := by rfl) (hs : swapsWithSole [.Tuple [.Name x px, .Name y py] kt pt] (.Tuple [a, b] kv pv') pos.line (dE T.sc) = pure false := by rfl) :
    SS T Z (.Assign [.Tuple [.Name x px, .Name y py] kt pt] (.Tuple [a, b] kv pv') pos) (sPar i j fr) := by
  obtain ⟨t, p, ev⟩ := h
  exact ⟨_, fun X h => ps_par h.calm h.nd (by rw [h.N]; exact hx) (by rw [h.N]; exact hy) hij (by rw [h.sc]; exact lx) (by rw [h.sc]; exact ly) (p X h) (by rw [sst_dE, h.sc]; exact hs2) (by rw [sws_dE, h.sc]; exact hs), ST.par ev⟩
end
end SL
/-! Sem14: tests. -/
namespace SL
open PySem L2
open Evl (Ex)
section
variable {S : Type} {T : CT} {Z : SK S} {m : Bool} {a b c e o : Expr} {es : List Expr} {fa fb fc fe fo fk fl : Fn S D} {fr : Fn S (List D)} {ft fu : Fn S Bool} {pos p p2 p3 apos cpos pos' : Pos} {tg : Expr}
theorem SQ.cmpR {op : CmpOp} {r : R2} {g : D → D → Option D} (h1 : ∀ X, Is T X → OpR X (compareOp op) r) (h2 : OpE T.R r g) (ha : SE T Z m a fa) (hb : SE T Z m b fb) (hm : behindInMarks op b = false) : SQ T Z m (.Compare a [op] [b] pos) (fTest (fOp g fa fb)) := by
  obtain ⟨ta, pa, ea⟩ := ha
  obtain ⟨tb, pb, eb⟩ := hb
  exact ⟨_, fun X h => pt_cmpR (h1 X h) (pa X h) (pb X h) hm, EVt.test (EV.op ea eb h2)⟩
theorem SQ.ord (q : Ord2) {op : CmpOp} (ha : SE T Z m a fa) (hb : SE T Z m b fb) (ho : op = q.op := by rfl) (hm : behindInMarks op b = false := by rfl) : SQ T Z m (.Compare a [op] [b] pos) (fTest (fOp q.g fa fb)) := by
  subst ho
  exact SQ.cmpR (fun X h => q.opr h) q.ope ha hb hm
theorem SQ.in_ (ha : SE T Z m a fa) (hb : SE T Z m b fb) (hm : behindInMarks .In b = false := by rfl) : SQ T Z m (.Compare a [.In] [b] pos) (fTest (fOp gIn fa fb)) := SQ.cmpR (r := rInX T.R.K false) (fun X h => by rw [← h.K]; exact op_inX h.hu) e_in ha hb hm
theorem SQ.notIn (ha : SE T Z m a fa) (hb : SE T Z m b fb) (hm : behindInMarks .NotIn b = false := by rfl) : SQ T Z m (.Compare a [.NotIn] [b] pos) (fTest (fOp gNotIn fa fb)) := SQ.cmpR (r := rInX T.R.K true) (fun X h => by rw [← h.K]; exact op_notInX h.hu) e_notIn ha hb hm
theorem SQ.isB (ha : SE T Z m a fa) (hb : SE T Z m b fb) (hm : behindInMarks .Is b = false := by rfl) : SQ T Z m (.Compare a [.Is] [b] pos) (fTest (fOp gIsB fa fb)) := SQ.cmpR (fun X h => op_isBl) e_isB ha hb hm
theorem SQ.notB (ha : SE T Z m a fa) (hb : SE T Z m b fb) (hm : behindInMarks .IsNot b = false := by rfl) : SQ T Z m (.Compare a [.IsNot] [b] pos) (fTest (fOp gIsNotB fa fb)) := SQ.cmpR (fun X h => op_notBl) e_isNotB ha hb hm
theorem SQ.isN {j : Nat} (ha : SE T Z m a fa) (hm : behindInMarks .Is (.Constant .none j pos') = false := by rfl) : SQ T Z m (.Compare a [.Is] [.Constant .none j pos'] pos) (fTest (fUn gIsN fa)) := by
  obtain ⟨ta, pa, ea⟩ := ha
  exact ⟨_, fun X h => pt_cmp (pc_isN (pa X h)) hm, EVt.tB (EV.isN ea)⟩
theorem SQ.notN {j : Nat} (ha : SE T Z m a fa) (hm : behindInMarks .IsNot (.Constant .none j pos') = false := by rfl) : SQ T Z m (.Compare a [.IsNot] [.Constant .none j pos'] pos) (fTest (fUn gIsNotN fa)) := by
  obtain ⟨ta, pa, ea⟩ := ha
  exact ⟨_, fun X h => pt_cmp (pc_notN (pa X h)) hm, EVt.tB (EV.notN ea)⟩
theorem SQ.chain (q q' : Ord2) {op op' : CmpOp} (ha : SE T Z m a fa) (hb : SE T Z m b fb) (hc : SE T Z m c fc) (ho : op = q.op := by rfl) (ho' : op' = q'.op := by rfl) (hm : lastMarks [op, op'] [b, c] = false := by rfl) : SQ T Z m (.Compare a [op, op'] [b, c] pos) (fTest (fChain q.g q'.g fa fb fc)) := by
  subst ho ho'
  obtain ⟨ta, pa, ea⟩ := ha
  obtain ⟨tb, pb, eb⟩ := hb
  obtain ⟨tc, pc, ec⟩ := hc
  exact ⟨_, fun X h => pt_chain (q.opr h) (q'.opr h) (pa X h) (pb X h) (pc X h) hm, EVt.test (EV.chain ea eb ec q.ope q'.ope)⟩
theorem pt_toW {X : Cx} {op : BoolOp} {t : TT} (h : PT X (.BoolOp op es pos) t) : PW X (.BoolOp op es pos) t := ⟨fun whole pins s σ H Q I k => by
  have := h.run pins s σ H Q I k
  simp only [PySem.isTrue] at this ⊢
  exact this⟩
theorem pt_ofW {X : Cx} {t : TT} (h : PW X e t) : PT X e t := ⟨fun pins s σ H Q I k => h.run _ pins s σ H Q I k⟩
theorem SQ.and {rest : List Expr} (ha : SQ T Z m a ft) (hb : SQ T Z m (.BoolOp .And (b :: rest) pos) fu) : SQ T Z m (.BoolOp .And (a :: b :: rest) pos) (fAnd ft fu) := by
  obtain ⟨ta, pa, ea⟩ := ha
  obtain ⟨tb, pb, eb⟩ := hb
  exact ⟨_, fun X h => pt_ofW (pw_and (pa X h) (pt_toW (pb X h))), EVt.and ea eb⟩
theorem SQ.or {rest : List Expr} (ha : SQ T Z m a ft) (hb : SQ T Z m (.BoolOp .Or (b :: rest) pos) fu) : SQ T Z m (.BoolOp .Or (a :: b :: rest) pos) (fOr ft fu) := by
  obtain ⟨ta, pa, ea⟩ := ha
  obtain ⟨tb, pb, eb⟩ := hb
  exact ⟨_, fun X h => pt_ofW (pw_or (pa X h) (pt_toW (pb X h))), EVt.or ea eb⟩
theorem SQ.and1 (ha : SQ T Z m a ft) : SQ T Z m (.BoolOp .And [a] pos) ft := by
  obtain ⟨ta, pa, ea⟩ := ha
  exact ⟨_, fun X h => pt_ofW (pw_and1 (pa X h)), ea⟩
theorem SQ.or1 (ha : SQ T Z m a ft) : SQ T Z m (.BoolOp .Or [a] pos) ft := by
  obtain ⟨ta, pa, ea⟩ := ha
  exact ⟨_, fun X h => pt_ofW (pw_or1 (pa X h)), ea⟩
/-! range(a, b, c) -/
def fRng3 (fr : Fn S (List D)) : Fn S (List D) := fun env s => match fr env s with
  | some ([.int i, .int j, .int c], s1) => if (decide (c ≠ 0) && decide (c.natAbs < 1073741824)) && (Builtin.Range.small i j c && decide (0 ≤ Builtin.Range.rangeSize i j c)) then some (rangeC i c (Builtin.Range.rangeSize i j c).toNat, s1) else none
  | _ => none
theorem EVi.rng3 {R : RC} {tr : TA} (h : EVa R Z m tr fr) : EVi R Z m (iRng3 tr) (fRng3 fr) := by
  intro σ env F H s ds s' K p e q
  unfold fRng3 at e
  split at e
  · rename_i i j c s1 h1
    split at e
    case isFalse => cases e
    rename_i hk
    simp only [Bool.and_eq_true, decide_eq_true_eq] at hk
    cases e
    refine h σ env F H s _ _ _ p h1 fun vs F1 H1 g1 k1 r1 => ?_
    cases r1 with
    | cons r1 r2 => cases r2 with
      | cons r2 r3 => cases r3 with
        | cons r3 r4 =>
          cases r4
          cases r1
          cases r2
          cases r3
          exact ⟨i, j, c, _, rfl, ⟨hk.1.1, hk.1.2, hk.2.1, by have := hk.2.2; omega⟩, q _ F1 H1 g1 k1 (ItE.rangeC i c _)⟩
  · cases e
theorem SW.rng3 (mx : T.mg (Str.ofString "range") = none) (ha : SA T Z m [a, b, c] fr) (gx : List.lookup (Str.ofString "range") T.sc.names = some NameKind.globalImplicit := by rfl) (hs : ∀ env, starEach [a, b, c] env = (false, eval a env) :: starEach [b, c] env := by exact fun _ => rfl) (hs2 : Sta [b, c] pos := by exact fun _ => rfl) : SW T Z m tg (.Call (.Name (Str.ofString "range") p) [a, b, c] [] pos) (fRng3 fr) := by
  obtain ⟨t, pA, eA⟩ := ha
  exact ⟨_, fun X h => pi_range3 (by show List.lookup _ X.env.scope.names = _; rw [h.sc]; exact gx) (by rw [h.mg]; exact mx) (pA X h) (hs X.env) (hs2 X.env), EVi.rng3 eA⟩
end
end SL
/-! Sem15: the draws: a list d of a script's copy, a place, what is left of a great number, a seed. -/
namespace SL
open PySem L2
open Evl (Ex)
structure DS where
  xs : List Int
  pos : Int
  big : Int
  seed : Int
def ZD (p q : Addr) : SK DS where
  z := fun a => a = p ∨ a = q
  ok := fun s H => p ≠ q ∧ H p = some (.lst [.ref q, .int s.pos, .int s.big, .int s.seed]) ∧ H q = some (.lst (s.xs.map V.int))
  keep := fun s H H' h k => ⟨h.1, by rw [k p (.inl rfl)]; exact h.2.1, by rw [k q (.inr rfl)]; exact h.2.2⟩
  has := fun s H a h k => by
    rcases k with rfl | rfl
    · rw [h.2.1]; exact ⟨(fun z => nomatch z), fun _ z => nomatch z⟩
    · rw [h.2.2]; exact ⟨(fun z => nomatch z), fun _ z => nomatch z⟩
def tkk (p q : Addr) : Nat → Addr
  | 0 => p
  | _ => q
def isTok0 : Option (Option D) → Bool
  | some (some (.tok 0)) => true
  | _ => false
/-- d[j] -/
def stGet (s : DS) : Nat → Option D
  | 0 => some (.tok 1)
  | 1 => some (.int s.pos)
  | 2 => some (.int s.big)
  | 3 => some (.int s.seed)
  | _ => none
def fSt (i j : Nat) : Fn DS D := fun env s => if isTok0 env[i]? then match stGet s j with
  | some d => some (d, s)
  | none => none else none
/-- d[0][e] -/
def fStX (fa fb : Fn DS D) : Fn DS D := fun env s => match fa env s with
  | some (.tok 1, s1) => match fb env s1 with
    | some (.int k, s2) => if 0 ≤ k then match s2.xs[k.toNat]? with
      | some n => some (.int n, s2)
      | none => none else none
    | _ => none
  | _ => none
/-- len(d[0]) -/
def fStL (fa : Fn DS D) : Fn DS D := fun env s => match fa env s with
  | some (.tok 1, s1) => some (.int s1.xs.length, s1)
  | _ => none
def stSet (s : DS) (v : Int) : Nat → Option DS
  | 1 => some { s with pos := v }
  | 2 => some { s with big := v }
  | 3 => some { s with seed := v }
  | _ => none
/-- d[j] = e -/
def sStSet (i j : Nat) (fe : Fn DS D) : Stm DS := fun env s => match fe env s with
  | some (.int v, s1) => if isTok0 env[i]? then match stSet s1 v j with
    | some s2 => some (.nx env, s2)
    | none => none else none
  | _ => none
theorem isTok0_eq {o : Option (Option D)} (h : isTok0 o = true) : o = some (some (.tok 0)) := by
  unfold isTok0 at h
  split at h
  · rfl
  · cases h
section
variable {R : RC} {p q : Addr} {m : Bool} {ta tb te : TE} {fa fb fe : Fn DS D}
theorem EV.st (h0 : R.tk 0 = p) (h1 : R.tk 1 = q) {i j : Nat} {k : Int} (hk : k = j) : EV R (ZD p q) m (tOp (rIx R.K) (tVar i) (tC (.int k))) (fSt i j) := by
  intro σ env F H s d s' Q pr e qq
  subst hk
  unfold fSt at e
  split at e
  case isFalse => cases e
  rename_i ht
  have ht := isTok0_eq ht
  obtain ⟨v, hv, rv⟩ := pr.sl.sh i _ rfl ht
  cases rv
  have hp : H (R.tk 0) = some (.lst [.ref q, .int s.pos, .int s.big, .int s.seed]) := by rw [h0]; exact pr.ok.2.1
  have fin : ∀ (x : V), atI [V.ref q, .int s.pos, .int s.big, .int s.seed] (j : Int) = some x → (∀ F, Rep R F d x) → s = s' → tOp (rIx R.K) (tVar i) (tC (.int j)) σ H Q := fun x hx hr hs => by
    subst hs
    exact ⟨_, hv, .inl ⟨_, _, _, x, rfl, rfl, SqL.of hp, hx, qq x F H (Grow.refl pr.fh) pr.ok (hr F)⟩⟩
  match j, e with
  | 0, e => cases e; exact fin (.ref q) rfl (fun F => by rw [← h1]; exact .tok 1) rfl
  | 1, e => cases e; exact fin _ rfl (fun F => .int _) rfl
  | 2, e => cases e; exact fin _ rfl (fun F => .int _) rfl
  | 3, e => cases e; exact fin _ rfl (fun F => .int _) rfl
  | n + 4, e => cases e
theorem EV.stx (h1 : R.tk 1 = q) (ha : EV R (ZD p q) m ta fa) (hb : EV R (ZD p q) m tb fb) : EV R (ZD p q) m (tOp (rIx R.K) ta tb) (fStX fa fb) := by
  intro σ env F H s d s' Q pr e qq
  unfold fStX at e
  split at e
  case h_2 => cases e
  rename_i s1 e1
  split at e
  case h_2 => cases e
  rename_i k s2 e2
  split at e
  case isFalse => cases e
  rename_i hk
  split at e
  case h_2 => cases e
  rename_i n hn
  cases e
  refine ha σ env F H s _ _ _ pr e1 fun v F1 H1 g1 k1 r1 => ?_
  cases r1
  have p1 := pr.next g1 k1
  refine hb σ env F1 H1 s1 _ _ _ p1 e2 fun w F2 H2 g2 k2 r2 => ?_
  cases r2
  have p2 := p1.next g2 k2
  refine .inl ⟨_, _, _, .int n, rfl, rfl, SqL.of (by rw [h1]; exact k2.2.2), ?_, qq _ F2 H2 (g1.trans g2 p1.hz) k2 (.int _)⟩
  have : k = (k.toNat : Int) := by omega
  rw [this]
  exact atI_nat (by rw [List.getElem?_map, hn]; rfl)
theorem EV.stl (h1 : R.tk 1 = q) (ha : EV R (ZD p q) m ta fa) : EV R (ZD p q) m (tCB (rLenX R.K) (tCons ta tNil)) (fStL fa) := by
  intro σ env F H s d s' Q pr e qq
  unfold fStL at e
  split at e
  case h_2 => cases e
  rename_i s1 e1
  cases e
  refine ha σ env F H s _ _ _ pr e1 fun v F1 H1 g1 k1 r1 => ?_
  cases r1
  refine ⟨_, s'.xs.length, rfl, ?_, qq _ F1 H1 g1 k1 (.int _)⟩
  have hq : SqL R.K H1 (R.tk 1) (s'.xs.map V.int) := SqL.of (by rw [h1]; exact k1.2.2)
  exact .inl ⟨_, hq, by rw [List.length_map]⟩
theorem ST.stset (h0 : R.tk 0 = p) {i j : Nat} {k : Int} (hk : k = j) (h : ES R (ZD p q) te fe) : ST R (ZD p q) (tAsg te (L2.gSub (tVar i) (tC (.int k)) rSetL)) (sStSet i j fe) := fun F0 H0 σ env F H s o s' D pr e qq => by
  subst hk
  unfold sStSet at e
  split at e
  case h_2 => cases e
  rename_i v s1 e1
  split at e
  case isFalse => cases e
  rename_i ht
  have ht := isTok0_eq ht
  split at e
  case h_2 => cases e
  rename_i s2 e2
  cases e
  refine h F0 H0 σ env F H s _ _ _ pr e1 fun x F1 H1 p1 x1 r1 => ?_
  cases r1
  obtain ⟨u, hu, ru⟩ := p1.sh i _ rfl ht
  cases ru
  have hp : H1 p = some (.lst [.ref q, .int s1.pos, .int s1.big, .int s1.seed]) := p1.ok.2.1
  have hq := p1.ok.2.2
  have ne := p1.ok.1
  have key : ∀ (us : List V), us = [V.ref q, .int s'.pos, .int s'.big, .int s'.seed] → s'.xs = s1.xs → D.nx σ (upd H1 p (.lst us)) := fun us hus hxs => by
    have ok2 : (ZD p q).ok s' (upd H1 p (.lst us)) := ⟨ne, by rw [upd_same, hus], by rw [upd_ne (Ne.symm ne), hxs]; exact hq⟩
    have g : Grow (ZD p q).z F1 H1 F1 (upd H1 p (.lst us)) := ⟨fun a o n h => by rw [upd_ne fun z => n (.inl z)]; exact h, Ex.refl _, fun a o h => by
      rw [upd_ne fun z => by rw [z, p1.zf _ (.inl rfl)] at h; cases h]
      exact p1.gr.fh a o h, fun a o h => .inl h⟩
    exact qq σ F1 _ (p1.next g ok2) x1
  refine ⟨_, hu, _, _, (j : Int), j, by rw [h0], rfl, hp, ?_, ?_⟩
  · match j, e2 with
    | 1, _ => rfl
    | 2, _ => rfl
    | 3, _ => rfl
    | 0, e2 => cases e2
    | n + 4, e2 => cases e2
  · match j, e2 with
    | 1, e2 => cases e2; exact key _ rfl rfl
    | 2, e2 => cases e2; exact key _ rfl rfl
    | 3, e2 => cases e2; exact key _ rfl rfl
    | 0, e2 => cases e2
    | n + 4, e2 => cases e2
end
section
variable {T : CT} {p q : Addr} {m : Bool} {a b e : Expr} {fa fb fe : Fn DS D} {pos p2 p3 pp : Pos}
theorem SE.st (i j : Nat) {x : Str} {k : Int} {j' : Nat} (h0 : T.R.tk 0 = p := by rfl) (h1 : T.R.tk 1 = q := by rfl) (hk : k = j := by rfl) (hx : T.N[i]? = some x := by rfl) (hv : Vis T.sc x := by first | exact .inl rfl | exact .inr (.inl rfl) | exact .inr (.inr rfl)) (n1 : (x == Str.ofString "__debug__") = false := by rfl) (n2 : (x == Str.ofString "__classdict__") = false := by rfl) (hp : PlainIx (.Constant (.int k) j' p3) := by exact fun _ _ => rfl) : SE T (ZD p q) m (.Subscript (.Name x p2) (.Constant (.int k) j' p3) pos) (fSt i j) :=
  ⟨_, fun X h => by
    have := pe_ix (pos := pos) ix_X (pv (pos := p2) i (by rw [h.N]; exact hx) (by rw [h.sc]; exact hv) n1 n2) (pe_int (i := k) (j := j') (pos := p3)) hp
    rw [h.K] at this
    exact this, EV.st h0 h1 hk⟩
theorem SE.stx (ha : SE T (ZD p q) m a fa) (hb : SE T (ZD p q) m b fb) (h1 : T.R.tk 1 = q := by rfl) (hp : PlainIx b := by exact fun _ _ => rfl) : SE T (ZD p q) m (.Subscript a b pos) (fStX fa fb) := by
  obtain ⟨ta, pa, ea⟩ := ha
  obtain ⟨tb, pb, eb⟩ := hb
  exact ⟨_, fun X h => by
    have := pe_ix (pos := pos) ix_X (pa X h) (pb X h) hp
    rw [h.K] at this
    exact this, EV.stx h1 ea eb⟩
theorem SE.stl (mx : T.mg (Str.ofString "len") = none) (ha : SE T (ZD p q) m e fe) (h1 : T.R.tk 1 = q := by rfl) (gx : GlB T "len" := by rfl) (hs : ∀ env, starEach [e] env = (false, eval e env) :: starEach [] env := by exact fun _ => rfl) : SE T (ZD p q) m (.Call (.Name (Str.ofString "len") pp) [e] [] pos) (fStL fe) := by
  obtain ⟨ta, pa, ea⟩ := ha
  exact ⟨_, fun X h => by
    have := pe_callB (p := pp) (pos := pos) (call_lenX (X := X)) (by show List.lookup _ X.env.scope.names = _; rw [h.sc]; exact gx) (by rw [h.mg]; exact mx) (by rfl) (pa_cons (pa X h) pa_nil (hs X.env)) (by decide) (by rfl) (hs X.env) (by rfl)
    rw [h.K] at this
    exact this, EV.stl h1 ea⟩
theorem SS.stset (i j : Nat) {x : Str} {k : Int} {j' : Nat} (h : XE T (ZD p q) e fe) (h0 : T.R.tk 0 = p := by rfl) (hk : k = j := by rfl) (hx : T.N[i]? = some x := by rfl) (hv : Vis T.sc x := by first | exact .inl rfl | exact .inr (.inl rfl) | exact .inr (.inr rfl)) (n1 : (x == Str.ofString "__debug__") = false := by rfl) (n2 : (x == Str.ofString "__classdict__") = false := by rfl)
    (ho : SubOk (.Name x p2) (.Constant (.int k) j' p3) pp := by exact fun _ _ => rfl) (hs : swapsWithSole [.Subscript (.Name x p2) (.Constant (.int k) j' p3) pp] e pos.line (dE T.sc) = pure false := by rfl) (hs2 : swappedStores [.Subscript (.Name x p2) (.Constant (.int k) j' p3) pp] e (dE T.sc) = pure none := by rfl) (hs3 : ∀ env, List.map (fun x => x.snd) (assignEach [.Subscript (.Name x p2) (.Constant (.int k) j' p3) pp] env) = [assign (.Subscript (.Name x p2) (.Constant (.int k) j' p3) pp) env] := by exact fun _ => rfl) : SS T (ZD p q) (.Assign [.Subscript (.Name x p2) (.Constant (.int k) j' p3) pp] e pos) (sStSet i j fe) := by
  obtain ⟨t, pe, ev⟩ := h
  exact ⟨_, fun X h => ps_asg (pe X h) (pg_sub (pv i (by rw [h.N]; exact hx) (by rw [h.sc]; exact hv) n1 n2) pe_int set_list (ho X.env)) (by rw [sws_dE, h.sc]; exact hs) (by rw [sst_dE, h.sc]; exact hs2) (hs3 X.env), ST.stset h0 hk ev⟩
end
end SL
/-! Sem16: enumerate of a tuple. -/
namespace SL
open PySem L2
open Evl (Ex)
def enH1 (h : Heap) (l : Addr) : Heap := h.push { cls := Value.type "tuple_iterator", data := Data.fields #[Value.ref l, Value.int 0 0] }
def enH2 (h : Heap) (l : Addr) : Heap := (enH1 h l).push { cls := Value.type "enumerate", data := Data.fields #[Value.none, Value.bool false, Value.ref h.objs.size, rawInt 0, Value.none, Value.none] }
theorem meets_enumT (l : Addr) (items : Array Value) : Meets (Builtin.«enumerate.__new__» { pos := [Value.type "enumerate", Value.ref l] }) fun A R s =>
    s.heap.IsTuple l items ∧ R (Except.ok (Flow.ret (Value.ref (enH1 s.heap l).objs.size))) { heap := enH2 s.heap l, gens := s.gens, drawn := s.drawn, toks := s.toks, os := s.os } := by
  intro prog w A R s ⟨h1, h2⟩
  unfold Builtin.«enumerate.__new__»
  refine wpAny_bind ?_
  have e1 : Builtin.SmallTypes.newClass "enumerate" { pos := [Value.type "enumerate", Value.ref l] } = pure (Value.type "enumerate", [Value.ref l]) := by
    unfold Builtin.SmallTypes.newClass
    simp only
    rw [sub_enumerate]
    rfl
  rw [e1]
  refine wpAny_pure ?_
  refine wpAny_bind ?_
  unfold Builtin.SmallTypes.calledThroughType
  refine wpAny_bind ?_
  refine wpAny_stack fun st _ _ _ => ?_
  refine wpAny_pure ?_
  have fin : wpAny (model prog w) A.in1 (do
      let it ← pyIter (Value.ref l)
      let r ← Builtin.SmallTypes.newRecord (Value.type "enumerate") (Builtin.SmallTypes.ownedTupleFields ++ [it, rawInt 0, Value.none, Value.none])
      ret r) (fun fin s' => match fin with
        | Fin.done f => R (Except.ok f) s'
        | Fin.again c' => c'.quiet = true ∧ codeAny (model prog w) A c' R s') (fun e s' => R (Except.error e) s') s := by
    refine wpAny_bind ?_
    refine wpAny_pyIter_tuple h1 ?_
    refine wpAny_bind ?_
    show wpAny (model prog w) A.in1 (newObj (Value.type "enumerate") (Data.fields #[Value.none, Value.bool false, Value.ref s.heap.objs.size, rawInt 0, Value.none, Value.none])) _ _ _
    refine wpAny_newObj_type ?_
    exact wpAny_pure h2
  split
  · rename_i c _ _ _ _ _
    generalize (c == Value.type "enumerate") = b
    cases b with
    | true =>
      refine wpAny_bind ?_
      exact wpAny_pure (a := (Value.ref l, none)) fin
    | false =>
      refine wpAny_bind ?_
      exact wpAny_pure (a := (Value.ref l, none)) fin
  · refine wpAny_bind ?_
    exact wpAny_pure (a := (Value.ref l, none)) fin
theorem call_enumT {prog : Program} {w : World} {A : Around} {E : Value → Shared → Prop} {s : Shared} {l : Addr} {items : Array Value} {Q : Value → Shared → Prop} (hl : s.heap.IsTuple l items)
    (q : ∀ h' : Heap, IsEnum h' (s.heap.objs.size + 1) s.heap.objs.size 0 Value.none → h'.IsTupleIter s.heap.objs.size l 0 → h'.objs.size = s.heap.objs.size + 2 → (∀ (b : Addr) (o : Obj), s.heap.get? b = some o → h'.get? b = some o) → Q (Value.ref (s.heap.objs.size + 1)) { heap := h', gens := s.gens, drawn := s.drawn, toks := s.toks, os := s.os }) :
    wpAny (model prog w) A (call (Value.type "enumerate") [Value.ref l]) Q E s := by
  have e1 : (enH1 s.heap l).objs.size = s.heap.objs.size + 1 := by
    unfold enH1
    exact Heap.size_push _ _
  have e2 : (enH2 s.heap l).get? (s.heap.objs.size + 1) = some { cls := Value.type "enumerate", data := Data.fields #[Value.none, Value.bool false, Value.ref s.heap.objs.size, rawInt 0, Value.none, Value.none] } := by
    unfold enH2
    have := Heap.get?_push_size (enH1 s.heap l) (o := { cls := Value.type "enumerate", data := Data.fields #[Value.none, Value.bool false, Value.ref s.heap.objs.size, rawInt 0, Value.none, Value.none] }) rfl
    rwa [e1] at this
  refine callType_new PySem.F.called_enumerate (by decide) (PySem.F.typeCall_enumerate_1 _) (PySem.F.newCall_enumerate_1 _) ?_ PySem.F.entry_enumerate_new (meets_enumT l items) ⟨hl, ?_⟩
  · exact fun obj => PySem.F.args_object_init_2 _ _
  · have e3 : (enH2 s.heap l).get? s.heap.objs.size = some { cls := Value.type "tuple_iterator", data := Data.fields #[Value.ref l, Value.int 0 0] } := by
      unfold enH2
      exact Heap.get?_push_of_some _ (Heap.get?_push_size _ rfl)
    show Shared.TypeIs _ (Value.ref (enH1 s.heap l).objs.size) _ ∧ Q (Value.ref (enH1 s.heap l).objs.size) _
    rw [e1]
    refine ⟨⟨_, e2, rfl⟩, q (enH2 s.heap l) e2 ⟨_, e3, rfl, rfl⟩ ?_ fun b o h => ?_⟩
    · unfold enH2
      rw [Heap.size_push, e1]
    · unfold enH2 enH1
      exact Heap.get?_push_of_some _ (Heap.get?_push_of_some _ h)
theorem drawsT {prog : Program} {w : World} {A : Around} (hA : A.handled = none) (it l : Addr) (ne : l ≠ it) (items : Array Value) : Draws prog w A it [it, l] items.size (fun i v => items[i]? = some v) fun i h => h.IsTupleIter it l i ∧ h.IsTuple l items := by
  refine Draws.mk (fun i h hs => ?_) (fun i h h' hs hk => ?_) (fun i s Q E hi hs q => ?_) (fun s Q E hs q => ?_)
  · obtain ⟨⟨o, h1, _⟩, _⟩ := hs
    exact ⟨o, h1⟩
  · obtain ⟨⟨o, h1, h2⟩, o', h3, h4⟩ := hs
    exact ⟨⟨o, hk it (by simp) o h1, h2⟩, o', hk l (by simp) o' h3, h4⟩
  · obtain ⟨h1, h2⟩ := hs
    refine RZ.nextOf_tuple_item h1 h2 (x := items[i]) (by rw [Array.getElem?_eq_getElem hi]) fun h' k1 k2 => ?_
    refine q _ h' _ (by rw [Array.getElem?_eq_getElem hi]) ⟨k1, ?_⟩ k2
    obtain ⟨o', h3, h4⟩ := h2
    exact ⟨o', by rw [k2.2 l ne]; exact h3, h4⟩
  · obtain ⟨h1, h2⟩ := hs
    exact RZ.nextOf_tuple_end hA h1 h2 (by rw [Array.getElem?_eq_none (Nat.le_refl _)]) fun h' e k1 k2 => q h' e k1 k2
/-- enumerate of a tuple, as what is walked -/
def IteT (K : PySem.W.Frag) (a : Addr) : It where
  go := fun i H => ∃ xs x, SqT K H a xs ∧ xs[i]? = some x
  yld := fun i H v H' => ∃ T x, v = V.ref T ∧ H T = none ∧ H' = upd H T (HO.tup [V.int i, x]) ∧ ∀ (xs : List V), SqT K H a xs → xs[i]? = some x
  stop := fun i H => ∃ xs, SqT K H a xs ∧ xs.length = i
theorem turn_enumT {P : Program} {w : World} {K : PySem.W.Frag} {elts : List Expr} {kk : Nat} {tpos : Pos} (a e it : Addr) : Turn P w K (Expr.Tuple elts kk tpos) (IteT K a) [e, it] e fun i h => (∃ old, IsEnum h e it i old) ∧ h.IsTupleIter it a i ∧ e ≠ it ∧ a ≠ it ∧ a ≠ e where
  mem := by simp
  obj := fun i h ⟨⟨old, h1⟩, ⟨o, h2, h3, h4⟩, _⟩ b hb => by
    have : b = e ∨ b = it := by simpa using hb
    rcases this with rfl | rfl
    · exact ⟨_, h1, fun v z => nomatch z⟩
    · exact ⟨o, h2, fun v z => by rw [h4] at z; cases z⟩
  keep := fun i h h' ⟨⟨old, h1⟩, ⟨o, h2, h3, h4⟩, ne⟩ k => ⟨⟨old, k e (by simp) _ h1⟩, ⟨o, k it (by simp) o h2, h3, h4⟩, ne⟩
  item := fun X hP hw hK hc i pins s σ H E I fp hs hg => by
    subst hP hw hK
    obtain ⟨⟨old, h1⟩, h2, ne, nai, nae⟩ := hs
    obtain ⟨xs, x, hx, hxi⟩ := hg
    obtain ⟨its, rv, pl, hz⟩ := I.tuple hx
    have hl : i < its.length := by rw [← rv.length]; exact (List.getElem?_eq_some_iff.mp hxi).1
    have hA : X.A.handled = none := I.ok.hd hc
    refine wpAny_pyNext_enum_itemD (drawsT (by exact hA) it a nai its.toArray) h1 ⟨h2, pl⟩ (by simpa using hl) ne (by simp [ne, Ne.symm nae]) fun y h' tk hy ho hst hT hsz hk => ?_
    refine ⟨_, rfl, ?_⟩
    refine wpAny_letOwnedTupleGo_enum (i := (i : Int) + 1) ho fun h2' hen hsb => ?_
    have hT2 : h2'.get? s.heap.objs.size = some { cls := Value.type "tuple", data := Data.seq #[Value.int i tk, y] } := by
      rw [hsb.2 _ (fun z => by
        obtain ⟨f1, f2⟩ := fp e (by simp)
        have : (s.heap.get? e) = none := by rw [← z]; exact Heap.get?_none_of_le (Nat.le_refl _)
        rw [h1] at this
        cases this)]
      exact hT
    have hyv : its[i]? = some y := by simpa using hy
    obtain ⟨x', hx', rx⟩ : ∃ x', xs[i]? = some x' ∧ RelV x' y := by
      obtain ⟨u, hu, ru⟩ := rv.get hxi
      rw [hyv] at hu
      cases hu
      exact ⟨x, hxi, ru⟩
    rw [hxi] at hx'
    cases hx'
    have hfp : ∀ b, b ∈ [e, it] → FpOk X pins H b := fp
    have ok : ObjOk X.prog X.w (upd H s.heap.objs.size (.tup [V.int i, x])) h2' s.heap.objs.size (.tup [V.int i, x]) := by
      unfold L2.ObjOk
      exact ⟨Evl.sz_of (by show 2 ≤ 100000; omega), [Value.int i tk, y], .cons ⟨_, rfl⟩ (.cons rx .nil), _, hT2, rfl, _, rfl⟩
    have I2 := I.turnedNew (ch := [e, it]) (t' := tk + 1) (h' := h2') (T := s.heap.objs.size) (ob := .tup [V.int i, x]) (fun b o hb hbo => by
      have hb1 : b ≠ e := fun z => hb (by simp [z])
      have hb2 : b ≠ it := fun z => hb (by simp [z])
      rw [hsb.2 b hb1]
      exact hk b o hb1 hb2 hbo) hfp (Nat.le_refl _) ok
    refine ⟨.ref s.heap.objs.size, _, I2, rfl, ⟨s.heap.objs.size, x, rfl, I.fresh, rfl, fun ys hys => ?_⟩, ⟨⟨_, hen⟩, ?_, ne, nai, nae⟩, fun b hb => ?_⟩
    · rw [I.tuple_inj hys hx]
      exact hxi
    · obtain ⟨⟨o, k1, k2⟩, _⟩ := hst
      exact ⟨o, by rw [hsb.2 it (Ne.symm ne)]; exact k1, k2⟩
    · have hb' := (fp b hb).1
      have hne : b ≠ s.heap.objs.size := fun z => by
        have h0 : s.heap.get? s.heap.objs.size = none := Heap.get?_none_of_le (Nat.le_refl _)
        have : b = e ∨ b = it := by simpa using hb
        rcases this with rfl | rfl
        · rw [← z, h1] at h0; cases h0
        · obtain ⟨o, k1, _⟩ := h2
          rw [← z, k1] at h0; cases h0
      rw [upd_ne hne]
      exact hb'
  done := fun X hP hw hK hc i pins s σ H E I fp hs hg => by
    subst hP hw hK
    obtain ⟨⟨old, h1⟩, h2, ne, nai, nae⟩ := hs
    obtain ⟨xs, hx, hle⟩ := hg
    obtain ⟨its, rv, pl, hz⟩ := I.tuple hx
    have hl : its.toArray.size = i := by rw [← hle, rv.length]; simp
    have hA : X.A.handled = none := I.ok.hd hc
    refine wpAny_pyNext_enum_endD (drawsT (by exact hA) it a nai its.toArray) h1 ⟨by rw [hl]; exact h2, pl⟩ fun h' hk => ⟨rfl, ?_⟩
    exact I.turnedL (ch := [it]) (fun b o hb hbo => hk b o (fun z => hb (by simp [z])) hbo) (fun b hb => fp b (by simp at hb; simp [hb]))
  self := fun A i s Q E ⟨⟨old, h1⟩, _⟩ q => wpAny_pyIter_enum h1 q
theorem pi_enumT {X : Cx} {e : Expr} {ta : TA} {p pos tpos : Pos} {elts : List Expr} {kk : Nat} (gx : Gl X (Str.ofString "enumerate")) (mx : X.mg (Str.ofString "enumerate") = none) (pA : PA X [e] ta) (hs : starEach [e] X.env = (false, eval e X.env) :: starEach [] X.env) :
    PI X (Expr.Tuple elts kk tpos) ((Expr.Name (Str.ofString "enumerate") p).Call [e] [] pos) (fun σ H R => ta σ H fun vs H1 => ∃ a xs, vs = [V.ref a] ∧ SqT X.K H1 a xs ∧ R (IteT X.K a) H1) := by
  refine ⟨fun pins s σ H R I h => ?_⟩
  refine PyProof.Rows.Call_ (ld_blt I gx mx PyProof.Rows.boot_enumerate (PyProof.Rows.callWith_type1 (thn (pA.run pos pins s σ H _ I h) fun us s1 ⟨vs, H1, I1, r1, q1⟩ => ?_) hs) (by decide) (by decide)) rfl
  obtain ⟨a, xs, rfl, hq, q⟩ := q1
  obtain ⟨u, rfl, ru⟩ := vals1 r1
  obtain rfl : u = .ref a := ru
  obtain ⟨its, rv, pl, hz⟩ := I1.tuple hq
  refine call_enumT pl fun h' h1 h2 hsz hk => ?_
  refine wpAny_pyIter_enum h1 ?_
  have I2 : L2.Inv X pins σ H1 { heap := h', gens := s1.gens, drawn := s1.drawn, toks := s1.toks, os := s1.os } := I1.kept hk
  have hT : s1.heap.get? a ≠ none := by
    obtain ⟨o, ho, _⟩ := pl
    rw [ho]
    exact fun z => nomatch z
  have hlt : a < s1.heap.objs.size := Nat.lt_of_not_le fun z => hT (Heap.get?_none_of_le z)
  have nn : ∀ b, s1.heap.objs.size ≤ b → H1 b = none := fun b hb => I1.hok.fresh hb
  refine ⟨s1.heap.objs.size + 1, [s1.heap.objs.size + 1, s1.heap.objs.size], _, IteT X.K a, H1, rfl, I2, turn_enumT a (s1.heap.objs.size + 1) s1.heap.objs.size, ⟨⟨_, h1⟩, h2, Nat.succ_ne_self _, Nat.ne_of_lt hlt, Nat.ne_of_lt (Nat.lt_succ_of_lt hlt)⟩, fun b hb => ?_, q⟩
  have : s1.heap.objs.size ≤ b := by
    have : b = s1.heap.objs.size + 1 ∨ b = s1.heap.objs.size := by simpa using hb
    rcases this with rfl | rfl
    · exact Nat.le_succ _
    · exact Nat.le_refl _
  have F := I1.fpOk this (nn b this)
  exact F
theorem pi_or {X : Cx} {tg e : Expr} {t1 t2 : TI} (h1 : PI X tg e t1) (h2 : PI X tg e t2) : PI X tg e (fun σ H R => t1 σ H R ∨ t2 σ H R) := ⟨fun pins s σ H R I h => h.elim (h1.run pins s σ H R I) (h2.run pins s σ H R I)⟩
section
variable {R : RC} {F : Hp} {a : Addr} {vs : List V} {ds : List D}
theorem ItE.enumT (h : SqT R.K F a vs) (r : Reps R F ds vs) : ItE R (IteT R.K a) F (enumD 0 ds) where
  go := fun i H hi e => by
    rw [enumD_length, r.length] at hi
    exact ⟨vs, vs[i], sqT_ex e h, List.getElem?_eq_getElem hi⟩
  stop := fun H e => by rw [enumD_length, r.length]; exact ⟨vs, sqT_ex e h, rfl⟩
  yld := fun i H x H' F1 d hd e1 e2 y => by
    obtain ⟨T, x1, rfl, hT, rfl, y⟩ := y
    obtain ⟨e, he, rfl⟩ := enumD_get ds 0 i d hd
    obtain ⟨v, hv, rv⟩ := r.get he
    have := y vs (sqT_ex (e1.trans e2) h)
    rw [hv] at this
    cases this
    rw [Nat.zero_add]
    exact pair_new e2 hT (.int _) (rv.mono e1)
end
def iEnumA (K : PySem.W.Frag) (ta : TA) : TI := fun σ H R => iEnum K ta σ H R ∨ ta σ H fun vs H1 => ∃ a xs, vs = [V.ref a] ∧ SqT K H1 a xs ∧ R (IteT K a) H1
def fEnumA {S : Type} (fr : Fn S (List D)) : Fn S (List D) := fun env s => match fr env s with
  | some ([.lst xs], s1) => some (enumD 0 xs, s1)
  | some ([.tup xs], s1) => some (enumD 0 xs, s1)
  | some ([.ktup xs], s1) => some (enumD 0 xs, s1)
  | _ => none
section
variable {S : Type} {R : RC} {Z : SK S} {m : Bool} {tr : TA} {fr : Fn S (List D)}
theorem EVi.enumA (h : EVa R Z m tr fr) : EVi R Z m (iEnumA R.K tr) (fEnumA fr) := by
  intro σ env F H s ds s' K p e q
  unfold fEnumA at e
  split at e
  · rename_i xs s1 h1
    cases e
    refine .inl (h σ env F H s _ _ _ p h1 fun vs F1 H1 g1 k1 r1 => ?_)
    obtain ⟨v, rfl, rv⟩ := r1.one
    cases rv with
    | lst ha ra => exact ⟨_, _, rfl, SqL.of (g1.fh _ _ ha), q _ F1 H1 g1 k1 (ItE.enum (SqL.of ha) ra)⟩
  · rename_i xs s1 h1
    cases e
    refine .inr (h σ env F H s _ _ _ p h1 fun vs F1 H1 g1 k1 r1 => ?_)
    obtain ⟨v, rfl, rv⟩ := r1.one
    cases rv with
    | tup ha ra => exact ⟨_, _, rfl, sqT_ex g1.fh (SqT.of ha), q _ F1 H1 g1 k1 (ItE.enumT (SqT.of ha) ra)⟩
  · rename_i xs s1 h1
    cases e
    refine .inr (h σ env F H s _ _ _ p h1 fun vs F1 H1 g1 k1 r1 => ?_)
    obtain ⟨v, rfl, rv⟩ := r1.one
    cases rv with
    | ktup ha ra => exact ⟨_, _, rfl, sqT_ex g1.fh ha, q _ F1 H1 g1 k1 (ItE.enumT ha ra)⟩
  · cases e
end
section
variable {S : Type} {T : CT} {Z : SK S} {m : Bool} {a b : Expr} {fa fe : Fn S D} {fr fi : Fn S (List D)} {ft fu : Fn S Bool} {pos p : Pos} {tg : Expr} {es : List Expr}
theorem SW.enumA {elts : List Expr} {kk : Nat} {tpos : Pos} (mx : T.mg (Str.ofString "enumerate") = none) (ha : SA T Z m [a] fr) (gx : List.lookup (Str.ofString "enumerate") T.sc.names = some NameKind.globalImplicit := by rfl) (hs : ∀ env, starEach [a] env = (false, eval a env) :: starEach [] env := by exact fun _ => rfl) (hs1 : ∀ env, starEach [a] env = [(false, eval a env)] := by exact fun _ => rfl) : SW T Z m (.Tuple elts kk tpos) (.Call (.Name (Str.ofString "enumerate") p) [a] [] pos) (fEnumA fr) := by
  obtain ⟨t, pA, eA⟩ := ha
  exact ⟨_, fun X h => by
    have h1 := pi_enum (p := p) (pos := pos) (tpos := tpos) (elts := elts) (kk := kk) (by show List.lookup _ X.env.scope.names = _; rw [h.sc]; exact gx) (by rw [h.mg]; exact mx) (pA X h) (hs1 X.env)
    have h2 := pi_enumT (p := p) (pos := pos) (tpos := tpos) (elts := elts) (kk := kk) (by show List.lookup _ X.env.scope.names = _; rw [h.sc]; exact gx) (by rw [h.mg]; exact mx) (pA X h) (hs X.env)
    have := pi_or h1 h2
    rw [h.K] at this
    exact this, EVi.enumA eA⟩
/-- range over what own lists tell -/
theorem XW.r1B (mx : T.mg (Str.ofString "range") = none) (ha : SA T Z true [a] fr) (gx : List.lookup (Str.ofString "range") T.sc.names = some NameKind.globalImplicit := by rfl) (hs : ∀ env, starEach [a] env = [(false, eval a env)] := by exact fun _ => rfl) : XW T Z tg (.Call (.Name (Str.ofString "range") p) [a] [] pos) (fRng1 fr) := by
  obtain ⟨t, pA, eA⟩ := ha
  refine ⟨_, fun X h => pi_range1 (by show List.lookup _ X.env.scope.names = _; rw [h.sc]; exact gx) (by rw [h.mg]; exact mx) (pA X h) (hs X.env), fun F0 H0 σ env F H s ds s' K pr e q => ?_⟩
  unfold fRng1 at e
  split at e
  · rename_i j s1 h1
    split at e
    case isFalse => cases e
    rename_i hk
    cases e
    refine eA σ env _ H s _ _ _ pr.preB h1 fun vs F1 H1 g1 k1 r1 => ?_
    obtain ⟨v, rfl, rv⟩ := r1.one
    cases rv
    have := okI_of hk
    exact ⟨j, rfl, this.1, this.2, q _ _ H1 (pr.nextB g1 k1) (pr.growB g1).ff (ItE.range 0 _)⟩
  · cases e
theorem XW.r2B (mx : T.mg (Str.ofString "range") = none) (ha : SA T Z true [a, b] fr) (gx : List.lookup (Str.ofString "range") T.sc.names = some NameKind.globalImplicit := by rfl) (hs : ∀ env, starEach [a, b] env = [(false, eval a env), (false, eval b env)] := by exact fun _ => rfl) (hs2 : ∀ env, starEach [b] env = [(false, eval b env)] := by exact fun _ => rfl) : XW T Z tg (.Call (.Name (Str.ofString "range") p) [a, b] [] pos) (fRng2 fr) := by
  obtain ⟨t, pA, eA⟩ := ha
  refine ⟨_, fun X h => pi_range2 (by show List.lookup _ X.env.scope.names = _; rw [h.sc]; exact gx) (by rw [h.mg]; exact mx) (pA X h) (hs X.env) (hs2 X.env), fun F0 H0 σ env F H s ds s' K pr e q => ?_⟩
  unfold fRng2 at e
  split at e
  · rename_i i j s1 h1
    split at e
    case isFalse => cases e
    rename_i hk
    rw [Bool.and_eq_true] at hk
    cases e
    refine eA σ env _ H s _ _ _ pr.preB h1 fun vs F1 H1 g1 k1 r1 => ?_
    obtain ⟨v, w, rfl, rv, rw_⟩ := r1.two
    cases rv
    cases rw_
    have h1 := okI_of hk.1
    have h2 := okI_of hk.2
    exact ⟨i, j, rfl, ⟨h1.1, h1.2, h2.1, h2.2⟩, q _ _ H1 (pr.nextB g1 k1) (pr.growB g1).ff (ItE.range i _)⟩
  · cases e
theorem SS.lc2 (i : Nat) {y : Str} {elt iter iter1 tg1 : Expr} {ifs ifs1 : List Expr} {scope : Scope} {own : List (Str × Nat)} {vs0 vs1 : List Nat} {fi1 : Fn S (List D)} {bd bd1 : Bd} {apos pos' : Pos} (m : Bool) (hI : SW T Z m tg iter fi) (hB : BlkOk T.N T.sc scope own) (hV : (∀ i, i ∈ vs0 → i ∈ own.map (·.2)) ∧ ∀ i, i ∈ vs1 → i ∈ own.map (·.2)) (hG : SG (T.blk scope) vs0 tg bd) (hQ : SQs (T.blk scope) Z m ifs ft)
    (hI1 : SW (T.blk scope) Z m tg1 iter1 fi1) (hG1 : SG (T.blk scope) vs1 tg1 bd1) (hQ1 : SQs (T.blk scope) Z m ifs1 fu) (hE : SE (T.blk scope) Z m elt fe)
    (hx : T.N[i]? = some y := by rfl) (hv : List.lookup y T.sc.names = some NameKind.local := by rfl)
    (hs : swapsWith (.ListComp elt [{ target := tg, iter := iter, ifs := ifs, is_async := 0 }, { target := tg1, iter := iter1, ifs := ifs1, is_async := 0 }] scope pos) (some (.Name y pos')) apos.line (dE T.sc) = pure true := by rfl)
    (hf : ∀ env x, foldedSetIterable iter env x = pure x := by exact fun _ _ => rfl) (hf1 : ∀ env x, foldedSetIterable iter1 env x = pure x := by exact fun _ _ => rfl) : SS T Z (.Assign [.Name y pos'] (.ListComp elt [{ target := tg, iter := iter, ifs := ifs, is_async := 0 }, { target := tg1, iter := iter1, ifs := ifs1, is_async := 0 }] scope pos) apos) (sOwn i (if m then fFlats (fLc2 fi bd ft fi1 bd1 fu fe (own.map (·.2)) vs1) else fLc2 fi bd ft fi1 bd1 fu fe (own.map (·.2)) vs1)) := by
  obtain ⟨ti, pi, ei⟩ := hI
  obtain ⟨tg, pg, eg⟩ := hG
  obtain ⟨tq, pq, eq⟩ := hQ
  obtain ⟨ti1, pi1, ei1⟩ := hI1
  obtain ⟨tg1, pg1, eg1⟩ := hG1
  obtain ⟨tq1, pq1, eq1⟩ := hQ1
  obtain ⟨te, pe, ee⟩ := hE
  refine ⟨_, fun X h => ps_setLc2 (i := i) h.calm h.nd (by rw [h.N]; exact hx) (by rw [h.sc]; exact hv) (by rw [sw_dE, h.sc]; exact hs) (pi X h) (by rw [h.N, h.sc]; exact hB) hV.2 (fun s H C cl fp => pg _ (h.blk scope s H C cl fp)) (fun s H C cl fp => pq _ (h.blk scope s H C cl fp)) (fun s H C cl fp => pi1 _ (h.blk scope s H C cl fp)) (fun s H C cl fp => pg1 _ (h.blk scope s H C cl fp)) (fun s H C cl fp => pq1 _ (h.blk scope s H C cl fp)) (fun s H C cl fp => pe _ (h.blk scope s H C cl fp)) (hf X.env) hf1, ST.ownL ?_⟩
  cases m with
  | false => exact ESl.a (EVl.lc2 hV.1 ei eg eq ei1 eg1 eq1 ee)
  | true => exact ESl.b (EVl.lc2 hV.1 ei eg eq ei1 eg1 eq1 ee)
end
end SL
/-! Sem17: an instance in the making (self within __init__), a written dict of int keys. -/
namespace SL
open PySem L2
open Evl (Ex)
/-- the fields so far: known data that stand in every heap, or unknown -/
abbrev Raw := List (Str × Option D)
def okF (R : RC) (vv : V) : Option D → V → Prop
  | some d, v => ∀ F, Rep R F d v
  | none, v => v = vv
inductive MatchF (R : RC) (vv : V) : Raw → List (Str × V) → Prop
  | nil : MatchF R vv [] []
  | cons {f : Str} {od : Option D} {v : V} {s : Raw} {fs : List (Str × V)} : okF R vv od v → MatchF R vv s fs → MatchF R vv ((f, od) :: s) ((f, v) :: fs)
def putFD (f : Str) (od : Option D) : Raw → Raw
  | [] => [(f, od)]
  | (g, o) :: r => if g = f then (f, od) :: r else (g, o) :: putFD f od r
section
variable {R : RC}
theorem MatchF.len {vv : V} : ∀ {s : Raw} {fs : List (Str × V)}, MatchF R vv s fs → s.length = fs.length
  | _, _, .nil => rfl
  | _, _, .cons _ m => by simp [MatchF.len m]
theorem putF_cons (f g : Str) (v w : V) (r : List (Str × V)) : putF f v ((g, w) :: r) = if g = f then (f, v) :: r else (g, w) :: putF f v r := by
  rw [putF]
  by_cases e : g = f
  · rw [if_pos e, if_pos e, e]
  · rw [if_neg e, if_neg e]
theorem MatchF.put {vv : V} {f : Str} {od : Option D} {v : V} (h : okF R vv od v) : ∀ {s : Raw} {fs : List (Str × V)}, MatchF R vv s fs → MatchF R vv (putFD f od s) (putF f v fs)
  | _, _, .nil => .cons h .nil
  | (g, o) :: s, (_, w) :: fs, .cons k m => by
    rw [putF_cons]
    unfold putFD
    by_cases e : g = f
    · rw [if_pos e, if_pos e]
      exact .cons h m
    · rw [if_neg e, if_neg e]
      exact .cons k (MatchF.put h m)
theorem MatchF.get {vv : V} {f : Str} {d : D} : ∀ {s : Raw} {fs : List (Str × V)}, MatchF R vv s fs → s.lookup f = some (some d) → ∃ v, fs.lookup f = some v ∧ ∀ F, Rep R F d v
  | _, _, .nil, h => by cases h
  | (g, o) :: s, (_, w) :: fs, .cons k m, h => by
    rw [List.lookup_cons] at h
    cases e : f == g with
    | true =>
      rw [e] at h
      cases h
      exact ⟨w, by rw [List.lookup_cons, e], k⟩
    | false =>
      rw [e] at h
      obtain ⟨v, h1, h2⟩ := MatchF.get m h
      exact ⟨v, by rw [List.lookup_cons, e]; exact h1, h2⟩
theorem MatchF.no {vv : V} {f : Str} : ∀ {s : Raw} {fs : List (Str × V)}, MatchF R vv s fs → s.lookup f = none → fs.lookup f = none
  | _, _, .nil, _ => rfl
  | (g, o) :: s, (_, w) :: fs, .cons k m, h => by
    rw [List.lookup_cons] at h ⊢
    cases e : f == g with
    | true => rw [e] at h; cases h
    | false =>
      rw [e] at h
      simp only
      exact MatchF.no m h
end
def ZI (R : RC) (p dx C : Addr) (vv : V) : SK Raw where
  z := fun a => a = p ∨ a = dx
  ok := fun s H => p ≠ dx ∧ (∃ fs, H p = some (.ins C dx fs) ∧ MatchF R vv s fs) ∧ H dx = some (.own p)
  keep := fun s H H' h k => ⟨h.1, by rw [k p (.inl rfl)]; exact h.2.1, by rw [k dx (.inr rfl)]; exact h.2.2⟩
  has := fun s H a h k => by
    obtain ⟨fs, hf, _⟩ := h.2.1
    rcases k with rfl | rfl
    · rw [hf]; exact ⟨(fun z => nomatch z), fun _ z => nomatch z⟩
    · rw [h.2.2]; exact ⟨(fun z => nomatch z), fun _ z => nomatch z⟩
def isTok2 : Option (Option D) → Bool
  | some (some (.tok 2)) => true
  | _ => false
theorem isTok2_eq {o : Option (Option D)} (h : isTok2 o = true) : o = some (some (.tok 2)) := by
  unfold isTok2 at h
  split at h
  · rfl
  · cases h
def fFldZ (i : Nat) (f : Str) : Fn Raw D := fun env s => if isTok2 env[i]? then match s.lookup f with
  | some (some d) => some (d, s)
  | _ => none else none
section
variable {R : RC} {p dx C : Addr} {vv : V} {m : Bool} {te ta : TE} {fe : Fn Raw D} {tr : TA} {fr : Fn Raw (List D)}
theorem EV.fldZ (h2 : R.tk 2 = p) {i : Nat} {f : Str} (cl : Cls R.K C) (na : NoAttr R.K C f) : EV R (ZI R p dx C vv) m (tFld R.K (tVar i) f) (fFldZ i f) := by
  intro σ env F H s d s' Q pr e q
  unfold fFldZ at e
  split at e
  case isFalse => cases e
  rename_i ht
  have ht := isTok2_eq ht
  split at e
  case h_2 => cases e
  rename_i d1 hd
  cases e
  obtain ⟨u, hu, ru⟩ := pr.sl.sh i _ rfl ht
  cases ru
  obtain ⟨fs, hf, mf⟩ := pr.ok.2.1
  obtain ⟨v, hv, rv⟩ := mf.get hd
  exact ⟨_, hu, R.tk 2, C, dx, fs, v, rfl, by rw [h2]; exact hf, cl, na, hv, q v F H (Grow.refl pr.fh) pr.ok (rv F)⟩
/-- the fields as data, in this order -/
def rawD : List Str → Raw → Option (List D)
  | [], [] => some []
  | n :: ns, (f, od) :: r => if n = f then match od with
    | some d => match rawD ns r with
      | some ds => some (d :: ds)
      | none => none
    | none => none else none
  | _, _ => none
theorem rawD_ok {vv : V} (F : Hp) : ∀ {ns : List Str} {s : Raw} {fs : List (Str × V)} {ds : List D}, MatchF R vv s fs → rawD ns s = some ds → ∃ vs, fs = ns.zip vs ∧ ns.length = vs.length ∧ Reps R F ds vs
  | [], [], _, ds, .nil, h => by cases h; exact ⟨[], rfl, rfl, .nil⟩
  | [], _ :: _, _, ds, _, h => by cases h
  | _ :: _, [], _, ds, _, h => by cases h
  | n :: ns, (f, od) :: r, _, ds, .cons k m, h => by
    unfold rawD at h
    split at h
    case isFalse => cases h
    rename_i hn
    split at h
    case h_2 => cases h
    rename_i d
    split at h
    case h_2 => cases h
    rename_i ds1 hds
    cases h
    obtain ⟨vs, e1, e2, e3⟩ := rawD_ok F m hds
    subst hn e1
    exact ⟨_ :: vs, rfl, by simp [e2], .cons (k F) e3⟩
def restOk (r : Raw) : Bool := r.all fun x => x.1 == nSums
theorem MatchF.cut {R : RC} {vv : V} : ∀ (n : Nat) {s : Raw} {fs : List (Str × V)}, MatchF R vv s fs → restOk (s.drop n) = true → ∃ fs1 rest, fs = fs1 ++ rest ∧ MatchF R vv (s.take n) fs1 ∧ ∀ x ∈ rest, x.1 = nSums
  | 0, s, fs, m, h => ⟨[], fs, rfl, .nil, by
    have : ∀ {s : Raw} {fs : List (Str × V)}, MatchF R vv s fs → restOk s = true → ∀ x ∈ fs, x.1 = nSums := by
      intro s fs m
      induction m with
      | nil => intro _ x hx; cases hx
      | cons k m ih =>
        intro h x hx
        rw [restOk, List.all_cons, Bool.and_eq_true] at h
        rcases List.mem_cons.mp hx with rfl | hx
        · exact eq_of_beq h.1
        · exact ih h.2 x hx
    exact this m h⟩
  | n + 1, _, _, .nil, _ => ⟨[], [], rfl, .nil, fun _ h => by cases h⟩
  | n + 1, (f, od) :: s, (_, v) :: fs, .cons k m, h => by
    obtain ⟨a, r, e1, e2, e3⟩ := MatchF.cut n m h
    exact ⟨(f, v) :: a, r, by rw [e1]; rfl, .cons k e2, e3⟩
/-- self.m(..): self in the making, as an instance of class ci -/
def fMethZ (ns : List Str) (ci n : Nat) (g : List D → Option D) (mm : Str) (i : Nat) (fr : Fn Raw (List D)) : Fn Raw D := fun env s => if isTok2 env[i]? then match s.lookup mm with
  | some _ => none
  | none => match fr env s with
  | some (xs, s2) => match rawD ns (s2.take ns.length) with
    | some ds => match lenG n g (.ins ci ds :: xs) with
      | some d => if restOk (s2.drop ns.length) then (if d.flat then some (d, s2) else none) else none
      | none => none
    | none => none
  | none => none else none
theorem EV.methZ (h2 : R.tk 2 = p) {i ci n : Nat} {mm : Str} {g : List D → Option D} (hC : R.cl ci = C) (h : EVa R (ZI R p dx C vv) m tr fr) : EV R (ZI R p dx C vv) m (tMeth C mm (spP R n g) [] E0 (tVar i) tr) (fMethZ (R.nm ci) ci n g mm i fr) := by
  intro σ env F H s d s' Q pr e q
  unfold fMethZ lenG at e
  split at e
  case isFalse => cases e
  rename_i ht
  have ht := isTok2_eq ht
  split at e
  case h_1 => cases e
  rename_i hlk
  split at e
  case h_2 => cases e
  rename_i xs s2 e1
  split at e
  case h_2 => cases e
  rename_i ds e2
  split at e
  case h_2 => cases e
  rename_i d3 e3
  split at e3
  case isFalse => cases e3
  rename_i hn
  split at e
  case isFalse => cases e
  rename_i hlen
  split at e
  case isFalse => cases e
  rename_i hfl
  cases e
  obtain ⟨u, hu, ru⟩ := pr.sl.sh i _ rfl ht
  cases ru
  obtain ⟨fs0, hf0, mf0⟩ := pr.ok.2.1
  refine ⟨_, hu, R.tk 2, dx, fs0, rfl, by rw [h2]; exact hf0, mf0.no hlk, ?_⟩
  refine h σ env F H s xs _ _ pr e1 fun vs F1 H1 g1 k1 r1 => ?_
  have p1 := pr.next g1 k1
  have fp : F1 p = none := p1.zf p (.inl rfl)
  obtain ⟨fs, hp, mf⟩ := k1.2.1
  obtain ⟨fs1, rest, rfl, mf1, hrest⟩ := mf.cut _ hlen
  obtain ⟨vals, hz, hl, rs⟩ := rawD_ok F1 mf1 e2
  have ex2 : Ex F1 (upd F1 p (.ins C dx (fs1 ++ rest))) := fun b o hb => by rw [upd_ne (ne_of_none hb fp)]; exact hb
  have exH : Ex (upd F1 p (.ins C dx (fs1 ++ rest))) H1 := fun b o hb => by
    by_cases hbp : b = p
    · subst hbp; rw [upd_same] at hb; rw [hp]; exact hb
    · rw [upd_ne hbp] at hb; exact p1.fh b o hb
  have rI : Rep R (upd F1 p (.ins C dx (fs1 ++ rest))) (.ins ci ds) (.ref (R.tk 2)) := by
    rw [h2]
    refine .ins (vs := vals) (dx := dx) ?_ hrest hl (rs.mono ex2)
    rw [upd_same, hC, hz]
  refine ⟨upd F1 p (.ins C dx (fs1 ++ rest)), _, _, hn, exH, by rw [List.append_nil]; exact .cons rI (r1.mono ex2), e3, fun v F3 H3 g3 r3 => ?_⟩
  -- the instance is unseen again
  have hpH : ∀ F' : Hp, Ex (upd F1 p (.ins C dx (fs1 ++ rest))) F' → F' p = some (.ins C dx (fs1 ++ rest)) := fun F' x => x p _ upd_same
  have g4 : Grow (ZI R p dx C vv).z F1 H1 (fun a => if a = p then none else F3 a) H3 := by
    refine ⟨fun a o _ ha => g3.ex a o ha, fun a o ha => ?_, fun a o ha => ?_, fun a o ha => ?_⟩
    · have : a ≠ p := ne_of_none ha fp
      simp only [if_neg this]
      exact g3.ff a o (ex2 a o ha)
    · by_cases hap : a = p
      · simp [hap] at ha
      · simp only [if_neg hap] at ha
        exact g3.fh a o ha
    · by_cases hap : a = p
      · simp [hap] at ha
      · simp only [if_neg hap] at ha
        rcases g3.nw a o ha with z | z
        · rw [upd_ne hap] at z; exact .inl z
        · exact .inr z
  refine q v _ H3 (g1.trans g4 p1.hz) ((ZI R p dx C vv).grow k1 ⟨fun a o _ ha => g3.ex a o ha, Ex.refl _, fun a o ha => g3.ex a o (p1.fh a o ha), fun a o ha => .inl ha⟩) (r3.flat (fun a u hu ha => ?_) hfl)
  have : a ≠ p := fun z => by
    subst z
    rw [hpH F3 g3.ff] at ha
    cases ha
    obtain ⟨xs, z | ⟨o, z⟩⟩ := hu <;> cases z
  simp only [if_neg this]
  exact ha
end
/-! statements on self -/
def closedD : D → Bool
  | .int _ => true
  | _ => false
theorem closedD_rep {R : RC} {F : Hp} {d : D} {v : V} (r : Rep R F d v) (h : closedD d = true) (F' : Hp) : Rep R F' d v := by
  cases r <;> first | exact .int _ | cases h
/-- self.f = e -/
def sFldZ (i : Nat) (f : Str) (fe : Fn Raw D) : Stm Raw := fun env s => match fe env s with
  | some (d, s1) => if isTok2 env[i]? then (if closedD d then (if s1.length < 1000 then some (.nx env, putFD f (some d) s1) else none) else none) else none
  | none => none
section
variable {R : RC} {p dx C : Addr} {vv : V} {te : TE} {fe : Fn Raw D}
theorem SI.setZ {F0 H0 F H : Hp} {σ : L2.St} {env : Env} {s : Raw} {f : Str} {v : V} {od : Option D} {fs : List (Str × V)} (pr : SI R (ZI R p dx C vv) F0 H0 σ env F H s) (hd : okF R vv od v) (mf : MatchF R vv s fs) : SI R (ZI R p dx C vv) F0 H0 σ env F (upd H p (.ins C dx (putF f v fs))) (putFD f od s) := by
  have ok := pr.ok
  refine pr.next ⟨fun a o n h => by rw [upd_ne fun z => n (.inl z)]; exact h, Ex.refl _, fun a o h => ?_, fun a o h => .inl h⟩ ⟨ok.1, ⟨_, upd_same, mf.put hd⟩, by rw [upd_ne (Ne.symm ok.1)]; exact ok.2.2⟩
  rw [upd_ne fun z => by rw [z, pr.zf p (.inl rfl)] at h; cases h]
  exact pr.gr.fh a o h
theorem ST.fldZ (h2 : R.tk 2 = p) {i : Nat} {f : Str} (cl : Cls R.K C) (na : NoAttr R.K C f) (h : ES R (ZI R p dx C vv) te fe) : ST R (ZI R p dx C vv) (sFld R.K (tVar i) te f) (sFldZ i f fe) := fun F0 H0 σ env F H s o s' D pr e q => by
  unfold sFldZ at e
  split at e
  case h_2 => cases e
  rename_i d s1 e1
  split at e
  case isFalse => cases e
  rename_i ht
  have ht := isTok2_eq ht
  split at e
  case isFalse => cases e
  rename_i hcl
  split at e
  case isFalse => cases e
  rename_i hl
  cases e
  refine h F0 H0 σ env F H s d _ _ pr e1 fun x F1 H1 p1 x1 r1 => ?_
  obtain ⟨u, hu, ru⟩ := p1.sh i _ rfl ht
  cases ru
  obtain ⟨fs, hf, mf⟩ := p1.ok.2.1
  refine ⟨_, hu, R.tk 2, C, dx, fs, rfl, by rw [h2]; exact hf, cl, na, by rw [← mf.len]; exact hl, ?_⟩
  rw [h2]
  exact q σ F1 _ (p1.setZ (od := some d) (fun F => closedD_rep r1 hcl F) mf) x1
/-- self.f = e, whatever e tells: the last steps of an __init__ -/
theorem ST.lastZ {F0 H0 F H : Hp} {σ : L2.St} {env : Env} {s s1 : Raw} {d : D} {i : Nat} {f : Str} {D : Ends} (h2 : R.tk 2 = p) (cl : Cls R.K C) (na : NoAttr R.K C f) (h : ES R (ZI R p dx C vv) te fe) (pr : SI R (ZI R p dx C vv) F0 H0 σ env F H s) (e : fe env s = some (d, s1)) (ht : env[i]? = some (some (.tok 2))) (hl : s1.length < 1000)
    (q : ∀ v fs F' H', SI R (ZI R p dx C vv) F0 H0 σ env F' H' s1 → H' p = some (.ins C dx fs) → MatchF R vv s1 fs → Ex F F' → Rep R F' d v → D.nx σ (upd H' p (.ins C dx (putF f v fs)))) : sFld R.K (tVar i) te f D σ H := by
  refine h F0 H0 σ env F H s d _ _ pr e fun x F1 H1 p1 x1 r1 => ?_
  obtain ⟨u, hu, ru⟩ := p1.sh i _ rfl ht
  cases ru
  obtain ⟨fs, hf, mf⟩ := p1.ok.2.1
  refine ⟨_, hu, R.tk 2, C, dx, fs, rfl, by rw [h2]; exact hf, cl, na, by rw [← mf.len]; exact hl, ?_⟩
  rw [h2]
  exact q x fs F1 H1 p1 hf mf x1 r1
theorem SI.grZ {F0 H0 F H : Hp} {σ : L2.St} {env : Env} {s : Raw} {fs : List (Str × V)} (pr : SI R (ZI R p dx C vv) F0 H0 σ env F H s) : Grow (ZI R p dx C vv).z F0 H0 F (upd H p (.ins C dx fs)) := by
  refine ⟨fun a o n h => ?_, pr.gr.ff, fun a o h => ?_, pr.gr.nw⟩
  · rw [upd_ne fun z => n (.inl z)]; exact pr.gr.hh a o n h
  · rw [upd_ne fun z => by rw [z, pr.zf p (.inl rfl)] at h; cases h]
    exact pr.gr.fh a o h
def allS : Raw → Bool
  | [] => true
  | (_, some _) :: r => allS r
  | _ => false
theorem MatchF.chg {v w : V} : ∀ {s : Raw} {fs : List (Str × V)}, MatchF R v s fs → allS s = true → MatchF R w s fs
  | _, _, .nil, _ => .nil
  | _, _, .cons (od := some d) k m, h => .cons (od := some d) k (MatchF.chg m h)
  | _, _, .cons (od := none) k m, h => nomatch h
theorem SI.chgZ {w : V} {F0 H0 F H : Hp} {σ : L2.St} {env : Env} {s : Raw} (pr : SI R (ZI R p dx C vv) F0 H0 σ env F H s) (h : allS s = true) : SI R (ZI R p dx C w) F0 H0 σ env F H s :=
  ⟨pr.gr, pr.zf, ⟨pr.ok.1, let ⟨fs, a, b⟩ := pr.ok.2.1; ⟨fs, a, b.chg h⟩, pr.ok.2.2⟩, pr.z0, pr.sh, pr.ow, pr.dj, pr.len⟩
end
/-! a target self.f -/
def gFldT (K : PySem.W.Frag) (ta : TE) (f : Str) : TG := fun v σ H Q => ta σ H fun x H2 => ∃ a C dx fs, x = V.ref a ∧ H2 a = some (HO.ins C dx fs) ∧ Cls K C ∧ NoAttr K C f ∧ fs.length < 1000 ∧ Q σ (upd H2 a (HO.ins C dx (putF f v fs)))
theorem pg_fldT {X : Cx} {o : Expr} {f : Str} {pos : Pos} {ta : TE} (ho : PE X o ta) : PG X (.Attribute o f pos) (gFldT X.K ta f) := by
  refine ⟨fun pins s σ H v u Q I r h => ?_⟩
  simp only [assign]
  refine wpAny_bind (wpAny_holding (thn (ho.run pins s σ H _ I h) fun ov s1 ⟨x, H1, I1, r1, q1⟩ => ?_))
  obtain ⟨a, C, dx, fs, rfl, ha, cl, na, hl, q⟩ := q1
  obtain rfl : ov = .ref a := r1
  refine wpAny_bind (wpAny_standAt (wpAny_bind (wpAny_holding (setattr_ok I1 ha cl na hl r fun s2 I2 => ?_))))
  exact wpAny_release ⟨σ, _, I2, q⟩
end SL
/-! Sem18: a written dict of int keys; making an instance. -/
namespace SL
open PySem L2
open Evl (Ex)
/-- the dict at a of the written part: f tells what stands at an int -/
def KInt (K : PySem.W.Frag) (a : Addr) (f : Int → Option V) : Prop := ∃ es n, List.lookup a K = some { cls := Value.type "dict", data := Data.dict es n } ∧ IntKeys es ∧ (a == sysModules) = false ∧ ∀ k : Int, (match f k with
  | some v => ∃ u, findBy Value.isInt es k = some u ∧ RelV v u
  | none => findBy Value.isInt es k = none)
theorem KInt.map {prog : Program} {w : World} {K : PySem.W.Frag} {a : Addr} {f : Int → Option V} {h : Heap} (kd : KInt K a f) (hk : K.In h) : ∃ g, Heap.MapOf (intKind prog w) h a g ∧ (a == sysModules) = false ∧ ∀ k : Int, (match f k with
  | some v => ∃ u, g k = some u ∧ RelV v u
  | none => g k = none) := by
  obtain ⟨es, n, h1, h2, h3, h4⟩ := kd
  refine ⟨fun k => findBy Value.isInt es k, ⟨_, es, n, hk _ _ h1, ⟨rfl, rfl, rfl⟩, rfl, fun e he => ?_, fun k => rfl⟩, h3, h4⟩
  obtain ⟨k, t, e1, e2⟩ := h2 e he
  refine ⟨k, ?_, e2⟩
  rw [e1]
  show Value.isInt k (Value.int k t) = true
  simp [Value.isInt]
def rNotInKI (K : PySem.W.Frag) (a : Addr) (f : Int → Option V) : R2 := fun x y H Q => ∃ k, x = .int k ∧ y = .ref a ∧ Q (.bl (!(f k).isSome)) H
theorem op_notInKI {X : Cx} {a : Addr} {f : Int → Option V} (kd : KInt X.K a f) : OpR X (compareOp .NotIn) (rNotInKI X.K a f) := by
  intro pins s σ H x y v u Q I rx ry h
  obtain ⟨k, rfl, rfl, q⟩ := h
  obtain ⟨t, rfl⟩ := rx
  obtain rfl : u = .ref a := ry
  obtain ⟨g, hm, hs, hf⟩ := kd.map (prog := X.prog) (w := X.w) I.kIn
  refine wpAny_notIn_of (knd := intKind X.prog X.w) (k := k) (by show Value.isInt k (Value.int k t) = true; simp [Value.isInt]) hs hm ⟨_, H, I.tok _, ?_, q⟩
  have := hf k
  cases e : f k with
  | none => rw [e] at this; simp only at this; rw [this]; rfl
  | some w' =>
    rw [e] at this
    obtain ⟨u, hu, _⟩ := this
    rw [hu]
    rfl
def rIxKI (a : Addr) (f : Int → Option V) : R2 := fun x y H Q => ∃ k v, x = .ref a ∧ y = .int k ∧ f k = some v ∧ Q v H
theorem ix_kint {X : Cx} {a : Addr} {f : Int → Option V} (kd : KInt X.K a f) : IxR X (rIxKI a f) := by
  intro value slice pins s σ H x y v u Q I rx ry h hs
  obtain ⟨k, r, rfl, rfl, hr, q⟩ := h
  obtain rfl : v = .ref a := rx
  obtain ⟨t, rfl⟩ := ry
  obtain ⟨g, hm, hsm, hf⟩ := kd.map (prog := X.prog) (w := X.w) I.kIn
  have := hf k
  rw [hr] at this
  obtain ⟨u, hu, ru⟩ := this
  exact PyProof.Rows.tail_any (Heap.MapOf.typeIs hm) PySem.F.slot_dict_getitem.lookup (wpAny_getItem_of (knd := intKind X.prog X.w) (by show Value.isInt k (Value.int k t) = true; simp [Value.isInt]) hm hu ⟨r, H, I.tok _, ru, q⟩) hs
/-- as operations on data -/
def gNotKI (f : Int → Option Bool) (a : D) : Option D := match a with
  | .int k => match f k with
    | some b => some (.bl (!b))
    | none => none
  | _ => none
def gGetKI (f : Int → Option D) (a : D) : Option D := match a with
  | .int k => f k
  | _ => none
section
variable {S : Type} {T : CT} {Z : SK S} {m : Bool} {e : Expr} {fe : Fn S D} {pos p : Pos} {a : Addr} {fv : Int → Option V} {fd : Int → Option D}
theorem SE.notInKI {x : Str} {fb : Int → Option Bool} (kd : KInt T.R.K a fv) (mx : T.mg x = some (.ref a)) (hs : ∀ k b, fb k = some b → (fv k).isSome = b) (he : SE T Z m e fe) (gx : List.lookup x T.sc.names = some NameKind.globalImplicit := by rfl) (n2 : (x == Str.ofString "__debug__") = false := by rfl) (hm : behindInMarks .NotIn (.Name x p) = false := by rfl) : SE T Z m (.Compare e [.NotIn] [.Name x p] pos) (fUn (gNotKI fb) fe) := by
  obtain ⟨t, pe, ev⟩ := he
  refine ⟨_, fun X h => pe_cmpR (op_notInKI (by rw [h.K]; exact kd)) (pe X h) (pe_glob (v := .ref a) (by show List.lookup x X.env.scope.names = _; rw [h.sc]; exact gx) (by rw [h.mg]; exact mx) (show RelV (.ref a) (.ref a) from rfl) n2) hm, ?_⟩
  intro σ env F H s d s' Q pr ee q
  unfold fUn at ee
  cases h1 : fe env s with
  | none => rw [h1] at ee; cases ee
  | some o1 =>
    obtain ⟨y, s1⟩ := o1
    rw [h1] at ee
    simp only at ee
    split at ee
    case h_1 => cases ee
    rename_i d3 h3
    cases ee
    unfold gNotKI at h3
    split at h3
    case h_2 => cases h3
    rename_i k
    split at h3
    case h_2 => cases h3
    rename_i b hb
    cases h3
    refine ev σ env F H s _ _ _ pr h1 fun v F1 H1 g1 k1 r1 => ?_
    cases r1
    refine ⟨k, rfl, rfl, ?_⟩
    rw [hs k b hb]
    exact q _ F1 H1 g1 k1 (.bl _)
theorem SE.getKI {x : Str} (kd : KInt T.R.K a fv) (mx : T.mg x = some (.ref a)) (hs : ∀ k d, fd k = some d → ∃ v, fv k = some v ∧ ∀ F, Rep T.R F d v) (he : SE T Z m e fe) (gx : List.lookup x T.sc.names = some NameKind.globalImplicit := by rfl) (n2 : (x == Str.ofString "__debug__") = false := by rfl) (hp : PlainIx e := by exact fun _ _ => rfl) : SE T Z m (.Subscript (.Name x p) e pos) (fUn (gGetKI fd) fe) := by
  obtain ⟨t, pe, ev⟩ := he
  refine ⟨_, fun X h => pe_ix (ix_kint (by rw [h.K]; exact kd)) (pe_glob (v := .ref a) (by show List.lookup x X.env.scope.names = _; rw [h.sc]; exact gx) (by rw [h.mg]; exact mx) (show RelV (.ref a) (.ref a) from rfl) n2) (pe X h) hp, ?_⟩
  intro σ env F H s d s' Q pr ee q
  unfold fUn at ee
  cases h1 : fe env s with
  | none => rw [h1] at ee; cases ee
  | some o1 =>
    obtain ⟨y, s1⟩ := o1
    rw [h1] at ee
    simp only at ee
    split at ee
    case h_1 => cases ee
    rename_i d3 h3
    cases ee
    unfold gGetKI at h3
    split at h3
    case h_2 => cases h3
    rename_i k
    refine ev σ env F H s _ _ _ pr h1 fun v F1 H1 g1 k1 r1 => ?_
    cases r1
    obtain ⟨w', hw, rw_⟩ := hs k _ h3
    exact ⟨k, w', rfl, rfl, hw, q w' F1 H1 g1 k1 (rw_ F1)⟩
end
end SL
/-! Sem19: __init__ of the class of fields; an instance is made. -/
namespace SL
open PySem L2
open Evl (Ex)
/-- a row of the table of shapes -/
structure Shp where
  q : Int
  pr : Int
  a1 : Addr
  a2 : Addr
  md : List Int
def Shp.ok (K : PySem.W.Frag) (fv : Int → Option V) (s : Shp) : Prop := fv s.q = some (.ref s.a1) ∧ (∀ H, SqT K H s.a1 [.int s.pr, .ref s.a2]) ∧ ∀ H, SqT K H s.a2 (s.md.map V.int)
def shQ (U : List Shp) (q : Int) : Option Shp := U.find? fun s => s.q == q
def fbU (U : List Shp) : Int → Option Bool := fun q => match shQ U q with
  | some _ => some true
  | none => none
theorem reps_ints {R : RC} {F : Hp} : ∀ ns : List Int, Reps R F (ns.map D.int) (ns.map V.int)
  | [] => .nil
  | _ :: ns => .cons (.int _) (reps_ints ns)
theorem fbU_ok {K : PySem.W.Frag} {U : List Shp} {fv : Int → Option V} (hU : ∀ s ∈ U, s.ok K fv) : ∀ k b, fbU U k = some b → (fv k).isSome = b := fun k b h => by
  unfold fbU at h
  split at h
  case h_2 => cases h
  rename_i s hs
  cases h
  have h1 := List.find?_some hs
  have h2 := hU s (List.mem_of_find?_eq_some hs)
  have : s.q = k := by simpa using h1
  subst this
  rw [h2.1]
  rfl
def nPrime : Str := Str.ofString "prime"
def nModulus : Str := Str.ofString "modulus"
/-- self.prime, self.modulus = SHAPES[e] -/
def sShape (U : List Shp) (i : Nat) (fe : Fn Raw D) : Stm Raw := fun env s => match fe env s with
  | some (.int q, s1) => match shQ U q with
    | some sh => if isTok2 env[i]? then if s1.length < 900 then some (.nx env, putFD nModulus (some (.ktup (sh.md.map D.int))) (putFD nPrime (some (.int sh.pr)) s1)) else none else none
    | none => none
  | _ => none
/-- the same, with no address in sight -/
def Shp.pl (s : Shp) : Int × Int × List Int := (s.q, s.pr, s.md)
def shP (L : List (Int × Int × List Int)) (q : Int) : Option (Int × Int × List Int) := L.find? fun s => s.1 == q
theorem shP_eq (q : Int) : ∀ U : List Shp, (shQ U q).map Shp.pl = shP (U.map Shp.pl) q
  | [] => rfl
  | s :: U => by
    have ih := shP_eq q U
    unfold shQ shP at ih ⊢
    rw [List.map_cons, List.find?_cons, List.find?_cons]
    show Option.map Shp.pl (match s.q == q with | true => some s | false => _) = (match s.q == q with | true => _ | false => _)
    cases s.q == q
    · exact ih
    · rfl
def fbP (L : List (Int × Int × List Int)) : Int → Option Bool := fun q => match shP L q with
  | some _ => some true
  | none => none
theorem fbP_ok {K : PySem.W.Frag} {U : List Shp} {fv : Int → Option V} (hU : ∀ s ∈ U, s.ok K fv) : ∀ k b, fbP (U.map Shp.pl) k = some b → (fv k).isSome = b := fun k b h => by
  refine fbU_ok hU k b ?_
  unfold fbP at h
  rw [← shP_eq] at h
  unfold fbU
  cases e : shQ U k with
  | none => rw [e] at h; cases h
  | some x => rw [e] at h; exact h
def sShapeP (L : List (Int × Int × List Int)) (i : Nat) (fe : Fn Raw D) : Stm Raw := fun env s => match fe env s with
  | some (.int q, s1) => match shP L q with
    | some sh => if isTok2 env[i]? then if s1.length < 900 then some (.nx env, putFD nModulus (some (.ktup (sh.2.2.map D.int))) (putFD nPrime (some (.int sh.2.1)) s1)) else none else none
    | none => none
  | _ => none
theorem sShapeP_eq (U : List Shp) (i : Nat) (fe : Fn Raw D) : sShape U i fe = sShapeP (U.map Shp.pl) i fe := by
  funext env s
  unfold sShape sShapeP
  split
  · simp only [← shP_eq]
    split
    · rename_i e
      rw [e]
      rfl
    · rename_i e
      rw [e]
      rfl
  · rfl
theorem putF_len (f : Str) (v : V) : ∀ s : List (Str × V), (putF f v s).length ≤ s.length + 1
  | [] => by simp [putF]
  | (g, w) :: r => by
    have := putF_len f v r
    unfold putF
    split <;> simp <;> omega
section
variable {R : RC} {p dx C a : Addr} {vv : V} {te : TE} {fe : Fn Raw D} {U : List Shp} {fv : Int → Option V}
theorem ST.shape (h2 : R.tk 2 = p) {i : Nat} (hU : ∀ s ∈ U, s.ok R.K fv) (cl : Cls R.K C) (n1 : NoAttr R.K C nPrime) (n2 : NoAttr R.K C nModulus) (h : ES R (ZI R p dx C vv) te fe) : ST R (ZI R p dx C vv) (tAsg (tOp (rIxKI a fv) (tC (.ref a)) te) (gTup R.K 2 (gCons (gFldT R.K (tVar i) nPrime) (gCons (gFldT R.K (tVar i) nModulus) gNil)))) (sShape U i fe) := fun F0 H0 σ env F H s o s' De pr e q => by
  unfold sShape at e
  split at e
  case h_2 => cases e
  rename_i k s1 e1
  split at e
  case h_2 => cases e
  rename_i sh hsh
  split at e
  case isFalse => cases e
  rename_i ht
  have ht := isTok2_eq ht
  split at e
  case isFalse => cases e
  rename_i hl
  cases e
  have g1 := List.find?_some hsh
  have g2 := hU sh (List.mem_of_find?_eq_some hsh)
  have hq : sh.q = k := by simpa using g1
  refine h F0 H0 σ env F H s _ _ _ pr e1 fun x F1 H1 p1 x1 r1 => ?_
  cases r1
  obtain ⟨u, hu, ru⟩ := p1.sh i _ rfl ht
  cases ru
  obtain ⟨fs, hf, mf⟩ := p1.ok.2.1
  refine ⟨k, .ref sh.a1, rfl, rfl, by rw [← hq]; exact g2.1, sh.a1, [.int sh.pr, .ref sh.a2], rfl, g2.2.1 H1, rfl, .int sh.pr, [.ref sh.a2], rfl, ?_⟩
  refine ⟨_, hu, R.tk 2, C, dx, fs, rfl, by rw [h2]; exact hf, cl, n1, by rw [← mf.len]; omega, ?_⟩
  rw [h2]
  have m2 := mf.put (f := nPrime) (od := some (.int sh.pr)) (v := .int sh.pr) (fun F => .int _)
  have p2 := p1.setZ (f := nPrime) (od := some (.int sh.pr)) (v := .int sh.pr) (fun F => .int _) mf
  refine ⟨.ref sh.a2, [], rfl, _, hu, R.tk 2, C, dx, putF nPrime (.int sh.pr) fs, rfl, by rw [h2, upd_same], cl, n2, by have := putF_len nPrime (.int sh.pr) fs; rw [← mf.len] at this; omega, ?_⟩
  rw [h2]
  have p3 := p2.setZ (f := nModulus) (od := some (.ktup (sh.md.map D.int))) (v := .ref sh.a2) (fun F => .ktup (g2.2.2 F) (reps_ints _)) m2
  exact ⟨rfl, q σ F1 _ p3 x1⟩
end
/-! the rules -/
section
variable {T : CT} {p dx C : Addr} {vv : V} {m : Bool} {e o : Expr} {es : List Expr} {fe : Fn Raw D} {fr : Fn Raw (List D)} {pos p2 p3 pp apos : Pos} {U : List Shp} {fv : Int → Option V}
theorem SE.fldZ (i : Nat) {x f : Str} (h2 : T.R.tk 2 = p) (cl : Cls T.R.K C) (na : NoAttr T.R.K C f) (hx : T.N[i]? = some x := by rfl) (hv : Vis T.sc x := by first | exact .inl rfl | exact .inr (.inl rfl) | exact .inr (.inr rfl)) (n1 : (x == Str.ofString "__debug__") = false := by rfl) (n2 : (x == Str.ofString "__classdict__") = false := by rfl) (hb : ∀ env, attributeBase (.Name x p2) f env (eval (.Name x p2) env) = eval (.Name x p2) env := by exact fun _ => rfl) : SE T (ZI T.R p dx C vv) m (.Attribute (.Name x p2) f pos) (fFldZ i f) :=
  ⟨_, fun X h => by
    have := pe_fld (pos := pos) (pv (pos := p2) i (by rw [h.N]; exact hx) (by rw [h.sc]; exact hv) n1 n2) (hb X.env)
    rw [h.K] at this
    exact this, EV.fldZ h2 cl na⟩
theorem SE.methZ (i ci : Nat) {x mm : Str} {k n : Nat} {f : Addr} {fd : FuncData} {ps : List Str} {g : List D → Option D} (h2 : T.R.tk 2 = p) (hC : T.R.cl ci = C) (cl : Cls T.R.K C) (me : Meth T.R.K C mm f) (G : FnOk T.P T.w T.R.K T.mg T.base CX0 k f fd ps (spP T.R n g)) (hk2 : k ≤ T.k) (b : Binds T.R.K fd ps [])
    (hA : SA T (ZI T.R p dx C vv) m (e :: es) fr) (hx : T.N[i]? = some x := by rfl) (hv : Vis T.sc x := by first | exact .inl rfl | exact .inr (.inl rfl) | exact .inr (.inr rfl)) (n1 : (x == Str.ofString "__debug__") = false := by rfl) (n2 : (x == Str.ofString "__classdict__") = false := by rfl)
    (hs : ∀ env, starEach (e :: es) env = (false, eval e env) :: starEach es env := by exact fun _ => rfl) (hs2 : ∀ env, ((backTo pos (starEach es env)).any fun x => x.fst) = false := by exact fun _ => rfl)
    (hc : ∀ env, ∃ pl : Sem Bool, eval (.Call (.Attribute (.Name x p2) mm apos) (e :: es) [] pos) env = (do
      let ov ← eval (.Name x p2) env
      standAt apos.atName
      let __x ← holding [ov] (getMethod ov mm pl)
      match __x with
        | (f, first) => callWith pos f first (backTo pos (starEach (e :: es) env)) (backToKw pos (keywordEach [] env))) := by exact fun _ => ⟨_, rfl⟩) : SE T (ZI T.R p dx C vv) m (.Call (.Attribute (.Name x p2) mm apos) (e :: es) [] pos) (fMethZ (T.R.nm ci) ci n g mm i fr) := by
  obtain ⟨t, pA, eA⟩ := hA
  refine ⟨_, fun X h => ?_, EV.methZ h2 hC eA⟩
  have G' : FnOk X.prog X.w X.K X.mg X.base CX0 k f fd ps (spP T.R n g) := by rw [h.prog, h.w, h.K, h.mg, h.base]; exact G
  obtain ⟨pl, hpl⟩ := hc X.env
  exact pe_meth (pv (pos := p2) i (by rw [h.N]; exact hx) (by rw [h.sc]; exact hv) n1 n2) (by rw [h.K]; exact cl) (by rw [h.K]; exact me) G' (h.room.mono hk2) (by rw [h.K]; exact b) .nil pass0 (pA X h) (hs X.env) (hs2 X.env) hpl
theorem SS.fldZ (i : Nat) {x f : Str} (h2 : T.R.tk 2 = p) (cl : Cls T.R.K C) (na : NoAttr T.R.K C f) (h : XE T (ZI T.R p dx C vv) e fe) (hx : T.N[i]? = some x := by rfl) (hv : Vis T.sc x := by first | exact .inl rfl | exact .inr (.inl rfl) | exact .inr (.inr rfl)) (n1 : (x == Str.ofString "__debug__") = false := by rfl) (n2 : (x == Str.ofString "__classdict__") = false := by rfl) (hs : swapsWith e (some (.Attribute (.Name x p2) f p3)) pos.line (dE T.sc) = pure false := by rfl) : SS T (ZI T.R p dx C vv) (.Assign [.Attribute (.Name x p2) f p3] e pos) (sFldZ i f fe) := by
  obtain ⟨t, pe, ev⟩ := h
  exact ⟨_, fun X h => by
    have := ps_fld (pos := pos) (pos' := p3) (f := f) (pv (pos := p2) i (by rw [h.N]; exact hx) (by rw [h.sc]; exact hv) n1 n2) (pe X h) (by rw [sw_dE, h.sc]; exact hs)
    rw [h.K] at this
    exact this, ST.fldZ h2 cl na ev⟩
/-- the last steps: any value -/
def SFz (T : CT) (Z : SK Raw) (st : Stmt) (i : Nat) (f : Str) (fe : Fn Raw D) : Prop := ∃ te, (∀ X, Is T X → PS X st (sFld T.R.K (tVar i) te f)) ∧ ES T.R Z te fe
theorem SFz.mk (i : Nat) {x f : Str} (h : XE T (ZI T.R p dx C vv) e fe) (hx : T.N[i]? = some x := by rfl) (hv : Vis T.sc x := by first | exact .inl rfl | exact .inr (.inl rfl) | exact .inr (.inr rfl)) (n1 : (x == Str.ofString "__debug__") = false := by rfl) (n2 : (x == Str.ofString "__classdict__") = false := by rfl) (hs : swapsWith e (some (.Attribute (.Name x p2) f p3)) pos.line (dE T.sc) = pure false := by rfl) : SFz T (ZI T.R p dx C vv) (.Assign [.Attribute (.Name x p2) f p3] e pos) i f fe := by
  obtain ⟨t, pe, ev⟩ := h
  exact ⟨t, fun X h => by
    have := ps_fld (pos := pos) (pos' := p3) (f := f) (pv (pos := p2) i (by rw [h.N]; exact hx) (by rw [h.sc]; exact hv) n1 n2) (pe X h) (by rw [sw_dE, h.sc]; exact hs)
    rw [h.K] at this
    exact this, ev⟩
theorem SS.shape (i : Nat) {x y : Str} {a : Addr} {kt' : Nat} {p4 p5 p6 pt : Pos} (h2 : T.R.tk 2 = p) (kd : KInt T.R.K a fv) (my : T.mg y = some (.ref a)) (hU : ∀ s ∈ U, s.ok T.R.K fv) (cl : Cls T.R.K C) (n1 : NoAttr T.R.K C nPrime) (n2 : NoAttr T.R.K C nModulus) (h : XE T (ZI T.R p dx C vv) e fe)
    (hx : T.N[i]? = some x := by rfl) (hv : Vis T.sc x := by first | exact .inl rfl | exact .inr (.inl rfl) | exact .inr (.inr rfl)) (n1 : (x == Str.ofString "__debug__") = false := by rfl) (n2 : (x == Str.ofString "__classdict__") = false := by rfl) (gy : List.lookup y T.sc.names = some NameKind.globalImplicit := by rfl) (ny : (y == Str.ofString "__debug__") = false := by rfl) (hp : PlainIx e := by exact fun _ _ => rfl)
    (hs : swapsWithSole [.Tuple [.Attribute (.Name x p2) nPrime p3, .Attribute (.Name x p4) nModulus p5] kt' pt] (.Subscript (.Name y p6) e pp) pos.line (dE T.sc) = pure false := by rfl) (hs2 : swappedStores [.Tuple [.Attribute (.Name x p2) nPrime p3, .Attribute (.Name x p4) nModulus p5] kt' pt] (.Subscript (.Name y p6) e pp) (dE T.sc) = pure none := by rfl)
    (hs3 : ∀ env, List.map (fun x => x.snd) (assignEach [.Tuple [.Attribute (.Name x p2) nPrime p3, .Attribute (.Name x p4) nModulus p5] kt' pt] env) = [assign (.Tuple [.Attribute (.Name x p2) nPrime p3, .Attribute (.Name x p4) nModulus p5] kt' pt) env] := by exact fun _ => rfl)
    (hq : ∀ env, (assignEach [.Attribute (.Name x p2) nPrime p3, .Attribute (.Name x p4) nModulus p5] env).length = 2 ∧ List.findIdx? (fun x => x.fst) (assignEach [.Attribute (.Name x p2) nPrime p3, .Attribute (.Name x p4) nModulus p5] env) = none ∧ List.map (fun x => x.snd) (assignEach [.Attribute (.Name x p2) nPrime p3, .Attribute (.Name x p4) nModulus p5] env) = assign (.Attribute (.Name x p2) nPrime p3) env :: List.map (fun x => x.snd) (assignEach [.Attribute (.Name x p4) nModulus p5] env) ∧ List.map (fun x => x.snd) (assignEach [.Attribute (.Name x p4) nModulus p5] env) = assign (.Attribute (.Name x p4) nModulus p5) env :: List.map (fun x => x.snd) (assignEach [] env) := by exact fun _ => ⟨rfl, rfl, rfl, rfl⟩) :
    SS T (ZI T.R p dx C vv) (.Assign [.Tuple [.Attribute (.Name x p2) nPrime p3, .Attribute (.Name x p4) nModulus p5] kt' pt] (.Subscript (.Name y p6) e pp) pos) (sShapeP (U.map Shp.pl) i fe) := by
  rw [← sShapeP_eq]
  obtain ⟨t, pe, ev⟩ := h
  exact ⟨_, fun X h => by
    have hself : ∀ p2, PE X (.Name x p2) (tVar i) := fun p2 => pv (pos := p2) i (by rw [h.N]; exact hx) (by rw [h.sc]; exact hv) n1 n2
    have hg := pg_tup (k := kt') (pos := pt) h.calm (pgs_cons (pg_fldT (f := nPrime) (pos := p3) (hself p2)) (pgs_cons (pg_fldT (f := nModulus) (pos := p5) (hself p4)) pgs_nil (hq X.env).2.2.2) (hq X.env).2.2.1) (hq X.env).1 (hq X.env).2.1
    rw [h.K] at hg
    exact ps_asg (pe_ix (ix_kint (by rw [h.K]; exact kd)) (pe_glob (v := .ref a) (by show List.lookup y X.env.scope.names = _; rw [h.sc]; exact gy) (by rw [h.mg]; exact my) (show RelV (.ref a) (.ref a) from rfl) ny) (pe X h) hp) hg (by rw [sws_dE, h.sc]; exact hs) (by rw [sst_dE, h.sc]; exact hs2) (hs3 X.env), ST.shape h2 hU cl ‹NoAttr T.R.K C nPrime› ‹NoAttr T.R.K C nModulus› ev⟩
end
end SL
/-! Sem20: Field(q). -/
namespace SL
open PySem L2
open Evl (Ex)
/-! a datum without tokens stands whatever the tokens are -/
mutual
def D.ntk : D → Bool
  | .tok _ => false
  | .tup ds => D.ntks ds
  | .ktup ds => D.ntks ds
  | .lst ds => D.ntks ds
  | .own ds => D.ntks ds
  | .dic _ _ _ ds => D.ntks ds
  | .xtup ds => D.ntks ds
  | .ins _ ds => D.ntks ds
  | _ => true
def D.ntks : List D → Bool
  | [] => true
  | d :: ds => d.ntk && D.ntks ds
end
def RC.tkd (R : RC) (tk : Nat → Addr) : RC := { R with tk := tk }
section
variable {R : RC} {tk : Nat → Addr} {F : Hp}
mutual
theorem Rep.retk : ∀ {d : D} {v : V}, Rep R F d v → d.ntk = true → Rep (R.tkd tk) F d v
  | _, _, .non, _ => .non
  | _, _, .bl b, _ => .bl b
  | _, _, .int i, _ => .int i
  | _, _, .str x, _ => .str x
  | _, _, .tup h r, k => .tup h (Reps.retk r (by simpa [D.ntk] using k))
  | _, _, .ktup h r, k => .ktup h (Reps.retk r (by simpa [D.ntk] using k))
  | _, _, .lst h r, k => .lst h (Reps.retk r (by simpa [D.ntk] using k))
  | _, _, .ins h n l r, k => .ins h n l (Reps.retk r (by simpa [D.ntk] using k))
  | _, _, .xtup h r, k => .xtup h (Reps.retk r (by simpa [D.ntk] using k))
  | _, _, .dicK h r, k => .dicK h (Reps.retk r (by simpa [D.ntk] using k))
  | _, _, .dicT h r, k => .dicT h (Reps.retk r (by simpa [D.ntk] using k))
  | _, _, .tok n, k => by simp [D.ntk] at k
theorem Reps.retk : ∀ {ds : List D} {vs : List V}, Reps R F ds vs → D.ntks ds = true → Reps (R.tkd tk) F ds vs
  | _, _, .nil, _ => .nil
  | _, _, .cons h r, k => by
    simp only [D.ntks, Bool.and_eq_true] at k
    exact .cons (Rep.retk h k.1) (Reps.retk r k.2)
end
end
def fieldN4 : List Str := [Str.ofString "size", Str.ofString "prime", Str.ofString "modulus", Str.ofString "degree"]
def fieldN6 : List Str := fieldN4 ++ [Str.ofString "sums", Str.ofString "products"]
def fieldNm : Nat → List Str
  | 0 => fieldN6
  | _ => fieldN4
theorem fieldNm_nd (i : Nat) : (fieldNm i).Nodup := by
  match i with
  | 0 => decide
  | _ + 1 => exact (by decide : fieldN4.Nodup)
def nProducts : Str := Str.ofString "products"
/-- what __init__ does at q, step by step -/
structure FRun (n : Nat) (f1 f2 f3 f4 f5 : Stm Raw) (f6 f7 : Fn Raw D) (q : Int) (ds : List D) : Prop where
  run : ∃ e1 s1 e2 s2 e3 s3 e4 s4 e5 s5 d4 d6 d7, f1 (startE n [.tok 2, .int q]) [] = some (.nx e1, s1) ∧ f2 e1 s1 = some (.nx e2, s2) ∧ f3 e2 s2 = some (.nx e3, s3) ∧ f4 e3 s3 = some (.nx e4, s4) ∧ f5 e4 s4 = some (.nx e5, s5) ∧
    e5[0]? = some (some (.tok 2)) ∧ f6 e5 s5 = some (d6, s5) ∧ f7 e5 (putFD nSums none s5) = some (d7, putFD nSums none s5) ∧ rawD fieldN4 s5 = some d4 ∧ ds = d4 ++ [d6, d7] ∧ d6.ntk = true ∧ d7.ntk = true ∧ D.ntks d4 = true
def spInit (K : PySem.W.Frag) (C : Addr) (R : RC) (FR : Int → List D → Prop) : Sp := fun vs H Q _ => ∃ (p dx : Addr) (q : Int) (F : Hp) (ds : List D), vs = [.ref p, .int q] ∧ p ≠ dx ∧ H p = some (.ins C dx []) ∧ H dx = some (.own p) ∧ Ex F H ∧ F p = none ∧ F dx = none ∧ FR q ds ∧
  ∀ F' H' vals, Grow (ZI R p dx C .non).z F H F' H' → H' p = some (.ins C dx (fieldN6.zip vals)) → H' dx = some (.own p) → F' p = none → fieldN6.length = vals.length → Reps R F' ds vals → Q .non H'
mutual
def D.same : D → D → Bool
  | .non, .non => true
  | .bl a, .bl b => a == b
  | .int a, .int b => a == b
  | .str a, .str b => a == b
  | .tok a, .tok b => a == b
  | .tup a, .tup b => D.sames a b
  | .ktup a, .ktup b => D.sames a b
  | .lst a, .lst b => D.sames a b
  | .own a, .own b => D.sames a b
  | .ins c a, .ins k b => c == k && D.sames a b
  | _, _ => false
def D.sames : List D → List D → Bool
  | [], [] => true
  | a :: r, b :: q => D.same a b && D.sames r q
  | _, _ => false
end
mutual
theorem D.same_eq : ∀ {a b : D}, D.same a b = true → a = b
  | .non, b, h => by cases b <;> first | rfl | (simp [D.same] at h)
  | .bl a, b, h => by cases b <;> first | (simp [D.same] at h; done) | (simp [D.same] at h; rw [h])
  | .int a, b, h => by cases b <;> first | (simp [D.same] at h; done) | (simp [D.same] at h; rw [h])
  | .str a, b, h => by cases b <;> first | (simp [D.same] at h; done) | (simp [D.same] at h; rw [h])
  | .tok a, b, h => by cases b <;> first | (simp [D.same] at h; done) | (simp [D.same] at h; rw [h])
  | .tup a, b, h => by cases b <;> first | (simp [D.same] at h; done) | (simp only [D.same] at h; rw [D.sames_eq h])
  | .ktup a, b, h => by cases b <;> first | (simp [D.same] at h; done) | (simp only [D.same] at h; rw [D.sames_eq h])
  | .lst a, b, h => by cases b <;> first | (simp [D.same] at h; done) | (simp only [D.same] at h; rw [D.sames_eq h])
  | .own a, b, h => by cases b <;> first | (simp [D.same] at h; done) | (simp only [D.same] at h; rw [D.sames_eq h])
  | .ins c a, b, h => by
    cases b <;> first | (simp [D.same] at h; done) | (simp only [D.same, Bool.and_eq_true, beq_iff_eq] at h; rw [h.1, D.sames_eq h.2])
  | .odk _ _ _, b, h => by cases b <;> simp [D.same] at h
  | .dic _ _ _ _, b, h => by cases b <;> simp [D.same] at h
  | .xtup _, b, h => by cases b <;> simp [D.same] at h
theorem D.sames_eq : ∀ {a b : List D}, D.sames a b = true → a = b
  | [], [], _ => rfl
  | [], _ :: _, h => by simp [D.sames] at h
  | _ :: _, [], h => by simp [D.sames] at h
  | a :: r, b :: q, h => by
    simp only [D.sames, Bool.and_eq_true] at h
    rw [D.same_eq h.1, D.sames_eq h.2]
end
def rawSame : Raw → Raw → Bool
  | [], [] => true
  | (f, some a) :: r, (g, some b) :: q => f == g && (D.same a b && rawSame r q)
  | (f, none) :: r, (g, none) :: q => f == g && rawSame r q
  | _, _ => false
theorem rawSame_eq : ∀ {a b : Raw}, rawSame a b = true → a = b
  | [], [], _ => rfl
  | [], (_, _) :: _, h => by simp [rawSame] at h
  | (_, _) :: _, [], h => by simp [rawSame] at h
  | (f, some a) :: r, (g, some b) :: q, h => by
    simp only [rawSame, Bool.and_eq_true, beq_iff_eq] at h
    rw [h.1, D.same_eq h.2.1, rawSame_eq h.2.2]
  | (f, none) :: r, (g, none) :: q, h => by
    simp only [rawSame, Bool.and_eq_true, beq_iff_eq] at h
    rw [h.1, rawSame_eq h.2]
  | (f, some a) :: r, (g, none) :: q, h => by simp [rawSame] at h
  | (f, none) :: r, (g, some a) :: q, h => by simp [rawSame] at h
/-- the same, computed -/
def fieldRun (n : Nat) (f1 f2 f3 f4 f5 : Stm Raw) (f6 f7 : Fn Raw D) (q : Int) : Option (List D) := match f1 (startE n [.tok 2, .int q]) [] with
  | some (.nx e1, s1) => match f2 e1 s1 with
    | some (.nx e2, s2) => match f3 e2 s2 with
      | some (.nx e3, s3) => match f4 e3 s3 with
        | some (.nx e4, s4) => match f5 e4 s4 with
          | some (.nx e5, s5) => if isTok2 e5[0]? then match f6 e5 s5 with
            | some (d6, s6) => if rawSame s6 s5 then match f7 e5 (putFD nSums none s5) with
              | some (d7, s7) => if rawSame s7 (putFD nSums none s5) then match rawD fieldN4 s5 with
                | some d4 => if d6.ntk = true ∧ d7.ntk = true ∧ D.ntks d4 = true then some (d4 ++ [d6, d7]) else none
                | none => none else none
              | none => none else none
            | none => none else none
          | _ => none
        | _ => none
      | _ => none
    | _ => none
  | _ => none
theorem fieldRun_ok {n : Nat} {f1 f2 f3 f4 f5 : Stm Raw} {f6 f7 : Fn Raw D} {q : Int} {ds : List D} (h : fieldRun n f1 f2 f3 f4 f5 f6 f7 q = some ds) : FRun n f1 f2 f3 f4 f5 f6 f7 q ds := by
  unfold fieldRun at h
  split at h
  case h_2 => cases h
  rename_i r1
  split at h
  case h_2 => cases h
  rename_i r2
  split at h
  case h_2 => cases h
  rename_i r3
  split at h
  case h_2 => cases h
  rename_i r4
  split at h
  case h_2 => cases h
  rename_i r5
  split at h
  case isFalse => cases h
  rename_i ht
  split at h
  case h_2 => cases h
  rename_i r6
  split at h
  case isFalse => cases h
  rename_i hs6
  split at h
  case h_2 => cases h
  rename_i r7
  split at h
  case isFalse => cases h
  rename_i hs7
  split at h
  case h_2 => cases h
  rename_i r8
  split at h
  case isFalse => cases h
  rename_i hk
  cases h
  have hs6 := rawSame_eq hs6
  have hs7 := rawSame_eq hs7
  subst hs6
  subst hs7
  exact ⟨_, _, _, _, _, _, _, _, _, _, _, _, _, r1, r2, r3, r4, r5, isTok2_eq ht, r6, r7, r8, rfl, hk.1, hk.2.1, hk.2.2⟩
theorem pss_ex2 {X : Cx} {sts : List Stmt} {tf : Addr → Addr → TS} (h : ∀ p dx, PSs X sts (tf p dx)) : PSs X sts (fun D σ H => ∃ p dx, tf p dx D σ H) := ⟨fun pins s σ H D I ⟨p, dx, k⟩ => (h p dx).run pins s σ H D I k⟩
theorem putF_zip (s : List (Str × V)) (vs : List V) (v6 v7 : V) (h : s = fieldN4.zip vs) (hl : fieldN4.length = vs.length) : putF nProducts v7 (putF nSums v6 s) = fieldN6.zip (vs ++ [v6, v7]) := by
  subst h
  match vs, hl with
  | [a, b, c, d], _ => rfl
theorem putF_zip7 (vs : List V) (v6 v7 : V) (fs : List (Str × V)) (h : fs = (fieldN4 ++ [nSums]).zip (vs ++ [v6])) (hl : fieldN4.length = vs.length) : putF nProducts v7 fs = fieldN6.zip (vs ++ [v6, v7]) := by
  subst h
  match vs, hl with
  | [a, b, c, d], _ => rfl
theorem last_fs {R : RC} (F : Hp) {v6 : V} {s : Raw} {fs : List (Str × V)} {d4 : List D} (h : rawD fieldN4 s = some d4) (m : MatchF R v6 (putFD nSums none s) fs) : ∃ vs, ∃ _ : True, fs = (fieldN4 ++ [nSums]).zip (vs ++ [v6]) ∧ fieldN4.length = vs.length ∧ Reps R F d4 vs := by
  have inv : ∀ (ns : List Str) (s : Raw) (ds : List D), rawD ns s = some ds → s = ns.zip (ds.map some) ∧ ns.length = ds.length := by
    intro ns
    induction ns with
    | nil =>
      intro s ds h
      cases s with
      | nil => cases h; exact ⟨rfl, rfl⟩
      | cons _ _ => cases h
    | cons n ns ih =>
      intro s ds h
      cases s with
      | nil => cases h
      | cons x r =>
        obtain ⟨f, od⟩ := x
        unfold rawD at h
        split at h
        case isFalse => cases h
        rename_i hn
        split at h
        case h_2 => cases h
        rename_i d
        split at h
        case h_2 => cases h
        rename_i ds1 hds
        cases h
        obtain ⟨e1, e2⟩ := ih r ds1 hds
        subst hn e1
        exact ⟨rfl, by simp [e2]⟩
  obtain ⟨e1, e2⟩ := inv _ _ _ h
  match d4, e2 with
  | [a, b, c, d], _ =>
    subst e1
    have e3 : putFD nSums none (fieldN4.zip ([a, b, c, d].map some)) = [(Str.ofString "size", some a), (Str.ofString "prime", some b), (Str.ofString "modulus", some c), (Str.ofString "degree", some d), (nSums, none)] := rfl
    rw [e3] at m
    cases m with
    | cons k1 m => cases m with
      | cons k2 m => cases m with
        | cons k3 m => cases m with
          | cons k4 m => cases m with
            | cons k5 m =>
              cases m
              have : _ = v6 := k5
              subst this
              exact ⟨[_, _, _, _], trivial, rfl, rfl, .cons (k1 F) (.cons (k2 F) (.cons (k3 F) (.cons (k4 F) .nil)))⟩
theorem pss_exv {X : Cx} {sts : List Stmt} {tf : V → TS} (h : ∀ v, PSs X sts (tf v)) : PSs X sts (fun D σ H => ∃ v, tf v D σ H) := ⟨fun pins s σ H D I ⟨v, k⟩ => (h v).run pins s σ H D I k⟩
theorem rawD_all : ∀ {ns : List Str} {s : Raw} {ds : List D}, rawD ns s = some ds → allS s = true
  | [], [], _, _ => rfl
  | [], _ :: _, _, h => by cases h
  | _ :: _, [], _, h => by cases h
  | n :: ns, (f, none) :: r, _, h => by
    unfold rawD at h
    split at h <;> cases h
  | n :: ns, (f, some d) :: r, _, h => by
    unfold rawD at h
    split at h
    case isFalse => cases h
    simp only at h
    split at h
    case h_2 => cases h
    rename_i hds
    exact rawD_all (s := r) hds
theorem init_ok {P : Program} {w : World} {R0 : RC} {mg : Str → Option Value} {base : Heap} {x qual : Str} {st : Stmt} {f C : Addr} {fd : FuncData} {N ps : List Str} {k : Nat} {s1 s2 s3 s4 s5 s6 s7 : Stmt} {f1 f2 f3 f4 f5 : Stm Raw} {f6 f7 : Fn Raw D}
    (F : Fun R0.K x qual st f fd) (sc : FnScope N ps (defScope st)) (hps : ps.length = 2) (hN : 2 ≤ N.length) (hnm : R0.nm = fieldNm) (cl : Cls R0.K C) (nS : NoAttr R0.K C nSums) (nP : NoAttr R0.K C nProducts)
    (hb : defBody st = [s1, s2, s3, s4, s5, s6, s7])
    (h1 : ∀ p dx vv, SS ⟨P, w, R0.tkd fun _ => p, mg, base, N, defScope st, fun _ => true, k⟩ (ZI (R0.tkd fun _ => p) p dx C vv) s1 f1)
    (h2 : ∀ p dx vv, SS ⟨P, w, R0.tkd fun _ => p, mg, base, N, defScope st, fun _ => true, k⟩ (ZI (R0.tkd fun _ => p) p dx C vv) s2 f2)
    (h3 : ∀ p dx vv, SS ⟨P, w, R0.tkd fun _ => p, mg, base, N, defScope st, fun _ => true, k⟩ (ZI (R0.tkd fun _ => p) p dx C vv) s3 f3)
    (h4 : ∀ p dx vv, SS ⟨P, w, R0.tkd fun _ => p, mg, base, N, defScope st, fun _ => true, k⟩ (ZI (R0.tkd fun _ => p) p dx C vv) s4 f4)
    (h5 : ∀ p dx vv, SS ⟨P, w, R0.tkd fun _ => p, mg, base, N, defScope st, fun _ => true, k⟩ (ZI (R0.tkd fun _ => p) p dx C vv) s5 f5)
    (h6 : ∀ p dx vv, SFz ⟨P, w, R0.tkd fun _ => p, mg, base, N, defScope st, fun _ => true, k⟩ (ZI (R0.tkd fun _ => p) p dx C vv) s6 0 nSums f6)
    (h7 : ∀ p dx vv, SFz ⟨P, w, R0.tkd fun _ => p, mg, base, N, defScope st, fun _ => true, k⟩ (ZI (R0.tkd fun _ => p) p dx C vv) s7 0 nProducts f7) :
    FnOk P w R0.K mg base CX0 (k + 1) f fd ps (spInit R0.K C R0 (FRun N.length f1 f2 f3 f4 f5 f6 f7)) := by
  refine F.ok sc (fun vs H Q E h => ?_) (fun cdv A outer s H vs Q E hr h => ?_)
  · obtain ⟨p, dx, q, F, ds, rfl, _⟩ := h
    rw [hps]
    rfl
  · obtain ⟨p, dx, q, F', ds, rfl, hne, hp, hd, fh, fp, fdx, hrun, hQ⟩ := h
    have g1 := fun p dx => Classical.choose_spec (h1 p dx .non)
    have g2 := fun p dx => Classical.choose_spec (h2 p dx .non)
    have g3 := fun p dx => Classical.choose_spec (h3 p dx .non)
    have g4 := fun p dx => Classical.choose_spec (h4 p dx .non)
    have g5 := fun p dx => Classical.choose_spec (h5 p dx .non)
    have g6 := fun p dx => Classical.choose_spec (h6 p dx .non)
    have g7 := fun p dx vv => Classical.choose_spec (h7 p dx vv)
    have key : PSs (cxOf CX0 P w R0.K mg base N qual (defScope st) f cdv A outer s H E).nox (defBody st) (fun D σ H => ∃ p dx, tSeq (Classical.choose (h1 p dx .non)) (tSeq (Classical.choose (h2 p dx .non)) (tSeq (Classical.choose (h3 p dx .non)) (tSeq (Classical.choose (h4 p dx .non)) (tSeq (Classical.choose (h5 p dx .non)) (tSeq (sFld R0.K (tVar 0) (Classical.choose (h6 p dx .non)) nSums) (fun D σ H => ∃ vv, sFld R0.K (tVar 0) (Classical.choose (h7 p dx vv)) nProducts D σ H)))))) D σ H) := by
      rw [hb]
      exact pss_ex2 fun p dx => pss_cons ((g1 p dx).1 _ ⟨rfl, rfl, rfl, rfl, rfl, rfl, rfl, fun _ _ => rfl, rfl, hr, sc.nd, PassesOwn.never⟩) (pss_cons ((g2 p dx).1 _ ⟨rfl, rfl, rfl, rfl, rfl, rfl, rfl, fun _ _ => rfl, rfl, hr, sc.nd, PassesOwn.never⟩) (pss_cons ((g3 p dx).1 _ ⟨rfl, rfl, rfl, rfl, rfl, rfl, rfl, fun _ _ => rfl, rfl, hr, sc.nd, PassesOwn.never⟩) (pss_cons ((g4 p dx).1 _ ⟨rfl, rfl, rfl, rfl, rfl, rfl, rfl, fun _ _ => rfl, rfl, hr, sc.nd, PassesOwn.never⟩) (pss_cons ((g5 p dx).1 _ ⟨rfl, rfl, rfl, rfl, rfl, rfl, rfl, fun _ _ => rfl, rfl, hr, sc.nd, PassesOwn.never⟩) (pss_cons ((g6 p dx).1 _ ⟨rfl, rfl, rfl, rfl, rfl, rfl, rfl, fun _ _ => rfl, rfl, hr, sc.nd, PassesOwn.never⟩) (pss_exv fun vv => pss_one ((g7 p dx vv).1 _ ⟨rfl, rfl, rfl, rfl, rfl, rfl, rfl, fun _ _ => rfl, rfl, hr, sc.nd, PassesOwn.never⟩)))))))
    refine ⟨_, key, ?_⟩
    · obtain ⟨e1, a1, e2, a2, e3, a3, e4, a4, e5, a5, d4, d6, d7, r1, r2, r3, r4, r5, rt, r6, r7, r8, rfl, t6, t7, t4⟩ := hrun
      refine ⟨p, dx, ?_⟩
      have zf : ∀ a, (ZI (R0.tkd fun _ => p) p dx C .non).z a → F' a = none := fun a ha => by
        rcases ha with rfl | rfl
        · exact fp
        · exact fdx
      have rps : Reps (R0.tkd fun _ => p) F' [.tok 2, .int q] [.ref p, .int q] := .cons (.tok 2) (.cons (.int q) .nil)
      have i0 : SI (R0.tkd fun _ => p) (ZI (R0.tkd fun _ => p) p dx C .non) F' H (L2.start N [.ref p, .int q]) (startE N.length [.tok 2, .int q]) F' H [] := start_si rps rfl fh zf ⟨hne, ⟨[], hp, .nil⟩, hd⟩ hN
      refine (g1 p dx).2 F' H _ _ F' H [] _ _ _ i0 r1 fun σ1 F1 H1 i1 x1 => ?_
      refine (g2 p dx).2 F' H _ _ F1 H1 _ _ _ _ i1 r2 fun σ2 F2 H2 i2 x2 => ?_
      refine (g3 p dx).2 F' H _ _ F2 H2 _ _ _ _ i2 r3 fun σ3 F3 H3 i3 x3 => ?_
      refine (g4 p dx).2 F' H _ _ F3 H3 _ _ _ _ i3 r4 fun σ4 F4 H4 i4 x4 => ?_
      refine (g5 p dx).2 F' H _ _ F4 H4 _ _ _ _ i4 r5 fun σ5 F5 H5 i5 x5 => ?_
      obtain ⟨fs5, hf5, mf5⟩ := i5.ok.2.1
      have hl5 : a5.length ≤ 4 := by
        obtain ⟨vs, e, l, _⟩ := rawD_ok F5 mf5 r8
        rw [mf5.len, e, List.length_zip, l, Nat.min_self, ← l]
        decide
      have ha5 : allS a5 = true := rawD_all r8
      refine ST.lastZ (R := R0.tkd fun _ => p) (p := p) (dx := dx) rfl cl nS (g6 p dx).2 i5 r6 rt (by omega) fun v6 fs6 F6 H6 i6 hp6 mf6 x6 q6 => ?_
      have m6 := (mf6.chg ha5).put (f := nSums) (od := none) (v := v6) rfl
      have i6 := (i6.chgZ (w := v6) ha5).setZ (f := nSums) (od := none) (v := v6) rfl (mf6.chg ha5)
      have hl6 : (putFD nSums none a5).length < 1000 := by
        have h1 := m6.len
        have h2 := putF_len nSums v6 fs6
        have h3 := mf6.len
        omega
      refine ⟨v6, ST.lastZ (R := R0.tkd fun _ => p) (p := p) (dx := dx) rfl cl nP (g7 p dx v6).2 i6 r7 rt hl6 fun v7 fs7 F7 H7 i7 hp7 mf7 x7 q7 => ?_⟩
      obtain ⟨vs, _, e, l, rvs⟩ := last_fs F7 r8 mf7
      have hz : putF nProducts v7 fs7 = fieldN6.zip (vs ++ [v6, v7]) := putF_zip7 vs v6 v7 fs7 e l
      have hok := i7.ok
      have hne2 : dx ≠ p := fun z => hne z.symm
      have back : ∀ {d v}, Rep (R0.tkd fun _ => p) F7 d v → d.ntk = true → Rep R0 F7 d v := fun r k => by
        have := Rep.retk (tk := R0.tk) r k
        exact this
      have backs : Reps R0 F7 d4 vs := by
        have := Reps.retk (tk := R0.tk) rvs t4
        exact this
      refine hQ F7 (upd H7 p (.ins C dx (putF nProducts v7 fs7))) (vs ++ [v6, v7]) i7.grZ ?_ (by rw [upd_ne hne2]; exact hok.2.2) (i7.zf p (.inl rfl)) (by rw [List.length_append, ← l]; rfl) ?_
      · rw [← hz]
        exact upd_same
      · exact backs.append (.cons (back (q6.mono x7) t6) (.cons (back q7 t7) .nil))
end SL
/-! Sem21: Field(q), the law's frame. -/
namespace SL
open PySem L2
open Evl (Ex)
def fMk {S : Type} (g : Int → Option (List D)) (fr : Fn S (List D)) : Fn S D := fun env s => match fr env s with
  | some ([.int q], s1) => match g q with
    | some ds => some (.ins 0 ds, s1)
    | none => none
  | _ => none
theorem EV.make {S : Type} {R : RC} {Z : SK S} {m : Bool} {tr : TA} {fr : Fn S (List D)} {C : Addr} {FR : Int → List D → Prop} {g : Int → Option (List D)} (hg : ∀ q ds, g q = some ds → FR q ds) (h0 : R.cl 0 = C) (hn : R.nm 0 = fieldN6) (h : EVa R Z m tr fr) : EV R Z m (tMake C (spInit R.K C R FR) [] E0 tr) (fMk g fr) := by
  intro σ env F H s d s' Q pr e q
  unfold fMk at e
  split at e
  case h_2 => cases e
  rename_i k s1 e1
  split at e
  case h_2 => cases e
  rename_i ds hds
  cases e
  refine h σ env F H s _ _ _ pr e1 fun vs F1 H1 g1 k1 r1 => ?_
  have p1 := pr.next g1 k1
  obtain ⟨v, rfl, rv⟩ := r1.one
  cases rv
  intro x dx hx hdx hne
  have fx : F1 x = none := Ex.none p1.fh hx
  have fdx : F1 dx = none := Ex.none p1.fh hdx
  have eH : ∀ a, a ≠ x → a ≠ dx → (upd (upd H1 dx (HO.own x)) x (HO.ins C dx [])) a = H1 a := fun a h1 h2 => by rw [upd_ne h1, upd_ne h2]
  refine ⟨x, dx, k, F1, ds, rfl, Ne.symm hne, upd_same, by rw [upd_ne hne, upd_same], fun a o ha => ?_, fx, fdx, hg k ds hds, fun F' H' vals gg hx' hd' fx' hl rs => ?_⟩
  · rw [eH a (ne_of_none ha fx) (ne_of_none ha fdx)]
    exact p1.fh a o ha
  · refine ⟨rfl, ?_⟩
    have keepO : ∀ a o, H1 a = some o → H' a = some o := fun a o ha => by
      have n1 : a ≠ x := ne_of_none ha hx
      have n2 : a ≠ dx := ne_of_none ha hdx
      exact gg.hh a o (fun z => z.elim n1 n2) (by rw [eH a n1 n2]; exact ha)
    have g2 : Grow Z.z F1 H1 (upd F' x (.ins C dx (fieldN6.zip vals))) H' := ⟨fun a o _ ha => keepO a o ha, fun a o ha => by
      rw [upd_ne (ne_of_none (gg.ff a o ha) fx')]
      exact gg.ff a o ha, fun a o ha => by
      by_cases hax : a = x
      · subst hax; rw [upd_same] at ha; rw [hx']; exact ha
      · rw [upd_ne hax] at ha; exact gg.fh a o ha, fun a o ha => by
      by_cases hax : a = x
      · subst hax; exact .inr (.inl hx)
      · rw [upd_ne hax] at ha
        rcases gg.nw a o ha with z | z
        · exact .inl z
        · by_cases had : a = dx
          · subst had; exact .inr (.inl hdx)
          · rw [eH a hax had] at z; exact .inr z⟩
    refine q (.ref x) _ H' (g1.trans g2 p1.hz) (Z.keep _ H1 H' k1 fun a ha => ?_) (.ins (vs := vals) (dx := dx) (rest := []) (by rw [upd_same, h0, hn, List.append_nil]) (fun _ h => by cases h) (by rw [hn]; exact hl) (rs.mono fun a o ha => by rw [upd_ne (ne_of_none ha fx')]; exact ha))
    cases ho : H1 a with
    | none => exact absurd ho (Z.has _ H1 a k1 ha).1
    | some o => exact keepO a o ho
theorem SE.make {S : Type} {T : CT} {Z : SK S} {m : Bool} {e : Expr} {es : List Expr} {fr : Fn S (List D)} {pos p : Pos} {x : Str} {C f : Addr} {fd : FuncData} {ps : List Str} {k : Nat} {FR : Int → List D → Prop} {g : Int → Option (List D)} (M : Mk T.R.K C f) (G : FnOk T.P T.w T.R.K T.mg T.base CX0 k f fd ps (spInit T.R.K C T.R FR)) (hk : k + 1 ≤ T.k) (mx : T.mg x = some (.ref C)) (b : Binds T.R.K fd ps []) (hg : ∀ q ds, g q = some ds → FR q ds) (h0 : T.R.cl 0 = C) (hn : T.R.nm 0 = fieldN6)
    (hA : SA T Z m (e :: es) fr) (gx : List.lookup x T.sc.names = some NameKind.globalImplicit := by rfl) (n2 : (x == Str.ofString "__debug__") = false := by rfl)
    (hs : ∀ env, starEach (e :: es) env = (false, eval e env) :: starEach es env := by exact fun _ => rfl) (hs2 : ∀ env, ((backTo pos (starEach es env)).any fun x => x.fst) = false := by exact fun _ => rfl) : SE T Z m (.Call (.Name x p) (e :: es) [] pos) (fMk g fr) := by
  obtain ⟨t, pA, eA⟩ := hA
  refine ⟨_, fun X h => ?_, EV.make (C := C) (FR := FR) hg h0 hn eA⟩
  have G' : FnOk X.prog X.w X.K X.mg X.base CX0 k f fd ps (spInit T.R.K C T.R FR) := by rw [h.prog, h.w, h.K, h.mg, h.base]; exact G
  exact pe_make (by rw [h.K]; exact M) G' (h.room.mono hk) (by show List.lookup x X.env.scope.names = _; rw [h.sc]; exact gx) (by rw [h.mg]; exact mx) (by rw [h.K]; exact b) .nil pass0 (pA X h) n2 (hs X.env) (hs2 X.env)
/-! ### the law's frame -/
def seedOf : Int → List Int → Int
  | s, [] => s
  | s, x :: xs => seedOf ((s * 48271 + x % 2147483629 + 11) % 2147483647) xs
/-- _law_begin -/
def spBegin (K : PySem.W.Frag) : Sp := fun vs H Q _ => ∃ (a : Addr) (ns : List Int), vs = [.ref a] ∧ SqL K H a (ns.map V.int) ∧ ns.length ≤ 63 ∧ ∀ H' p q, Ex H H' → H p = none → H q = none → p ≠ q → H' p = some (.lst [.ref q, .int 0, .int 0, .int (seedOf 5 ns)]) → H' q = some (.lst (ns.map V.int)) → Q (.ref p) H'
def spLawX (K : PySem.W.Frag) : Sp := fun vs H Q _ => ∃ (a : Addr) (ns : List Int), vs = [.ref a] ∧ SqL K H a (ns.map V.int) ∧ ns.length ≤ 63 ∧ ∀ H', Q (.bl true) H'
theorem pss_ex2' {X : Cx} {sts : List Stmt} {tf : Addr → Addr → TS} (h : ∀ p q, PSs X sts (tf p q)) : PSs X sts (fun D σ H => ∃ p q, tf p q D σ H) := ⟨fun pins s σ H D I ⟨p, q, k⟩ => (h p q).run pins s σ H D I k⟩
/-- the law: d = _law_begin(script), then the rest, which tells True at every draw -/
theorem law_ok {P : Program} {w : World} {R : RC} {mg : Str → Option Value} {base : Heap} {x qual : Str} {st : Stmt} {rest : List Stmt} {f fb : Addr} {fd fdb : FuncData} {N psb : List Str} {k kb : Nat} {body : Stm DS} {xd xs xb : Str} {p1 p2 p3 p4 p5 : Pos}
    (F : Fun R.K x qual st f fd) (sc : FnScope N [xs] (defScope st)) (hb : defBody st = .Assign [.Name xd p1] (.Call (.Name xb p2) [.Name xs p3] [] p4) p5 :: rest)
    (G : FnOk P w R.K mg base CX0 kb fb fdb psb (spBegin R.K)) (hk : kb ≤ k) (mb : mg xb = some (.ref fb)) (kp : PySem.W.keepIn R.K (.ref fb) = true) (bb : Binds R.K fdb psb [])
    (hx : N[0]? = some xs) (hd : N[1]? = some xd) (ls : Vis (defScope st) xs) (ld : L2.Loc (defScope st) xd) (gb : List.lookup xb (defScope st).names = some NameKind.globalImplicit) (n1 : (xs == Str.ofString "__debug__") = false) (n2 : (xs == Str.ofString "__classdict__") = false) (n3 : (xb == Str.ofString "__debug__") = false)
    (h : ∀ p q, SB ⟨P, w, R.tkd (tkk p q), mg, base, N, defScope st, fun _ => true, k⟩ (ZD p q) rest body)
    (run : ∀ ns : List Int, ns.length ≤ 63 → ∃ s', body (none :: some (.tok 0) :: List.replicate (N.length - 2) none) ⟨ns, 0, 0, seedOf 5 ns⟩ = some (.rt (.bl true), s')) :
    FnOk P w R.K mg base CX0 (k + 1) f fd [xs] (spLawX R.K) := by
  refine F.ok sc (fun vs H Q E h => ?_) (fun cdv A outer s H vs Q E hr hsp => ?_)
  · obtain ⟨a, ns, rfl, _⟩ := h
    rfl
  · obtain ⟨a, ns, rfl, hS, hlen, hQ⟩ := hsp
    have g := fun p q => Classical.choose_spec (h p q)
    have hN : 2 ≤ N.length := by
      have := (List.getElem?_eq_some_iff.mp hd).1
      omega
    have key : PSs (cxOf CX0 P w R.K mg base N qual (defScope st) f cdv A outer s H E).nox (defBody st) (tSeq (tAsg (tCall (spBegin R.K) [] E0 (tCons (tVar 0) tNil)) (gName 1)) (fun D σ H => ∃ p q, (Classical.choose (h p q)) D σ H)) := by
      rw [hb]
      exact pss_cons (ps_set (i := 1) sc.nd hd ld (pe_call G (hr.mono hk) gb mb kp bb .nil pass0 (pa_cons (pv 0 hx ls n1 n2) pa_nil) n3 (by rfl) (by rfl)) (by rfl) (.inl rfl)) (pss_ex2' fun p q => (g p q).1 _ ⟨rfl, rfl, rfl, rfl, rfl, rfl, rfl, fun _ _ => rfl, rfl, hr, sc.nd, PassesOwn.never⟩)
    refine ⟨_, key, ?_⟩
    have hst : L2.start N [V.ref a] = some (V.ref a) :: List.replicate (N.length - 1) none := rfl
    refine ⟨.ref a, by rw [hst]; rfl, ?_⟩
    refine ⟨a, ns, rfl, hS, hlen, fun H' p q ex np nq ne hp hq => ?_⟩
    obtain ⟨s', hs'⟩ := run ns hlen
    refine ⟨p, q, ?_⟩
    have zp : ∀ b, (ZD p q).z b → H' b ≠ none := fun b hb => (ZD p q).has ⟨ns, 0, 0, seedOf 5 ns⟩ H' b ⟨ne, hp, hq⟩ hb |>.1
    have i0 : SI (R.tkd (tkk p q)) (ZD p q) (fun _ => none) H' ((L2.start N [V.ref a]).set 1 (some (V.ref p))) (none :: some (.tok 0) :: List.replicate (N.length - 2) none) (fun _ => none) H' ⟨ns, 0, 0, seedOf 5 ns⟩ := by
      have g0 : Grow (ZD p q).z (fun _ => none) H' (fun _ => none) H' := Grow.refl fun _ _ h => nomatch h
      refine ⟨g0, fun _ _ => rfl, ⟨ne, hp, hq⟩, zp, fun i d hd' he => ?_, fun i ds ho he => ?_, fun i j ds es b ho _ he => ?_, ?_⟩
      · match i, he with
        | 0, he => simp at he
        | 1, he =>
          simp at he
          subst he
          refine ⟨.ref p, ?_, .tok 0⟩
          rw [hst]
          obtain ⟨n, hn⟩ : ∃ n, N.length - 1 = n + 1 := ⟨N.length - 2, by omega⟩
          rw [hn]
          rfl
        | i + 2, he =>
          simp [List.getElem?_replicate] at he
      · match i, he with
        | 0, he => simp at he
        | 1, he => simp at he; subst he; cases ho
        | i + 2, he => simp [List.getElem?_replicate] at he
      · match i, he with
        | 0, he => simp at he
        | 1, he => simp at he; subst he; cases ho
        | i + 2, he => simp [List.getElem?_replicate] at he
      · rw [List.length_set, hst]
        simp
        omega
    exact (g p q).2 _ H' _ _ _ H' _ _ s' _ i0 hs' fun v F2 H2 _ _ r => by
      cases r
      exact hQ H2
end SL
/-! Sem22: _law_begin. -/
namespace SL
open PySem L2
open Evl (Ex)
def seedStep (s x : Int) : Int := (s * 48271 + x % 2147483629 + 11) % 2147483647
theorem seedOf_snoc : ∀ (xs : List Int) (s x : Int), seedOf s (xs ++ [x]) = seedStep (seedOf s xs) x
  | [], s, x => rfl
  | y :: ys, s, x => seedOf_snoc ys (seedStep s y) x
theorem seedOf_lt : ∀ (xs : List Int) (s : Int), 0 ≤ s → s < 2147483647 → 0 ≤ seedOf s xs ∧ seedOf s xs < 2147483647
  | [], s, h1, h2 => ⟨h1, h2⟩
  | x :: xs, s, h1, h2 => seedOf_lt xs _ (Int.emod_nonneg _ (by decide)) (Int.emod_lt_of_pos _ (by decide))
abbrev rMod1 : R2 := rI (fun _ j => 0 < j) fun i j => .int (i % j)
def tBeginI : List V → Hp → VK → Prop := fun xs H Q => (∃ i, xs = [V.int i] ∧ Q (V.int i) H) ∨ ∃ k, xs = [V.bl k] ∧ Q (V.int (if k = true then 1 else 0)) H
def tBegin (K : PySem.W.Frag) : TS := tSeq (tAsg (tC (.int 5)) (gName 1)) (tSeq (tFor (iList K (tVar 0)) (gName 2) (tAsg (tOp rMod1 (tOp (rI0 fun i j => .int (i + j)) (tOp (rI0 fun i j => .int (i + j)) (tOp (rI CMul fun i j => .int (i * j)) (tVar 1) (tC (.int 48271))) (tOp rMod1 (tCB tBeginI (tCons (tVar 2) tNil)) (tC (.int 2147483629)))) (tC (.int 11))) (tC (.int 2147483647))) (gName 1)))
  (tRet (tLst (tCons (tCB (rListX K) (tCons (tVar 0) tNil)) (tCons (tC (.int 0)) (tCons (tC (.int 0)) (tCons (tVar 1) tNil)))))))
theorem begin_read {K : PySem.W.Frag} {N : List Str} {D : Ends} {H : Hp} {a : Addr} {ns : List Int} (hN : N.length = 3) (hS : SqL K H a (ns.map V.int)) (hlen : ns.length ≤ 63) (q : ∀ H' p q, Ex H H' → H p = none → H q = none → p ≠ q → H' p = some (.lst [.ref q, .int 0, .int 0, .int (seedOf 5 ns)]) → H' q = some (.lst (ns.map V.int)) → D.rt (.ref p) H') : tBegin K D (L2.start N [.ref a]) H := by
  have hst : L2.start N [V.ref a] = [some (V.ref a), none, none] := by
    unfold L2.start
    rw [hN]
    rfl
  rw [hst]
  refine ⟨.ref a, rfl, a, rfl, ⟨_, hS⟩, for_list (xs := ns.map V.int) (fun i σ H' => ∃ y, σ = [some (V.ref a), some (V.int (seedOf 5 (ns.take i))), y] ∧ H' = H) ⟨none, rfl, rfl⟩ (fun i σ H' _ ⟨y, _, e⟩ => by rw [e]; exact hS) (fun i x σ H' hx ⟨y, e1, e2⟩ => ?_) (fun σ H' ⟨y, e1, e2⟩ => ?_)⟩
  · subst e1 e2
    rw [List.getElem?_map] at hx
    cases hn : ns[i]? with
    | none => rw [hn] at hx; cases hx
    | some n =>
      rw [hn] at hx
      cases hx
      have hb := seedOf_lt (ns.take i) 5 (by decide) (by decide)
      refine ⟨_, rfl, _, _, rfl, rfl, .inl ⟨by omega, by omega⟩, .int n, rfl, .inl ⟨n, rfl, _, _, rfl, rfl, (show (0 : Int) < 2147483629 by decide), _, _, rfl, rfl, _, _, rfl, rfl, _, _, rfl, rfl, (show (0 : Int) < 2147483647 by decide), ?_⟩⟩
      refine ⟨some (.int n), ?_, rfl⟩
      rw [List.take_add_one, hn]
      show _ = [some (V.ref a), some (V.int (seedOf 5 (ns.take i ++ [n]))), some (V.int n)]
      rw [seedOf_snoc]
      rfl
  · subst e1 e2
    rw [List.length_map, List.take_length]
    refine ⟨.ref a, rfl, a, ns.map V.int, rfl, .inl hS, fun l hl => ?_⟩
    refine ⟨_, rfl, sz5 (by show 4 ≤ 100000; omega), fun p hp => ?_⟩
    have hpl : p ≠ l := fun z => by rw [z, upd_same] at hp; cases hp
    have hp0 : H' p = none := by rw [upd_ne hpl] at hp; exact hp
    refine q _ p l (fun b o hb => ?_) hp0 hl hpl upd_same (by rw [upd_ne (Ne.symm hpl), upd_same])
    rw [upd_ne (ne_of_none hb hp0), upd_ne (ne_of_none hb hl)]
    exact hb
end SL
/-! Sem23: set(a list of ints), sorted(set(..)). -/
namespace SL
open PySem L2
open Evl (Ex)
theorem call_set_listI {P : Program} {w : World} {A : Around} {E : Value → Shared → Prop} {s : Shared} {l : Addr} {items : Array Value} (ns : List Int) {Q : Value → Shared → Prop} (hh : A.handled = none) (hl : s.heap.IsList l items) (hit : PyProof.Rows.IntsAre items.toList ns) (hb : ns.length + 1 < scanBound)
    (h : ∀ (h' : Heap) (tk c : Nat), SetR w h' s.heap.objs.size (fun j => decide (j ∈ ns)) c → c ≤ ns.length → (∀ (b : Addr) (o : Obj), s.heap.get? b = some o → h'.get? b = some o) → Q (Value.ref s.heap.objs.size) { heap := h', gens := s.gens, drawn := s.drawn, toks := tk, os := s.os }) :
    wpAny (model P w) A (call (Value.type "set") [Value.ref l]) Q E s := by
  obtain ⟨c, tl, hmro⟩ := PySem.F.called_set.mro
  have hmade := PySem.F.called_set.made
  have hsub := PySem.F.called_set.sub
  have h1 := PySem.F.called_set.notType
  have h2 := PySem.F.called_set.canCreate
  have hct := PySem.F.typeCall_set_1 (Value.ref l)
  refine wpAny_call (codeAny_of_tree ?_)
  refine wpAny_pure ⟨Code.quiet_builtin _ (by decide +kernel), codeAny_builtin PySem.F.entry_type_call ?_⟩
  rw [Around.under_plain (weight_type_call_type "set" [Value.ref l] []) rfl]
  unfold Builtin.«type.__call__»
  simp only [List.cons.injEq]
  refine wpAny_ite_false rfl ?_
  refine wpAny_ite_false rfl ?_
  refine wpAny_bind (wpAny_of_eq hct ?_)
  refine wpAny_bind (wpAny_of_eq hmro ?_)
  refine wpAny_ite_false rfl ?_
  refine wpAny_bind (wpAny_of_eq hmade ?_)
  refine wpAny_bind (wpAny_pure ?_)
  refine wpAny_bind (wpAny_holding ?_)
  refine wpAny_call (codeAny_mono (code_set_led1 (E := E) (Q₁ := fun obj s₁ => obj = Value.ref s.heap.objs.size ∧ s₁ = { heap := s.heap.push { cls := Value.type "set", data := Data.set #[] 0 (SetTable.fresh 0 0 !w.params.followText "set-order") }, gens := s.gens, drawn := s.drawn, toks := s.toks, os := s.os }) (Value.ref l) ⟨rfl, rfl⟩) fun r s₁ hr => ?_)
  match r, hr with
  | Except.error e, hr => exact hr
  | Except.ok (.next), hr => exact hr.elim
  | Except.ok (.brk), hr => exact hr.elim
  | Except.ok (.cont), hr => exact hr.elim
  | Except.ok (.ret v), hr =>
    obtain ⟨rfl, rfl⟩ := hr
    have hS : (s.heap.push { cls := Value.type "set", data := Data.set #[] 0 (SetTable.fresh 0 0 !w.params.followText "set-order") }).get? s.heap.objs.size = some { cls := Value.type "set", data := Data.set #[] 0 (SetTable.fresh 0 0 !w.params.followText "set-order") } := Heap.get?_push_size _ rfl
    show wpAny _ _ _ _ _ _
    have tS : Shared.TypeIs { heap := s.heap.push { cls := Value.type "set", data := Data.set #[] 0 (SetTable.fresh 0 0 !w.params.followText "set-order") }, gens := s.gens, drawn := s.drawn, toks := s.toks, os := s.os } (Value.ref s.heap.objs.size) "set" := ⟨_, hS, rfl⟩
    refine wpAny_bind (wpAny_isInstance (T := "set") tS hsub ?_)
    refine wpAny_ite_false rfl ?_
    refine wpAny_bind (wpAny_holding ?_)
    unfold callSpecial?
    refine wpAny_bind (wpAny_specialOf tS PySem.F.called_set.init.lookup ?_)
    refine wpAny_holding ?_
    refine wpAny_bind (wpAny_of_eq (PySem.F.called_set.init.bind _) ?_)
    refine wpAny_bind ?_
    have key : codeAny (model P w) A.in1 (Code.call (Value.builtin "set.__init__") { pos := [Value.ref s.heap.objs.size, Value.ref l] }) (fun r s' => ∃ h' tk c, r = Except.ok (Flow.ret Value.none) ∧ s' = { heap := h', gens := s.gens, drawn := s.drawn, toks := tk, os := s.os } ∧ SetR w h' s.heap.objs.size (fun j => decide (j ∈ ns)) c ∧ c ≤ ns.length ∧ ∀ (b : Addr) (o : Obj), s.heap.get? b = some o → h'.get? b = some o) { heap := s.heap.push { cls := Value.type "set", data := Data.set #[] 0 (SetTable.fresh 0 0 !w.params.followText "set-order") }, gens := s.gens, drawn := s.drawn, toks := s.toks, os := s.os } := by
      refine codeAny_call_builtin (PySem.F.called_set.init.plain) PySem.F.entry_set_init (check_set_init_1 tS ?_)
      unfold Builtin.«set.__init__»
      refine wpAny_bind (wpAny_ite_true rfl (wpAny_pure ?_))
      simp only
      refine wpAny_bind ?_
      unfold typeNameOfCut shownTypeOf
      refine wpAny_bind ?_
      refine wpAny_bind (wpAny_typeOf tS ?_)
      refine wpAny_ite_false rfl ?_
      refine wpAny_pure ?_
      refine wpAny_pure (a := "set") ?_
      refine wpAny_bind (wpAny_pure (a := ()) ?_)
      refine wpAny_bind (wpAny_pure (a := s.heap.objs.size) ?_)
      refine wpAny_bind ?_
      unfold setUsed setState
      refine wpAny_bind (wpAny_bind (wpAny_load' hS ?_))
      simp only
      refine wpAny_ite_false rfl ?_
      refine wpAny_pure ?_
      refine wpAny_pure ?_
      refine wpAny_ite_false rfl ?_
      refine wpAny_bind ?_
      unfold Builtin.Frozenset.updateFrom
      obtain ⟨ol, hol, hcl, nn, hdl⟩ := hl
      have hol2 : (s.heap.push { cls := Value.type "set", data := Data.set #[] 0 (SetTable.fresh 0 0 !w.params.followText "set-order") }).get? l = some ol := Heap.get?_push_of_some _ hol
      have tL : Shared.TypeIs { heap := s.heap.push { cls := Value.type "set", data := Data.set #[] 0 (SetTable.fresh 0 0 !w.params.followText "set-order") }, gens := s.gens, drawn := s.drawn, toks := s.toks, os := s.os } (Value.ref l) "list" := ⟨_, hol2, hcl⟩
      refine wpAny_bind ?_
      unfold Builtin.Frozenset.isAnySet orM
      refine wpAny_bind (wpAny_isInstance tL PySem.F.sub_list_set ?_)
      refine wpAny_isInstance tL PySem.F.sub_list_frozenset ?_
      refine wpAny_ite_false rfl ?_
      refine wpAny_bind (wpAny_typeOf tL ?_)
      refine wpAny_ite_false rfl ?_
      refine wpAny_bind (wpAny_pyIter_list ⟨ol, hol2, hcl, nn, hdl⟩ ?_)
      refine wpAny_bind (wpAny_runValue ?_)
      have hlt : l < s.heap.objs.size := Nat.lt_of_not_le fun z => by rw [Heap.get?_none_of_le z] at hol; cases hol
      have hIt : (s.heap.push { cls := Value.type "set", data := Data.set #[] 0 (SetTable.fresh 0 0 !w.params.followText "set-order") }).objs.size = s.heap.objs.size + 1 := Heap.size_push _ _
      have hsz : items.size = ns.length := by
        have := hit.length
        rwa [Array.length_toList] at this
      have W := (Walks.list (prog := P) (w := w) (A := A.in1.in1.in1) (by exact hh) (s.heap.objs.size + 1) l (Nat.ne_of_lt (Nat.lt_succ_of_lt hlt)) items).toS
      have e : (Value.ref (s.heap.push { cls := Value.type "set", data := Data.set #[] 0 (SetTable.fresh 0 0 !w.params.followText "set-order") }).objs.size) = Value.ref (s.heap.objs.size + 1) := by rw [hIt]
      show codeAny (model P w) A.in1.in1 (Code.builtin "set.update.loop" { pos := [Value.ref s.heap.objs.size, Value.ref (s.heap.push { cls := Value.type "set", data := Data.set #[] 0 (SetTable.fresh 0 0 !w.params.followText "set-order") }).objs.size] }) _ _
      rw [e]
      refine set_update_ints W s.heap.objs.size (fun z => ?_) ns hsz hb (fun i v hv => ?_) items.size 0 _ (Nat.sub_zero _) (Nat.zero_le _) ⟨?_, ?_⟩ ⟨0, Nat.le_refl _, ?_⟩ fun s' c hm hc hR => ?_
      · have : s.heap.objs.size = s.heap.objs.size + 1 ∨ s.heap.objs.size = l := by simpa using z
        rcases this with z | z
        · exact absurd z (Nat.ne_of_lt (Nat.lt_succ_self _))
        · exact absurd z (Nat.ne_of_gt hlt)
      · have hv' : items.toList[i]? = some v := by rw [Array.getElem?_toList]; exact hv
        obtain ⟨t, rfl⟩ := hit.int_at i v hv'
        have hi : i < ns.length := by
          rw [← hsz]
          exact (Array.getElem?_eq_some_iff.mp hv).1
        exact ⟨_, t, by rw [List.getD_eq_getElem?_getD, List.getElem?_eq_getElem hi]; rfl, rfl⟩
      · have hI := Heap.get?_push_size (s.heap.push { cls := Value.type "set", data := Data.set #[] 0 (SetTable.fresh 0 0 !w.params.followText "set-order") }) (o := { cls := Value.type "list_iterator", data := Data.fields #[Value.ref l, Value.int 0 0] }) rfl
        rw [hIt] at hI
        exact ⟨_, hI, rfl, rfl⟩
      · exact ⟨ol, Heap.get?_push_of_some _ hol2, hcl, nn, hdl⟩
      · exact setR_new_at (Heap.get?_push_of_some _ hS)
      · show wpAny _ _ _ _ _ _
        refine wpAny_pure ?_
        refine wpAny_pure ?_
        have e2 : s' = { heap := s'.heap, gens := s.gens, drawn := s.drawn, toks := s'.toks, os := s.os } := by
          have m1 := hm.gens
          have m2 := hm.drawn
          have m3 := hm.os
          cases s'
          simp only at m1 m2 m3
          subst m1 m2 m3
          rfl
        refine ⟨s'.heap, s'.toks, c, rfl, e2, hR, by rw [hsz] at hc; exact hc, fun b o hbo => hm.heap b o (fun z => ?_) (Heap.get?_push_of_some _ (Heap.get?_push_of_some _ hbo))⟩
        have hbl : b < s.heap.objs.size := Nat.lt_of_not_le fun z => by rw [Heap.get?_none_of_le z] at hbo; cases hbo
        have : b = s.heap.objs.size ∨ b = s.heap.objs.size + 1 := by simpa using z
        rcases this with z | z
        · exact absurd z (Nat.ne_of_lt hbl)
        · exact absurd z (Nat.ne_of_lt (Nat.lt_succ_of_lt hbl))
    refine wpAny_call (codeAny_mono key fun r s' hr => ?_)
    obtain ⟨h', tk, c', rfl, rfl, k1, k2, k3⟩ := hr
    show wpAny _ _ _ _ _ _
    refine wpAny_pure ?_
    refine wpAny_ite_false rfl ?_
    exact wpAny_pure (h h' tk c' k1 k2 k3)
/-! ### strictly ordered ints -/
def insU (x : Int) : List Int → List Int
  | [] => [x]
  | y :: ys => if x < y then x :: y :: ys else if x = y then y :: ys else y :: insU x ys
def sortU : List Int → List Int
  | [] => []
  | x :: xs => insU x (sortU xs)
theorem mem_insU (x k : Int) : ∀ ys : List Int, k ∈ insU x ys ↔ k = x ∨ k ∈ ys
  | [] => by simp [insU]
  | y :: ys => by
    unfold insU
    split
    · simp
    · split
      · rename_i h
        subst h
        simp
      · rw [List.mem_cons, mem_insU x k ys, List.mem_cons]
        constructor
        · rintro (h | h | h)
          · exact .inr (.inl h)
          · exact .inl h
          · exact .inr (.inr h)
        · rintro (h | h | h)
          · exact .inr (.inl h)
          · exact .inl h
          · exact .inr (.inr h)
theorem mem_sortU (k : Int) : ∀ xs : List Int, k ∈ sortU xs ↔ k ∈ xs
  | [] => by simp [sortU]
  | x :: xs => by unfold sortU; rw [mem_insU, mem_sortU k xs, List.mem_cons]
theorem insU_pw (x : Int) : ∀ ys : List Int, ys.Pairwise (· < ·) → (insU x ys).Pairwise (· < ·)
  | [], _ => by simp [insU]
  | y :: ys, h => by
    have h' := List.pairwise_cons.mp h
    unfold insU
    split
    · rename_i hx
      refine List.pairwise_cons.mpr ⟨fun z hz => ?_, h⟩
      rcases List.mem_cons.mp hz with rfl | hz
      · exact hx
      · exact Int.lt_trans hx (h'.1 z hz)
    · split
      · exact h
      · refine List.pairwise_cons.mpr ⟨fun z hz => ?_, insU_pw x ys h'.2⟩
        rcases (mem_insU x z ys).mp hz with rfl | hz
        · omega
        · exact h'.1 z hz
theorem sortU_pw : ∀ xs : List Int, (sortU xs).Pairwise (· < ·)
  | [] => .nil
  | x :: xs => insU_pw x _ (sortU_pw xs)
theorem pw_unique : ∀ (xs ys : List Int), xs.Pairwise (· < ·) → ys.Pairwise (· < ·) → (∀ k, k ∈ xs ↔ k ∈ ys) → xs = ys
  | [], [], _, _, _ => rfl
  | [], y :: ys, _, _, h => by have := (h y).mpr (by simp); simp at this
  | x :: xs, [], _, _, h => by have := (h x).mp (by simp); simp at this
  | x :: xs, y :: ys, h1, h2, h => by
    have p1 := List.pairwise_cons.mp h1
    have p2 := List.pairwise_cons.mp h2
    have e : x = y := by
      have a := (h x).mp (by simp)
      have b := (h y).mpr (by simp)
      rcases List.mem_cons.mp a with a | a
      · exact a
      · rcases List.mem_cons.mp b with b | b
        · exact b.symm
        · have := p2.1 x a
          have := p1.1 y b
          omega
    subst e
    refine congrArg _ (pw_unique xs ys p1.2 p2.2 fun k => ?_)
    have := h k
    rw [List.mem_cons, List.mem_cons] at this
    constructor
    · intro hk
      rcases this.mp (.inr hk) with z | z
      · have := p1.1 k hk; omega
      · exact z
    · intro hk
      rcases this.mpr (.inr hk) with z | z
      · have := p2.1 k hk; omega
      · exact z
/-! ### sorted(set(ints)) -/
def rSetI (K : PySem.W.Frag) (w : World) : List V → Hp → VK → Prop := fun xs H Q => ∃ (l : Addr) (ns : List Int), xs = [V.ref l] ∧ (SqL K H l (ns.map V.int) ∨ SqT K H l (ns.map V.int)) ∧ ns.length < 4000 ∧ ∀ a c, H a = none → c ≤ ns.length → Q (V.ref a) (upd H a (SetO w a (fun j => decide (j ∈ ns)) c))
theorem ints_are : ∀ {ns : List Int} {us : List Value}, Vals (ns.map V.int) us → PyProof.Rows.IntsAre us ns := fun r => RZ.intsAre_vals r
theorem call_setI {X : Cx} (hc : X.calm = true) : CallR X (.type "set") (rSetI X.K X.w) := by
  intro pins s σ H xs us Q I r h
  obtain ⟨l, ns, rfl, hl, hlen, q⟩ := h
  obtain ⟨u, rfl, ru⟩ := vals1 r
  obtain rfl : u = .ref l := ru
  have hsb : scanBound = 4096 := rfl
  have fin : ∀ (h' : Heap) (tk c : Nat), SetR X.w h' s.heap.objs.size (fun j => decide (j ∈ ns)) c → c ≤ ns.length → (∀ (b : Addr) (o : Obj), s.heap.get? b = some o → h'.get? b = some o) → EP X pins σ Q (Value.ref s.heap.objs.size) { heap := h', gens := s.gens, drawn := s.drawn, toks := tk, os := s.os } := fun h' tk c hR hc hk => by
    refine ⟨.ref s.heap.objs.size, _, I.laid (o := SetO X.w s.heap.objs.size (fun j => decide (j ∈ ns)) c) hk (Nat.le_refl _) ?_, rfl, q _ c I.fresh hc⟩
    unfold SetO L2.ObjOk
    refine ⟨hR, ?_, fun h1 h2 r k => SetR.at r k⟩
    obtain ⟨o, _, _, _, ho, _⟩ := hR
    exact ⟨o, ho⟩
  rcases hl with hl | hl
  · obtain ⟨its, rv, pl, hz⟩ := I.list hl
    exact call_set_listI ns (I.ok.hd hc) pl.isList (ints_are rv) (by omega) fin
  · obtain ⟨its, rv, pl, hz⟩ := I.tuple hl
    exact call_set_tupI ns (I.ok.hd hc) pl (ints_are rv) (by omega) fin
def fSortSet {S : Type} (fa : Fn S D) : Fn S (List D) := fun env s => match fa env s with
  | none => none
  | some (x, s1) => match items x with
    | none => none
    | some ds => match intsOf ds with
      | none => none
      | some ns => if ns.length < 64 then some ((sortU ns).map D.int, s1) else none
section
variable {S : Type} {R : RC} {Z : SK S} {m : Bool} {ta : TE} {fa : Fn S D} {w : World}
theorem EVl.sortSet (h : EV R Z m ta fa) : EVl R Z m (tCB (rSortedSet w) (tCons (tCB (rSetI R.K w) (tCons ta tNil)) tNil)) (fSortSet fa) := by
  refine EVl.new fun σ env F H s ds s' Q p e q => ?_
  unfold fSortSet at e
  split at e
  case h_1 => cases e
  rename_i x s1 e1
  split at e
  case h_1 => cases e
  rename_i ds1 hi
  split at e
  case h_1 => cases e
  rename_i ns hn
  split at e
  case isFalse => cases e
  rename_i hl
  cases e
  refine h σ env F H s x _ _ p e1 fun v F1 H1 g1 k1 r1 => ?_
  have p1 := p.next g1 k1
  obtain ⟨a, vs, rfl, hs, rs⟩ := items_sq r1 hi
  have := ints_of rs hn
  subst this
  refine ⟨a, ns, rfl, ?_, by omega, fun b c hb hc => ?_⟩
  · rcases hs with hs | hs
    · exact .inl (sqL_ex g1.fh hs)
    · exact .inr (sqT_ex g1.fh hs)
  · refine ⟨b, _, c, rfl, upd_same, by omega, fun ms p2 hpw hmem hlen hp2 => ?_⟩
    have e : ms = sortU ns := pw_unique _ _ hpw (sortU_pw ns) fun k => by rw [hmem k, mem_sortU]; simp
    subst e
    have g2 : Gr0 F1 H1 F1 (upd H1 b (SetO w b (fun j => decide (j ∈ ns)) c)) := Gr0.newH p1.fh hb
    exact q F1 _ _ (g1.trans g2.up p1.hz) (Z.grow k1 g2) (reps_ints _) p2 hp2
end
section
variable {S : Type} {T : CT} {Z : SK S} {m : Bool} {a : Expr} {fa : Fn S D} {pos p p2 pos' : Pos}
theorem SN.sortSet (m1 : T.mg (Str.ofString "sorted") = none) (m2 : T.mg (Str.ofString "set") = none) (ha : SE T Z m a fa) (g1 : GlB T "sorted" := by rfl) (g2 : GlB T "set" := by rfl) (hs : ∀ env, starEach [a] env = (false, eval a env) :: starEach [] env := by exact fun _ => rfl) (hs2 : ∀ env, starEach [.Call (.Name (Str.ofString "set") p2) [a] [] pos'] env = (false, eval (.Call (.Name (Str.ofString "set") p2) [a] [] pos') env) :: starEach [] env := by exact fun _ => rfl) : SN T Z m (.Call (.Name (Str.ofString "sorted") p) [.Call (.Name (Str.ofString "set") p2) [a] [] pos'] [] pos) (fSortSet fa) := by
  obtain ⟨t, pA, eA⟩ := ha
  exact ⟨_, fun X h => by
    have h1 := pe_callTy (p := p2) (pos := pos') (call_setI h.calm) (by show List.lookup _ X.env.scope.names = _; rw [h.sc]; exact g2) (by rw [h.mg]; exact m2) (by rfl) (pa_cons (pA X h) pa_nil (hs X.env)) (by decide) (by rfl) (hs X.env) (by rfl)
    have h2 := pe_callB (p := p) (pos := pos) (cr_sortedSet h.calm) (by show List.lookup _ X.env.scope.names = _; rw [h.sc]; exact g1) (by rw [h.mg]; exact m1) (by rfl) (pa_cons h1 pa_nil (hs2 X.env)) (by decide) (by rfl) (hs2 X.env) (by rfl)
    rw [h.K, h.w] at h2
    exact h2, EVl.sortSet (w := T.w) eA⟩
end
end SL
/-! Sem24: xs.index(n). -/
namespace SL
open PySem L2
open Evl (Ex)
def idxI (n : Int) : List Int → Nat → Option Nat
  | [], _ => none
  | x :: xs, i => if x = n then some i else idxI n xs (i + 1)
theorem idxI_ok (n : Int) : ∀ (xs : List Int) (i j : Nat), idxI n xs i = some j → ∃ k, j = i + k ∧ xs[k]? = some n ∧ ∀ m z, m < k → xs[m]? = some z → z ≠ n
  | [], _, _, h => by cases h
  | x :: xs, i, j, h => by
    unfold idxI at h
    split at h
    · rename_i hx
      cases h
      exact ⟨0, rfl, by simp [hx], fun m z hm => by omega⟩
    · rename_i hx
      obtain ⟨k, h1, h2, h3⟩ := idxI_ok n xs (i + 1) j h
      refine ⟨k + 1, by omega, by simpa using h2, fun m z hm hz => ?_⟩
      match m with
      | 0 => simp at hz; rw [← hz]; exact hx
      | m + 1 => exact h3 m z (by omega) (by simpa using hz)
def fIdx {S : Type} (fa fb : Fn S D) : Fn S D := fun env s => match fa env s with
  | some (.lst ds, s1) => match fb env s1 with
    | some (.int n, s2) => match intsOf ds with
      | some ns => match idxI n ns 0 with
        | some j => some (.int j, s2)
        | none => none
      | none => none
    | _ => none
  | _ => none
theorem shaped_ints : ∀ ns : List Int, SeqAt.shaped (PyData.list (ns.map PyData.int)) = true := by
  intro ns
  unfold SeqAt.shaped
  have h1 : PyData.canLay0 (PyData.list (ns.map PyData.int)) = true := by
    simp only [PyData.canLay0]
    induction ns with
    | nil => simp [PyData.canLayAll0]
    | cons n ns ih => simp [PyData.canLayAll0, PyData.canLay0] at ih ⊢; exact ih
  have h2 : (PyData.list (ns.map PyData.int)).depth ≤ 64 := by
    simp only [PyData.depth]
    rw [depth_ints]
    omega
  rw [h1, decide_eq_true h2]
  rfl
section
variable {S : Type} {R : RC} {Z : SK S} {m : Bool} {ta tb : TE} {fa fb : Fn S D}
theorem EV.idx (ha : EV R Z m ta fa) (hb : EV R Z m tb fb) : EV R Z m (tBM R.K "list" (rIndexD R.K) ta (tCons tb tNil)) (fIdx fa fb) := by
  intro σ env F H s d s' Q p e q
  unfold fIdx at e
  split at e
  case h_2 => cases e
  rename_i ds s1 e1
  split at e
  case h_2 => cases e
  rename_i n s2 e2
  split at e
  case h_2 => cases e
  rename_i ns hn
  split at e
  case h_2 => cases e
  rename_i j hj
  cases e
  refine ha σ env F H s _ _ _ p e1 fun v F1 H1 g1 k1 r1 => ?_
  have p1 := p.next g1 k1
  cases r1 with
  | lst hF rs =>
    rename_i a vs
    have := ints_of rs hn
    subst this
    refine ⟨.inl ⟨rfl, _, SqL.of (g1.fh _ _ hF)⟩, ?_⟩
    refine hb σ env F1 H1 s1 _ _ _ p1 e2 fun w F2 H2 g2 k2 r2 => ?_
    cases r2
    have p2 := p1.next g2 k2
    obtain ⟨k, hk, h1, h2⟩ := idxI_ok n ns 0 j hj
    have hk' : k = j := by omega
    subst hk'
    have hL : SqL R.K H2 a (ns.map V.int) := SqL.of (p2.fh _ _ (g2.ff _ _ hF))
    refine ⟨a, .int n, .int n, ns.map PyData.int, k, .int n, rfl, rfl, .lst hL (dpAll_ints _), .int n, shaped_ints ns, rfl, by rw [List.getElem?_map, h1]; rfl, by simp [PyData.eqv], fun m z hm hz => ?_, q _ F2 H2 (g1.trans g2 p1.hz) k2 (.int _)⟩
    rw [List.getElem?_map] at hz
    cases hz' : ns[m]? with
    | none => rw [hz'] at hz; cases hz
    | some y =>
      rw [hz'] at hz
      cases hz
      have := h2 m y hm hz'
      simp [PyData.eqv, this]
end
section
variable {S : Type} {T : CT} {Z : SK S} {m : Bool} {o e : Expr} {fa fb : Fn S D} {apos cpos : Pos}
theorem SE.idx (ha : SE T Z m o fa) (hb : SE T Z m e fb) (hB : BmOk o e [] (Str.ofString "index") apos cpos := by exact fun _ => ⟨rfl, rfl, rfl, rfl⟩) (hl : (apos.endLine == cpos.line) = true := by rfl) : SE T Z m (.Call (.Attribute o (Str.ofString "index") apos) [e] [] cpos) (fIdx fa fb) := by
  obtain ⟨ta, pa, ea⟩ := ha
  obtain ⟨tb, pb, eb⟩ := hb
  exact ⟨_, fun X h => by
    have := pe_bmQ (cpos := cpos) PySem.F.plainAttrs_list PySem.F.slot_list_index PySem.F.type_list_index (mt_indexD (by have := h.room.un; omega)) (pa X h) (pa_cons (pb X h) pa_nil (hB X.env).2.2.1) hB hl
    rw [h.K] at this
    exact this, EV.idx ea eb⟩
end
end SL
/-! Sem25: tuple * 1, tuple * 0. -/
namespace SL
open PySem L2
open Evl (Ex)
theorem tuple_mul1 (l : Addr) (items : Array Value) (n : Nat) (u : Tok) : Meets (Builtin.«tuple.__mul__» { pos := [Value.ref l, Value.int 1 u] }) fun A R s =>
    (∃ o, s.heap.get? l = some o ∧ o.cls = Value.type "tuple" ∧ o.data = Data.seq items n) ∧ R (Except.ok (Flow.ret (Value.ref l))) s := by
  intro prog w A R s ⟨⟨o, h1, h2, h3⟩, hR⟩
  unfold Builtin.«tuple.__mul__»
  refine wpAny_bind (wpAny_pure (a := (1 : Int)) ?_)
  refine wpAny_ite_false rfl ?_
  refine wpAny_bind (wpAny_tupleItemsOf h1 h3 ?_)
  have e : (items.isEmpty || (1 : Int) == 1) = true := by simp
  refine wpAny_ite_true (by rw [e]; rfl) ?_
  unfold Builtin.Tuple.tupleIsExact
  refine wpAny_bind (wpAny_bind (wpAny_typeOf (T := "tuple") ⟨o, h1, h2⟩ (wpAny_pure ?_)))
  refine wpAny_ite_true rfl ?_
  refine wpAny_bind (wpAny_rule ?_)
  exact wpAny_pure hR
theorem tuple_mul0 (l : Addr) (items : Array Value) (n : Nat) (u : Tok) (x : Int) (hx : x ≤ 0) (hx2 : -2 ^ 63 ≤ x) (hne : items.isEmpty = false) : Meets (Builtin.«tuple.__mul__» { pos := [Value.ref l, Value.int x u] }) fun A R s =>
    (∃ o, s.heap.get? l = some o ∧ o.cls = Value.type "tuple" ∧ o.data = Data.seq items n) ∧ R (Except.ok (Flow.ret (Value.ref s.heap.objs.size))) { heap := s.heap.push { cls := Value.type "tuple", data := Data.seq #[] }, gens := s.gens, drawn := s.drawn, toks := s.toks, os := s.os } := by
  intro prog w A R s ⟨⟨o, h1, h2, h3⟩, hR⟩
  unfold Builtin.«tuple.__mul__»
  have e0 : (decide (x < -2 ^ 63) || decide (x ≥ 2 ^ 63)) = false := by
    rw [decide_eq_false (by omega), decide_eq_false (by omega)]
    rfl
  refine wpAny_ite_false (by rw [e0]; rfl) ?_
  refine wpAny_bind (wpAny_tupleItemsOf h1 h3 ?_)
  have e : (items.isEmpty || x == 1) = false := by
    rw [hne]
    simp
    omega
  refine wpAny_ite_false (by rw [e]; rfl) ?_
  have e2 : (decide (x ≤ 0) || items.isEmpty) = true := by rw [decide_eq_true hx]; rfl
  refine wpAny_ite_true (by rw [e2]; rfl) ?_
  refine wpAny_bind ?_
  unfold Builtin.Tuple.tupleExact
  refine wpAny_newObj_type ?_
  exact wpAny_pure hR
def rRepA (K : PySem.W.Frag) : R2 := fun x y H Q => ∃ (l : Addr) (k : Int) (xs : List V), x = V.ref l ∧ y = V.int k ∧ SqT K H l xs ∧ xs ≠ [] ∧ ((k = 1 ∧ Q (V.ref l) H) ∨ (k ≤ 0 ∧ -4611686018427387904 ≤ k ∧ ∀ p, H p = none → Q (V.ref p) (upd H p (.tup []))))
theorem op_repA {X : Cx} : OpR X (binaryOp .Mult) (rRepA X.K) := by
  intro pins s σ H x y v u Q I rx ry h
  obtain ⟨l, k, xs, rfl, rfl, hT, hne, q⟩ := h
  obtain rfl : v = .ref l := rx
  obtain ⟨t, rfl⟩ := ry
  obtain ⟨its, rv, ⟨o, h1, h2, n, h3⟩, hz⟩ := I.tuple hT
  have ht : s.TypeIs (Value.ref l) "tuple" := ⟨o, h1, h2⟩
  have ti : ∀ s' : Shared, s'.TypeIs (Value.int k t) "int" := fun s' => rfl
  refine wpAny_binaryOp_repeat_ref (T := "tuple") (U := "int") (by decide) ht ti noFill_tuple_mul PySem.F.fills_int_mul PySem.F.slot_int_rmul repeat_tuple PySem.F.slot_int_index.lookup ?_
  obtain ⟨oc, od, odt, osl⟩ := o
  simp only at h2 h3
  subst h2 h3
  refine call_meets PySem.F.slot_int_rmul (ti s) PySem.F.entry_int_rmul (PySem.F.args_int_rmul_2 _ _) (int_rmul_tuple k t l its.toArray n od osl) ⟨h1, rfl, ht, ?_⟩
  rcases q with ⟨rfl, q⟩ | ⟨hk, hk2, q⟩
  · exact call_meets PySem.F.slot_tuple_mul ht PySem.F.entry_tuple_mul (PySem.F.args_tuple_mul_2 _ _) (tuple_mul1 l its.toArray n t) ⟨⟨_, h1, rfl, rfl⟩, ⟨.ref l, H, I, rfl, q⟩⟩
  · have hne' : its.toArray.isEmpty = false := by
      cases its with
      | nil =>
        have := rv.length
        cases xs with
        | nil => exact absurd rfl hne
        | cons _ _ => simp at this
      | cons _ _ => rfl
    refine call_meets PySem.F.slot_tuple_mul ht PySem.F.entry_tuple_mul (PySem.F.args_tuple_mul_2 _ _) (tuple_mul0 l its.toArray n t k hk (by omega) hne') ⟨⟨_, h1, rfl, rfl⟩, ⟨.ref s.heap.objs.size, _, I.laid (o := .tup []) (fun b u hb => Heap.get?_push_of_some _ hb) (Nat.le_refl _) ?_, rfl, q _ I.fresh⟩⟩
    unfold L2.ObjOk
    exact ⟨Nat.zero_le _, [], .nil, _, Heap.get?_push_size _ rfl, rfl, _, rfl⟩
/-- a * b: ints, a tuple and an int -/
def gMulX (x y : D) : Option D := match x, y with
  | .int i, .int j => if smallI i || smallI j then some (.int (i * j)) else none
  | .tup ds, .int k => if ds.isEmpty then none else if k = 1 then some (.tup ds) else if k ≤ 0 then (if -4611686018427387904 ≤ k then some (.tup []) else none) else if decide (k ≤ 1000) && decide (ds.length ≤ 1000) then some (.tup (repD ds k.toNat)) else none
  | _, _ => none
def rMulA (K : PySem.W.Frag) : R2 := fun x y H Q => rMulX x y H Q ∨ (rRepT K x y H Q ∨ rRepA K x y H Q)
theorem op_mulA {X : Cx} : OpR X (binaryOp .Mult) (rMulA X.K) := OpR.or op_mul (OpR.or op_repT op_repA)
theorem e_mulA {R : RC} : OpE R (rMulA R.K) gMulX := by
  intro F H x y vx vy d Q e rx ry hg q
  unfold gMulX at hg
  split at hg
  · rename_i i j
    exact .inl (e_mul F H (.int i) (.int j) vx vy d Q e rx ry hg q)
  · rename_i ds k
    split at hg
    · cases hg
    rename_i hne
    cases rx with
    | tup hT rs =>
      rename_i a vs
      cases ry
      have hvs : vs ≠ [] := fun z => by
        have := rs.nil_iff.mp z
        subst this
        exact hne rfl
      split at hg
      · rename_i hk
        subst hk
        cases hg
        exact .inr (.inr ⟨a, 1, vs, rfl, rfl, sqT_ex e (SqT.of hT), hvs, .inl ⟨rfl, q _ F H (Grow.refl e) (.tup hT rs)⟩⟩)
      · split at hg
        · rename_i hk0
          split at hg
          case isFalse => cases hg
          rename_i hk1
          cases hg
          refine .inr (.inr ⟨a, k, vs, rfl, rfl, sqT_ex e (SqT.of hT), hvs, .inr ⟨hk0, hk1, fun p hp => ?_⟩⟩)
          have g : Gr0 F H (upd F p (.tup [])) (upd H p (.tup [])) := Gr0.new e hp
          exact q _ _ _ g (.tup upd_same .nil)
        · split at hg
          case isFalse => cases hg
          rename_i h1 h2 hk
          simp only [Bool.and_eq_true, decide_eq_true_eq] at hk
          cases hg
          refine .inr (.inl ⟨a, k, vs, rfl, rfl, sqT_ex e (SqT.of hT), hvs, by omega, hk.1, by rw [← rs.length]; exact hk.2, fun p hp => ?_⟩)
          have g : Gr0 F H (upd F p (.tup (List.replicate k.toNat vs).flatten)) (upd H p (.tup (List.replicate k.toNat vs).flatten)) := Gr0.new e hp
          rw [← repD_eq] at q
          exact q _ _ _ g (.tup upd_same ((rs.rep k.toNat).mono g.ff))
  · cases hg
section
variable {S : Type} {T : CT} {Z : SK S} {m : Bool} {a b : Expr} {fa fb : Fn S D} {pos : Pos}
theorem SE.mulA (ha : SE T Z m a fa) (hb : SE T Z m b fb) : SE T Z m (.BinOp a .Mult b pos) (fOp gMulX fa fb) := SE.op (r := rMulA T.R.K) (fun X h => by rw [← h.K]; exact op_mulA) e_mulA ha hb
end
end SL
/-! Sem26: y = [..], shared at once; the top of a text. -/
namespace SL
open PySem L2
open Evl (Ex)
def clsBody : Stmt → List Stmt
  | .ClassDef _ _ _ b _ _ _ _ _ _ _ => b
  | _ => []
section
variable {S : Type} {T : CT} {Z : SK S} {tg : Expr} {es : List Expr} {fe : Fn S D} {fr fi fi1 : Fn S (List D)} {ft fu : Fn S Bool} {pos pos' apos : Pos} {bd bd1 : Bd}
theorem SS.lcS (i : Nat) {y : Str} {elt iter : Expr} {scope : Scope} {own : List (Str × Nat)} (hI : SW T Z false tg iter fr) (hB : BlkOk T.N T.sc scope own) (hG : SG (T.blk scope) (own.map (·.2)) tg bd) (hQ : SQs (T.blk scope) Z false es ft) (hE : SE (T.blk scope) Z false elt fe)
    (hx : T.N[i]? = some y := by rfl) (hv : List.lookup y T.sc.names = some NameKind.local := by rfl)
    (hs : swapsWith (.ListComp elt [{ target := tg, iter := iter, ifs := es, is_async := 0 }] scope pos) (some (.Name y pos')) apos.line (dE T.sc) = pure true := by rfl)
    (hf : ∀ env x, foldedSetIterable iter env x = pure x := by exact fun _ _ => rfl) : SS T Z (.Assign [.Name y pos'] (.ListComp elt [{ target := tg, iter := iter, ifs := es, is_async := 0 }] scope pos) apos) (sAsg (fL (fLc fr bd ft fe (own.map (·.2)))) (bName i)) := by
  obtain ⟨ti, pi, ei⟩ := hI
  obtain ⟨tg, pg, eg⟩ := hG
  obtain ⟨tq, pq, eq⟩ := hQ
  obtain ⟨te, pe, ee⟩ := hE
  exact ⟨_, fun X h => ps_setLc (i := i) h.calm h.nd (by rw [h.N]; exact hx) (by rw [h.sc]; exact hv) (by rw [sw_dE, h.sc]; exact hs) (pi X h) (by rw [h.N, h.sc]; exact hB) (fun s H C cl fp => pg _ (h.blk scope s H C cl fp)) (fun s H C cl fp => pq _ (h.blk scope s H C cl fp)) (fun s H C cl fp => pe _ (h.blk scope s H C cl fp)) (hf X.env), ST.asg (ES.a (EVl.ev (EVl.lc ei eg eq ee))) (EVg.name i)⟩
theorem SS.lc2S (i : Nat) {y : Str} {elt iter iter1 tg1 : Expr} {ifs ifs1 : List Expr} {scope : Scope} {own : List (Str × Nat)} {vs0 vs1 : List Nat} (hI : SW T Z false tg iter fi) (hB : BlkOk T.N T.sc scope own) (hV : (∀ i, i ∈ vs0 → i ∈ own.map (·.2)) ∧ ∀ i, i ∈ vs1 → i ∈ own.map (·.2)) (hG : SG (T.blk scope) vs0 tg bd) (hQ : SQs (T.blk scope) Z false ifs ft)
    (hI1 : SW (T.blk scope) Z false tg1 iter1 fi1) (hG1 : SG (T.blk scope) vs1 tg1 bd1) (hQ1 : SQs (T.blk scope) Z false ifs1 fu) (hE : SE (T.blk scope) Z false elt fe)
    (hx : T.N[i]? = some y := by rfl) (hv : List.lookup y T.sc.names = some NameKind.local := by rfl)
    (hs : swapsWith (.ListComp elt [{ target := tg, iter := iter, ifs := ifs, is_async := 0 }, { target := tg1, iter := iter1, ifs := ifs1, is_async := 0 }] scope pos) (some (.Name y pos')) apos.line (dE T.sc) = pure true := by rfl)
    (hf : ∀ env x, foldedSetIterable iter env x = pure x := by exact fun _ _ => rfl) (hf1 : ∀ env x, foldedSetIterable iter1 env x = pure x := by exact fun _ _ => rfl) : SS T Z (.Assign [.Name y pos'] (.ListComp elt [{ target := tg, iter := iter, ifs := ifs, is_async := 0 }, { target := tg1, iter := iter1, ifs := ifs1, is_async := 0 }] scope pos) apos) (sAsg (fL (fLc2 fi bd ft fi1 bd1 fu fe (own.map (·.2)) vs1)) (bName i)) := by
  obtain ⟨ti, pi, ei⟩ := hI
  obtain ⟨tg, pg, eg⟩ := hG
  obtain ⟨tq, pq, eq⟩ := hQ
  obtain ⟨ti1, pi1, ei1⟩ := hI1
  obtain ⟨tg1, pg1, eg1⟩ := hG1
  obtain ⟨tq1, pq1, eq1⟩ := hQ1
  obtain ⟨te, pe, ee⟩ := hE
  exact ⟨_, fun X h => ps_setLc2 (i := i) h.calm h.nd (by rw [h.N]; exact hx) (by rw [h.sc]; exact hv) (by rw [sw_dE, h.sc]; exact hs) (pi X h) (by rw [h.N, h.sc]; exact hB) hV.2 (fun s H C cl fp => pg _ (h.blk scope s H C cl fp)) (fun s H C cl fp => pq _ (h.blk scope s H C cl fp)) (fun s H C cl fp => pi1 _ (h.blk scope s H C cl fp)) (fun s H C cl fp => pg1 _ (h.blk scope s H C cl fp)) (fun s H C cl fp => pq1 _ (h.blk scope s H C cl fp)) (fun s H C cl fp => pe _ (h.blk scope s H C cl fp)) (hf X.env) hf1, ST.asg (ES.a (EVl.ev (EVl.lc2 hV.1 ei eg eq ei1 eg1 eq1 ee))) (EVg.name i)⟩
theorem SQ.notInKI {m : Bool} {e : Expr} {fe : Fn S D} {p : Pos} {x : Str} {a : Addr} {fv : Int → Option V} {fb : Int → Option Bool} (kd : KInt T.R.K a fv) (mx : T.mg x = some (.ref a)) (hs : ∀ k b, fb k = some b → (fv k).isSome = b) (he : SE T Z m e fe) (gx : List.lookup x T.sc.names = some NameKind.globalImplicit := by rfl) (n2 : (x == Str.ofString "__debug__") = false := by rfl) (hm : behindInMarks .NotIn (.Name x p) = false := by rfl) : SQ T Z m (.Compare e [.NotIn] [.Name x p] pos) (fTest (fUn (gNotKI fb) fe)) := by
  obtain ⟨t, pe, ev⟩ := he
  refine ⟨_, fun X h => pt_cmpR (op_notInKI (by rw [h.K]; exact kd)) (pe X h) (pe_glob (v := .ref a) (by show List.lookup x X.env.scope.names = _; rw [h.sc]; exact gx) (by rw [h.mg]; exact mx) (show RelV (.ref a) (.ref a) from rfl) n2) hm, EVt.test ?_⟩
  intro σ env F H s d s' Q pr ee q
  unfold fUn at ee
  cases h1 : fe env s with
  | none => rw [h1] at ee; cases ee
  | some o1 =>
    obtain ⟨y, s1⟩ := o1
    rw [h1] at ee
    simp only at ee
    split at ee
    case h_1 => cases ee
    rename_i d3 h3
    cases ee
    unfold gNotKI at h3
    split at h3
    case h_2 => cases h3
    rename_i k
    split at h3
    case h_2 => cases h3
    rename_i b hb
    cases h3
    refine ev σ env F H s _ _ _ pr h1 fun v F1 H1 g1 k1 r1 => ?_
    cases r1
    refine ⟨k, rfl, rfl, ?_⟩
    rw [hs k b hb]
    exact q _ F1 H1 g1 k1 (.bl _)
end
end SL
/-! Sem27: the head: facts of the written part. -/
namespace SL
open PySem L2
open Evl (Ex)
/-- a tuple of the written part, as told by a Bool -/
def tupB (K : PySem.W.Frag) (a : Addr) (vs : List V) : Bool := match K.lookup a with
  | some ⟨.type c, _, .seq its _, _⟩ => decide (c = "tuple") && (decide (its.size ≤ sizeLine) && He.relAll vs its.toList)
  | _ => false
theorem tupB_ok {K : PySem.W.Frag} {a : Addr} {vs : List V} (h : tupB K a vs = true) (H : Hp) : SqT K H a vs := by
  unfold tupB at h
  split at h
  case h_2 => cases h
  rename_i c od its n sl e
  rw [Bool.and_eq_true, Bool.and_eq_true] at h
  exact .inr ⟨_, its, n, e, by rw [of_decide_eq_true h.1], rfl, of_decide_eq_true h.2.1, He.relAll_ok h.2.2⟩
/-- the table of shapes -/
def esAt (K : PySem.W.Frag) (a : Addr) : Array DictEntry := match K.lookup a with
  | some ⟨_, _, .dict es _, _⟩ => es
  | _ => #[]
def fvAt (K : PySem.W.Frag) (a : Addr) : Int → Option V := fun k => match findBy Value.isInt (esAt K a) k with
  | some (.ref b) => some (.ref b)
  | _ => none
def entB (e : DictEntry) : Bool := match e.key, e.val with
  | .int k _, .ref _ => decide (e.hash = hashInt k)
  | _, _ => false
def refAt (K : PySem.W.Frag) (a : Addr) (q : Int) : Addr := match fvAt K a q with
  | some (.ref b) => b
  | _ => 0
def scdAt (K : PySem.W.Frag) (b : Addr) : Addr := match K.lookup b with
  | some ⟨_, _, .seq its _, _⟩ => (match (its.toList[1]? : Option Value) with
    | some (.ref c) => c
    | _ => 0)
  | _ => 0
def shpAt (K : PySem.W.Frag) (a : Addr) (s : Int × Int × List Int) : Shp := ⟨s.1, s.2.1, refAt K a s.1, scdAt K (refAt K a s.1), s.2.2⟩
def shpB (K : PySem.W.Frag) (a : Addr) (s : Shp) : Bool := (match fvAt K a s.q with
  | some (.ref b) => decide (b = s.a1)
  | _ => false) && (tupB K s.a1 [.int s.pr, .ref s.a2] && tupB K s.a2 (s.md.map V.int))
def dictB2 (K : PySem.W.Frag) (a : Addr) : Bool := match K.lookup a with
  | some ⟨.type c, none, .dict es _, sl⟩ => decide (c = "dict") && (sl.isEmpty && es.toList.all entB)
  | _ => false
def shapesB (L : List (Int × Int × List Int)) (nm : Str) (K : PySem.W.Frag) : Bool := !(He.ga K nm == sysModules) && (dictB2 K (He.ga K nm) && L.all fun s => shpB K (He.ga K nm) (shpAt K (He.ga K nm) s))
theorem shpB_ok {K : PySem.W.Frag} {a : Addr} {s : Shp} (h : shpB K a s = true) : s.ok K (fvAt K a) := by
  unfold shpB at h
  rw [Bool.and_eq_true, Bool.and_eq_true] at h
  obtain ⟨h1, h2, h3⟩ := h
  split at h1
  case h_2 => cases h1
  rename_i b e
  rw [of_decide_eq_true h1] at e
  exact ⟨e, tupB_ok h2, tupB_ok h3⟩
theorem kint_ok {K : PySem.W.Frag} {a : Addr} (h1 : (a == sysModules) = false) (h : dictB2 K a = true) : KInt K a (fvAt K a) := by
  unfold dictB2 at h
  split at h
  case h_2 => cases h
  rename_i c es n sl e
  rw [Bool.and_eq_true, Bool.and_eq_true] at h
  obtain ⟨hc, hs, ha⟩ := h
  have hc := of_decide_eq_true hc
  have hsl : sl = #[] := Array.isEmpty_iff.mp hs
  subst hc hsl
  have ee : esAt K a = es := by
    unfold esAt
    rw [e]
  have hall : ∀ x ∈ es, entB x = true := fun x hx => List.all_eq_true.mp ha x (Array.mem_toList_iff.mpr hx)
  refine ⟨es, n, e, fun x hx => ?_, h1, fun k => ?_⟩
  · have := hall x hx
    unfold entB at this
    split at this
    · rename_i k t b hk hv
      exact ⟨k, t, hk, of_decide_eq_true this⟩
    · cases this
  · unfold fvAt
    rw [ee]
    cases hf : findBy Value.isInt es k with
    | none => rfl
    | some u =>
      unfold findBy at hf
      rw [Option.map_eq_some_iff] at hf
      obtain ⟨x, hx, rfl⟩ := hf
      have hm : x ∈ es := Array.mem_of_find?_eq_some hx
      have := hall x hm
      unfold entB at this
      split at this
      · rename_i k t b hk hv
        rw [hv]
        exact ⟨_, rfl, rfl⟩
      · cases this
theorem shapes_ok {K : PySem.W.Frag} {L : List (Int × Int × List Int)} {nm : Str} (h : shapesB L nm K = true) : KInt K (He.ga K nm) (fvAt K (He.ga K nm)) ∧ (∀ s ∈ L.map (shpAt K (He.ga K nm)), s.ok K (fvAt K (He.ga K nm))) ∧ (L.map (shpAt K (He.ga K nm))).map Shp.pl = L := by
  unfold shapesB at h
  rw [Bool.and_eq_true, Bool.and_eq_true] at h
  obtain ⟨h1, h2, h3⟩ := h
  refine ⟨kint_ok (by simpa using h1) h2, fun s hs => ?_, ?_⟩
  · obtain ⟨t, ht, rfl⟩ := List.mem_map.mp hs
    exact shpB_ok (List.all_eq_true.mp h3 t ht)
  · rw [List.map_map]
    have : (Shp.pl ∘ shpAt K (He.ga K nm)) = id := funext fun ⟨a, b, c⟩ => rfl
    rw [this, List.map_id]
/-- a def of the written part -/
theorem fun_of_defs {fa : List He.Fa} {fn : List He.DefD} {K : PySem.W.Frag} (c : He.SaysD fa fn K) (i : Nat) {x qual : Str} {st : Stmt} {at_ : Str × Option Str}
    (h : fn[i]? = some ⟨at_, x, qual, defArgs st, defBody st, defScope st, [], []⟩ := by rfl) : ∃ fd, Fun K x qual st (He.fAd K at_) fd := by
  obtain ⟨fd, F⟩ := c.def_ i h
  exact ⟨fd, He5.fun_of F⟩
end SL
/-! Sem28: plain laws: comprehensions over lists, words of bits as numbers. -/
namespace SL
open PySem L2
section
variable {S : Type} {ι : Type}
theorem lcRun_map {b : Bd} {ft : Fn S Bool} {fe : Fn S D} {env : Env} {s : S} (f h : ι → D) : ∀ l : List ι, (∀ i ∈ l, ∃ env1, b env (f i) = some env1 ∧ ft env1 s = some (true, s) ∧ fe env1 s = some (h i, s)) → lcRun b ft fe env (l.map f) s = some (l.map h, s)
  | [], _ => rfl
  | i :: l, H => by
    obtain ⟨env1, h1, h2, h3⟩ := H i (List.mem_cons_self ..)
    simp only [List.map_cons, lcRun, h1, h2, h3, lcRun_map f h l fun j hj => H j (List.mem_cons_of_mem _ hj)]
theorem seq_nx {f g : Stm S} {env e1 : Env} {s s1 : S} (h : f env s = some (.nx e1, s1)) : sSeq f g env s = g e1 s1 := by
  unfold sSeq
  rw [h]
end
theorem zipD_map {ι : Type} (f g : ι → D) : ∀ l : List ι, zipD (l.map f) (l.map g) = l.map fun i => .tup [f i, g i]
  | [] => rfl
  | i :: l => by simp [zipD, zipD_map f g l]
theorem rangeD_map : ∀ (n : Nat) (lo : Int), rangeD lo n = (List.range n).map fun i => .int (lo + i)
  | 0, _ => rfl
  | n + 1, lo => by
    rw [List.range_succ_eq_map, List.map_cons, List.map_map, rangeD, rangeD_map n]
    have e : (fun i : Nat => D.int (lo + 1 + i)) = (fun i : Nat => D.int (lo + i)) ∘ Nat.succ := by
      funext i
      show D.int _ = D.int _
      congr 1
      show lo + 1 + (i : Int) = lo + ((i + 1 : Nat) : Int)
      omega
    rw [e]
    congr 2
    omega
/-! ### bits -/
def bt (k i : Nat) : Int := if k.testBit i then 1 else 0
def wl (n k : Nat) : List D := (List.range n).map fun i => .int (bt k i)
def wd (n k : Nat) : D := .tup (wl n k)
def par : Nat → Nat → Bool
  | 0, _ => false
  | n + 1, k => xor (par n k) (k.testBit n)
theorem par_xor (a b : Nat) : ∀ n, par n (a ^^^ b) = xor (par n a) (par n b)
  | 0 => rfl
  | n + 1 => by
    simp only [par, par_xor a b n, Nat.testBit_xor]
    cases par n a <;> cases par n b <;> cases a.testBit n <;> cases b.testBit n <;> rfl
theorem and_xor_l (h a b : Nat) : h &&& (a ^^^ b) = (h &&& a) ^^^ (h &&& b) := by
  apply Nat.eq_of_testBit_eq
  intro i
  simp only [Nat.testBit_and, Nat.testBit_xor]
  cases h.testBit i <;> cases a.testBit i <;> cases b.testBit i <;> rfl
/-- all sums of some of them -/
def span : List Nat → List Nat
  | [] => [0]
  | k :: ks => span ks ++ (span ks).map (k ^^^ ·)
theorem par_zero : ∀ n, par n 0 = false
  | 0 => rfl
  | n + 1 => by simp [par, par_zero n]
theorem par_span {n h : Nat} : ∀ {ks : List Nat}, (∀ k ∈ ks, par n (h &&& k) = false) → ∀ x ∈ span ks, par n (h &&& x) = false
  | [], _, x, hx => by
    have : x = 0 := by simpa [span] using hx
    rw [this, Nat.and_zero]
    exact par_zero n
  | k :: ks, H, x, hx => by
    have ih := par_span fun k hk => H k (List.mem_cons_of_mem _ hk)
    rcases List.mem_append.mp hx with hx | hx
    · exact ih x hx
    · obtain ⟨y, hy, rfl⟩ := List.mem_map.mp hx
      rw [and_xor_l, par_xor, H k (List.mem_cons_self ..), ih y hy]
      rfl
theorem span_zero : ∀ ks : List Nat, 0 ∈ span ks
  | [] => by simp [span]
  | k :: ks => List.mem_append_left _ (span_zero ks)
/-! ### sorted(set(..)) of two values -/
theorem sortU_two {v : Int} (hv : 0 < v) : ∀ xs : List Int, (∀ x ∈ xs, x = 0 ∨ x = v) → sortU xs = (if 0 ∈ xs then [0] else []) ++ (if v ∈ xs then [v] else [])
  | [], _ => rfl
  | x :: xs, H => by
    have hv0 : v ≠ 0 := by omega
    rw [sortU, sortU_two hv xs fun y hy => H y (List.mem_cons_of_mem _ hy)]
    rcases H x (List.mem_cons_self ..) with rfl | rfl
    · by_cases h1 : (0 : Int) ∈ xs <;> by_cases h2 : v ∈ xs <;> simp [h1, h2, insU, hv, hv0]
    · by_cases h1 : (0 : Int) ∈ xs <;> by_cases h2 : x ∈ xs <;> simp [h1, h2, insU, hv, hv0, Ne.symm hv0] <;> omega
end SL
/-! Sem29: how the plain functions compute, rule by rule. -/
namespace SL
open PySem L2
section
variable {S : Type} {env e1 e2 : Env} {s s1 s2 s3 : S} {fa fb fe : Fn S D} {fr fi : Fn S (List D)} {ft fu : Fn S Bool} {f g : Stm S} {b : Bd} {x y d : D} {xs ds : List D} {o : Out}
theorem v_fCons (h : fa env s = some (x, s1)) (k : fr env s1 = some (xs, s2)) : fCons fa fr env s = some (x :: xs, s2) := by simp only [fCons, h, k]
theorem v_fNil : (fNil : Fn S (List D)) env s = some ([], s) := rfl
theorem v_fL (h : fi env s = some (xs, s1)) : fL fi env s = some (.lst xs, s1) := by simp only [fL, h]
theorem v_fLc {vs : List Nat} {r : Option (List D × S)} (h : fi env s = some (xs, s1)) (hl : xs.length ≤ 100000) (k : lcRun b ft fe (wipeE env vs) xs s1 = r) : fLc fi b ft fe vs env s = r := by simp only [fLc, h, if_pos hl, k]
theorem v_fCall {g : List D → Option D} (h : fr env s = some (xs, s1)) (k : g xs = some d) : fCall g fr env s = some (d, s1) := by simp only [fCall, h, k]
theorem v_fCallS {g : List D → S → Option (D × S)} {r : Option (D × S)} (h : fr env s = some (xs, s1)) (k : g xs s1 = r) : fCallS g fr env s = r := by simp only [fCallS, h, k]
theorem v_lenG {n : Nat} {g : List D → Option D} {r : Option D} (h : xs.length = n) (k : g xs = r) : lenG n g xs = r := by simp only [lenG, if_pos h, k]
theorem v_lenGS {n : Nat} {g : List D → S → Option (D × S)} {r : Option (D × S)} (h : xs.length = n) (k : g xs s = r) : lenGS n g xs s = r := by simp only [lenGS, if_pos h, k]
theorem v_fMeth {c n : Nat} {g : List D → Option D} (h : fa env s = some (.ins c ds, s1)) (k : fr env s1 = some (xs, s2)) (hn : (D.ins c ds :: xs).length = n) (hg : g (.ins c ds :: xs) = some d) : fMeth c n g fa fr env s = some (d, s2) := by
  simp only [fMeth, h, k, if_pos rfl, lenG, if_pos hn, hg]
  rfl
theorem v_fOp {g : D → D → Option D} (h : fa env s = some (x, s1)) (k : fb env s1 = some (y, s2)) (hg : g x y = some d) : fOp g fa fb env s = some (d, s2) := by simp only [fOp, h, k, hg]
theorem v_fUn {g : D → Option D} (h : fa env s = some (x, s1)) (hg : g x = some d) : fUn g fa env s = some (d, s1) := by simp only [fUn, h, hg]
theorem v_fTest {c : Bool} (h : fa env s = some (.bl c, s1)) : fTest fa env s = some (c, s1) := by simp only [fTest, h]
theorem v_fIf {r : Option (D × S)} {c : Bool} (h : ft env s = some (c, s1)) (k : (if c then fa env s1 else fb env s1) = r) : fIf ft fa fb env s = r := by
  cases c
  · simp only [fIf, h]; exact k
  · simp only [fIf, h]; exact k
theorem v_fIfT {r : Option (D × S)} (h : ft env s = some (true, s1)) (k : fa env s1 = r) : fIf ft fa fb env s = r := v_fIf h k
theorem v_fIfF {r : Option (D × S)} (h : ft env s = some (false, s1)) (k : fb env s1 = r) : fIf ft fa fb env s = r := v_fIf h k
theorem v_fNotV {c : Bool} (h : fa env s = some (.bl c, s1)) : fNotV fa env s = some (.bl (!c), s1) := by simp only [fNotV, h]
theorem v_fTup (h : fr env s = some (xs, s1)) (hl : xs.length ≤ 100000) : fTup fr env s = some (.tup xs, s1) := by simp only [fTup, h, if_pos hl]
theorem v_fZip {ys : List D} (h : fr env s = some ([.tup xs, .tup ys], s1)) : fZip fr env s = some (zipD xs ys, s1) := by simp only [fZip, h]
theorem v_fList (h : fa env s = some (x, s1)) (k : items x = some xs) : fList fa env s = some (xs, s1) := by simp only [fList, h, k]
theorem v_sRet (h : fe env s = some (x, s1)) (k : x.isOwn = false := by rfl) : sRet fe env s = some (.rt x, s1) := by
  cases x <;> first | (simp only [sRet, h]; done) | cases k
theorem v_sAsg (h : fe env s = some (x, s1)) (k : b env x = some e1) (hx : x.isOwn = false := by rfl) : sAsg fe b env s = some (.nx e1, s1) := by
  cases x <;> first | (simp only [sAsg, h, k]; done) | cases hx
theorem v_sFor {r : Option (Out × S)} (h : fi env s = some (xs, s1)) (k : forRun b f xs env s1 = r) : sFor fi b f env s = r := by simp only [sFor, h, k]
theorem v_sIf {r : Option (Out × S)} {c : Bool} (h : ft env s = some (c, s1)) (k : (if c then f env s1 else g env s1) = r) : sIf ft f g env s = r := by
  cases c
  · simp only [sIf, h]; exact k
  · simp only [sIf, h]; exact k
theorem v_sIfT {r : Option (Out × S)} (h : ft env s = some (true, s1)) (k : f env s1 = r) : sIf ft f g env s = r := v_sIf h k
theorem v_sIfF {r : Option (Out × S)} (h : ft env s = some (false, s1)) (k : g env s1 = r) : sIf ft f g env s = r := v_sIf h k
theorem v_seq {r : Option (Out × S)} (h : f env s = some (.nx e1, s1)) (k : g e1 s1 = r) : sSeq f g env s = r := by rw [seq_nx h, k]
theorem v_seqR {d : D} (h : f env s = some (.rt d, s1)) : sSeq f g env s = some (.rt d, s1) := by simp only [sSeq, h]
theorem v_runS {n : Nat} {f : Stm S} (ho : ds.any D.isOwn = false) (h : f (startE n ds) s = some (.rt d, s1)) : runS n f ds s = some (d, s1) := by
  simp only [runS, ho, h, outR]
  rfl
theorem v_runP {n : Nat} {f : Stm Unit} (ho : ds.any D.isOwn = false) (h : f (startE n ds) () = some (.rt d, ())) : runP n f ds = some d := by
  simp only [runP, v_runS ho h]
end
theorem tru_false {ι : Type} (h : ι → D) : ∀ l : List ι, (∀ i ∈ l, truD (h i) = some false) → truDs (l.map h) = some (l.map fun _ => false)
  | [], _ => rfl
  | i :: l, H => by simp only [List.map_cons, truDs, H i (List.mem_cons_self ..), tru_false h l fun j hj => H j (List.mem_cons_of_mem _ hj)]
theorem okds_map {ι : Type} (n : Nat) (h : ι → D) : ∀ l : List ι, (∀ i ∈ l, (h i).okd n = true) → D.okds n (l.map h) = true
  | [], _ => by simp [D.okds]
  | i :: l, H => by simp [D.okds, H i (List.mem_cons_self ..), okds_map n h l fun j hj => H j (List.mem_cons_of_mem _ hj)]
theorem any_no {ι : Type} {x : D} (h : ι → D) (l : List ι) (hx : items x = some (l.map h)) (H : ∀ i ∈ l, truD (h i) = some false) (K : ∀ i ∈ l, (h i).okd 60 = true) : gAny [x] = some (.bl false) := by
  have e : (l.map fun _ => false).any id = false := by
    induction l with
    | nil => rfl
    | cons i l ih => simp
  simp only [gAny, hx, tru_false h l H, okds_map 60 h l K, e, if_pos rfl]
  rfl
theorem intsOf_map {ι : Type} (h : ι → Int) : ∀ l : List ι, intsOf (l.map fun i => .int (h i)) = some (l.map h)
  | [] => rfl
  | i :: l => by simp only [List.map_cons, intsOf, intsOf_map h l]
end SL
/-! Sem30: sum of a tuple of ints. -/
namespace SL
open PySem PySem.Spec PyProof.Rows L2
open Evl (Ex)
theorem sum_rawT {prog : Program} {w : World} {A : Around} {E : Value → Shared → Prop} {s : Shared} {l : Addr} {its : List Value} {ns : List Int} {Q : Value → Shared → Prop} (hh : A.handled = none) (hl : s.heap.IsTuple l its.toArray) (hi : IntsAre its ns)
    (h : ∀ h' tk t', (∀ b o, s.heap.get? b = some o → h'.get? b = some o) → Q (.int ns.sum t') { s with heap := h', toks := tk }) : wpAny (model prog w) A (call (.builtin "sum") [.ref l]) Q E s := by
  obtain ⟨xs, e⟩ := hi.allInts.items
  have hn : numsOf (intItems xs).toList = ns := by rw [← e]; exact hi.numsOf
  rw [nums_intItems] at hn
  rw [e] at hl
  refine PySem.W.ktm_sumG hh hl fun h' tk t' hk => ?_
  have := h h' tk t' hk
  rw [preSum_eq, List.take_of_length_le (by simp), hn]; exact this
def rSumA (K : PySem.W.Frag) : List V → Hp → VK → Prop := fun vs H Q => ∃ (a : Addr) (ns : List Int), vs = [V.ref a] ∧ (SqL K H a (ns.map V.int) ∨ SqT K H a (ns.map V.int)) ∧ Q (.int ns.sum) H
theorem cr_sumA {X : Cx} (hc : X.calm = true) : CallR X (.builtin "sum") (rSumA X.K) := by
  intro pins s σ H vs us Q I r h
  obtain ⟨a, ns, rfl, hs | hs, q⟩ := h
  · obtain ⟨its, rv, hl, _⟩ := I.list hs
    rw [Vals.ref1 r]
    exact sum_raw (I.ok.hd hc) hl.isList rv.ints fun h' tk t' hk => ⟨.int _, H, I.kept hk, ⟨_, rfl⟩, q⟩
  · obtain ⟨its, rv, ht, _⟩ := I.tuple hs
    rw [Vals.ref1 r]
    exact sum_rawT (I.ok.hd hc) ht rv.ints fun h' tk t' hk => ⟨.int _, H, I.kept hk, ⟨_, rfl⟩, q⟩
def gSumA (xs : List D) : Option D := match xs with
  | [x] => match items x with
    | some ds => match intsOf ds with
      | some ns => some (.int ns.sum)
      | none => none
    | none => none
  | _ => none
theorem c_sumA {R : RC} : CallE R (rSumA R.K) gSumA := by
  intro F H xs vs d Q e r hg q
  unfold gSumA at hg
  split at hg
  case h_2 => cases hg
  rename_i x
  split at hg
  case h_2 => cases hg
  rename_i ds hi
  split at hg
  case h_2 => cases hg
  rename_i ns hn
  cases hg
  obtain ⟨v, rfl, rv⟩ := r.one
  cases rv with
  | lst h1 r1 =>
    cases hi
    have := ints_of r1 hn
    subst this
    exact ⟨_, ns, rfl, .inl (SqL.of (e _ _ h1)), q _ F H (Grow.refl e) (.int _)⟩
  | tup h1 r1 =>
    cases hi
    have := ints_of r1 hn
    subst this
    exact ⟨_, ns, rfl, .inr (sqT_ex e (SqT.of h1)), q _ F H (Grow.refl e) (.int _)⟩
  | ktup h1 r1 =>
    cases hi
    have := ints_of r1 hn
    subst this
    exact ⟨_, ns, rfl, .inr (sqT_ex e h1), q _ F H (Grow.refl e) (.int _)⟩
  | _ => cases hi
section
variable {S : Type} {T : CT} {Z : SK S} {m : Bool} {e : Expr} {fr : Fn S (List D)} {pos p : Pos}
theorem SE.sumA (mx : T.mg (Str.ofString "sum") = none) (hA : SA T Z m [e] fr) (gx : GlB T "sum" := by rfl) (hs : ∀ env, starEach [e] env = (false, eval e env) :: starEach [] env := by exact fun _ => rfl) : SE T Z m (.Call (.Name (Str.ofString "sum") p) [e] [] pos) (fCall gSumA fr) := SE.callB (r := rSumA T.R.K) (fun X h => by rw [← h.K]; exact cr_sumA h.calm) c_sumA mx (by rfl) hA gx (by decide) (by rfl) hs (fun _ => rfl)
end
end SL
/-! Sem31: sorted(..) of alike data. -/
namespace SL
open PySem PySem.Spec PyProof.Rows L2
open Evl (Ex)
/-! ### shapes: alike by one look at each -/
inductive Sh where
  | int | str | bool
  | many (t : Sh)
  | row (ts : List Sh)
mutual
def homD : Sh → D → Bool
  | .int, .int _ => true
  | .str, .str _ => true
  | .bool, .bl _ => true
  | .many t, .tup ds => homAll t ds
  | .row ts, .tup ds => homRow ts ds
  | _, _ => false
def homAll : Sh → List D → Bool
  | _, [] => true
  | t, d :: ds => homD t d && homAll t ds
def homRow : List Sh → List D → Bool
  | [], [] => true
  | t :: ts, d :: ds => homD t d && homRow ts ds
  | _, _ => false
end
mutual
theorem homD_alike : ∀ (t : Sh) (x y : D), homD t x = true → homD t y = true → alikeD x y = true
  | .int, x, y, h, k => by cases x <;> simp [homD] at h <;> cases y <;> simp [homD] at k <;> rfl
  | .str, x, y, h, k => by cases x <;> simp [homD] at h <;> cases y <;> simp [homD] at k <;> rfl
  | .bool, x, y, h, k => by cases x <;> simp [homD] at h <;> cases y <;> simp [homD] at k <;> rfl
  | .many t, x, y, h, k => by
    cases x <;> simp [homD] at h
    cases y <;> simp [homD] at k
    simp only [alikeD]
    exact homAll_alike t _ _ h k
  | .row ts, x, y, h, k => by
    cases x <;> simp [homD] at h
    cases y <;> simp [homD] at k
    simp only [alikeD]
    exact homRow_alike ts _ _ h k
theorem homAll_alike : ∀ (t : Sh) (xs ys : List D), homAll t xs = true → homAll t ys = true → alikeDs xs ys = true
  | _, [], _, _, _ => by simp [alikeDs]
  | _, _ :: _, [], _, _ => by simp [alikeDs]
  | t, x :: xs, y :: ys, h, k => by
    simp only [homAll, Bool.and_eq_true] at h k
    simp only [alikeDs, Bool.and_eq_true]
    exact ⟨homD_alike t x y h.1 k.1, homAll_alike t xs ys h.2 k.2⟩
theorem homRow_alike : ∀ (ts : List Sh) (xs ys : List D), homRow ts xs = true → homRow ts ys = true → alikeDs xs ys = true
  | [], [], [], _, _ => by simp [alikeDs]
  | t :: ts, x :: xs, y :: ys, h, k => by
    simp only [homRow, Bool.and_eq_true] at h k
    simp only [alikeDs, Bool.and_eq_true]
    exact ⟨homD_alike t x y h.1 k.1, homRow_alike ts xs ys h.2 k.2⟩
  | [], _ :: _, _, h, _ => by simp [homRow] at h
  | [], [], _ :: _, _, k => by simp [homRow] at k
  | _ :: _, [], _, h, _ => by simp [homRow] at h
  | _ :: _, _ :: _, [], _, k => by simp [homRow] at k
end
mutual
/-- a shape that may do -/
def shD : D → Sh
  | .int _ => .int
  | .str _ => .str
  | .bl _ => .bool
  | .tup [] => .many .int
  | .tup (d :: ds) => if homAll (shD d) ds then .many (shD d) else .row (shD d :: shDs ds)
  | _ => .int
def shDs : List D → List Sh
  | [] => []
  | d :: ds => shD d :: shDs ds
end
/-! ### the order -/
def insD (x : D) : List D → List D
  | [] => [x]
  | y :: ys => if ltD y x then y :: insD x ys else x :: y :: ys
def sortD : List D → List D
  | [] => []
  | x :: xs => insD x (sortD xs)
theorem insD_mid (x : D) : ∀ l1 l2 : List D, (∀ b ∈ l1, ltD b x = true) → (∀ b ∈ l2, ltD b x = false) → insD x (l1 ++ l2) = l1 ++ x :: l2
  | [], [], _, _ => rfl
  | [], b :: l2, _, h => by simp [insD, h b (List.mem_cons_self ..)]
  | a :: l1, l2, h, k => by
    simp only [List.cons_append, insD, h a (List.mem_cons_self ..), if_pos]
    rw [insD_mid x l1 l2 (fun b hb => h b (List.mem_cons_of_mem _ hb)) k]
abbrev leD : D → D → Bool := PySem.W.dataLe false D.p
theorem leD_eq {n : Nat} {a b : D} (ha : a.okd n = true) (hb : b.okd n = true) (al : alikeD b a = true) : leD a b = !ltD b a := by
  unfold leD
  rw [PySem.W.dataLe_eq, ltD_p n n b a hb ha al]
  rfl
theorem sortD_eq (n : Nat) : ∀ ds : List D, (∀ a ∈ ds, a.okd n = true) → (∀ a ∈ ds, ∀ b ∈ ds, alikeD a b = true) → ds.mergeSort leD = sortD ds
  | [], _, _ => by simp [sortD]
  | x :: xs, ho, ha => by
    have T := PySem.W.sortLe_total (α := D) (PyProof.Rows.listOrd itemOrd) false fun b => PySem.W.keyToks b.p
    have tot : ∀ a b : D, (leD a b || leD b a) = true := fun a b => by
      rw [Bool.or_eq_true]
      exact T.total a b
    have ih := sortD_eq n xs (fun a h => ho a (List.mem_cons_of_mem _ h)) fun a h b k => ha a (List.mem_cons_of_mem _ h) b (List.mem_cons_of_mem _ k)
    obtain ⟨l1, l2, e1, e2, h⟩ := List.mergeSort_cons (le := leD) T.trans tot x xs
    have hs := List.pairwise_mergeSort (le := leD) T.trans tot (x :: xs)
    have mem : ∀ b, b ∈ l1 ++ l2 → b ∈ xs := fun b hb => by
      rw [← e2] at hb
      exact (List.mergeSort_perm xs leD).mem_iff.mp hb
    have ox := ho x (List.mem_cons_self ..)
    have le_ : ∀ b ∈ l1 ++ l2, leD x b = !ltD b x := fun b hb => leD_eq ox (ho b (List.mem_cons_of_mem _ (mem b hb))) (ha b (List.mem_cons_of_mem _ (mem b hb)) x (List.mem_cons_self ..))
    rw [e1, sortD, ← ih, e2, insD_mid]
    · intro b hb
      have := h b hb
      rw [le_ b (List.mem_append_left _ hb)] at this
      simpa using this
    · intro b hb
      rw [e1, List.pairwise_append] at hs
      have := (List.pairwise_cons.mp hs.2.1).1 b hb
      rw [le_ b (List.mem_append_right _ hb)] at this
      simpa using this
end SL
/-! Sem32: sorted(..) of a list of alike data, the rule. -/
namespace SL
open PySem PySem.Spec PyProof.Rows L2
open Evl (Ex)
/-- fit for sorting -/
def sortOk (ds : List D) : Bool := D.okds 40 ds && (match ds with
  | [] => true
  | d :: r => homAll (shD d) (d :: r) && (match d with
    | .tup _ => (d :: r).all fun x => match x with
      | .tup (_ :: _) => true
      | _ => false
    | .int _ => true
    | .str _ => true
    | _ => false))
theorem homAll_mem : ∀ {t : Sh} {ds : List D}, homAll t ds = true → ∀ d ∈ ds, homD t d = true
  | _, [], _, d, h => by cases h
  | t, x :: xs, h, d, hd => by
    simp only [homAll, Bool.and_eq_true] at h
    rcases List.mem_cons.mp hd with rfl | hd
    · exact h.1
    · exact homAll_mem h.2 d hd
theorem okds_mem {n : Nat} : ∀ {ds : List D}, D.okds n ds = true → ∀ d ∈ ds, d.okd n = true
  | [], _, d, h => by cases h
  | x :: xs, h, d, hd => by
    simp only [D.okds, Bool.and_eq_true] at h
    rcases List.mem_cons.mp hd with rfl | hd
    · exact h.1
    · exact okds_mem h.2 d hd
theorem sortOk_ok {ds : List D} (h : sortOk ds = true) : (∀ d ∈ ds, d.okd 40 = true) ∧ (∀ a ∈ ds, ∀ b ∈ ds, alikeD a b = true) ∧ PySem.W.Sortable (ds.map D.p) := by
  unfold sortOk at h
  rw [Bool.and_eq_true] at h
  obtain ⟨h1, h2⟩ := h
  refine ⟨okds_mem h1, ?_⟩
  cases ds with
  | nil => exact ⟨fun a h => (by cases h), Or.inl fun d h => (by cases h)⟩
  | cons d r =>
    simp only [Bool.and_eq_true] at h2
    obtain ⟨h2, h3⟩ := h2
    have hm := homAll_mem h2
    refine ⟨fun a ha b hb => homD_alike _ _ _ (hm a ha) (hm b hb), ?_⟩
    cases d with
    | tup xs =>
      simp only [List.all_eq_true] at h3
      refine .inl fun p hp => ?_
      obtain ⟨x, hx, rfl⟩ := List.mem_map.mp hp
      have := h3 x hx
      split at this
      · rename_i y ys
        exact ⟨y.p, D.ps ys, by simp only [D.p, D.ps]⟩
      · cases this
    | int i =>
      refine .inr fun p hp => ?_
      obtain ⟨x, hx, rfl⟩ := List.mem_map.mp hp
      have := hm x hx
      cases x <;> simp [shD, homD] at this
      simp [D.p]
    | str i =>
      refine .inr fun p hp => ?_
      obtain ⟨x, hx, rfl⟩ := List.mem_map.mp hp
      have := hm x hx
      cases x <;> simp [shD, homD] at this
      simp [D.p]
    | _ => simp at h3
theorem reads_each {X : Cx} {pins : List (Addr × Obj)} {σ : L2.St} {H : Hp} {s : Shared} {R : RC} {F : Hp} (I : Inv X pins σ H s) (hK : X.K = R.K) (hF : Ex F H) : ∀ {ds : List D} {us : List V} {vs : List Value}, Reps R F ds us → (∀ d ∈ ds, d.okd 40 = true) → Vals us vs → PySem.W.EachIs (fun v (d : D) => (∃ as, Reads s.heap v d.p as) ∧ ∃ u, RelV u v ∧ Rep R F d u) vs ds
  | [], _, _, .nil, _, .nil => .nil
  | d :: ds, _, _, .cons r rs, ho, .cons q qs => .cons ⟨Dp.reads I d.p _ _ (by rw [hK]; exact (r.mono hF).dp (ho d (List.mem_cons_self ..))) q, _, q, r⟩ (reads_each I hK hF rs (fun d h => ho d (List.mem_cons_of_mem _ h)) qs)
theorem each_back {R : RC} {H : Hp} {h : Heap} : ∀ {ds : List D} {vs : List Value}, PySem.W.EachIs (fun v (d : D) => (∃ as, Reads h v d.p as) ∧ ∃ u, RelV u v ∧ Rep R H d u) vs ds → ∃ us, Vals us vs ∧ Reps R H ds us
  | [], _, .nil => ⟨[], .nil, .nil⟩
  | _ :: _, _, .cons ⟨_, u, a, b⟩ r => by
    obtain ⟨us, c, d⟩ := each_back r
    exact ⟨u :: us, .cons a c, .cons b d⟩
def rSortD (R : RC) : List V → Hp → VK → Prop := fun vs H Q => ∃ (a : Addr) (us : List V) (ds : List D) (F : Hp), vs = [.ref a] ∧ SqL R.K H a us ∧ Ex F H ∧ Reps R F ds us ∧ sortOk ds = true ∧
  ∀ us' p, Reps R F (sortD ds) us' → H p = none → Q (.ref p) (upd H p (.lst us'))
theorem sortD_length (ds : List D) : (sortD ds).length = ds.length := by
  induction ds with
  | nil => rfl
  | cons x xs ih =>
    have : ∀ l : List D, (insD x l).length = l.length + 1 := by
      intro l
      induction l with
      | nil => rfl
      | cons y ys ih =>
        unfold insD
        split
        · simp [ih]
        · rfl
    rw [sortD, this, ih]
    rfl
theorem cr_sortD {X : Cx} {R : RC} (hK : X.K = R.K) (hu : X.A.units + 64 < cLine) : CallR X (.builtin "sorted") (rSortD R) := by
  intro pins s σ H vs us Q I r h
  obtain ⟨a, ws, ds, F, rfl, hs, hF, rr, ok, q⟩ := h
  rw [← hK] at hs
  obtain ⟨its, rv, hl, hz⟩ := I.list hs
  rw [Vals.ref1 r]
  obtain ⟨k1, k2, k3⟩ := sortOk_ok ok
  have e := reads_each I hK hF rr k1 rv
  have hlen : ds.length = ws.length := rr.length
  refine PySem.W.sorted_data (enc := D.p) hl.isList e (e.mono fun _ _ h => h.1) (fun p hp p' hp' => ?_) k3 (by rw [hlen]; exact hz) (fun d hd => ?_) fun out ho eo => ?_
  · obtain ⟨x, hx, rfl⟩ := List.mem_map.mp hp
    obtain ⟨y, hy, rfl⟩ := List.mem_map.mp hp'
    exact (alikeD_p x y (k2 x hx y hy)).1
  · have := (okd_plain 40 d (k1 d hd)).2
    omega
  · rw [show ds.mergeSort (PySem.W.dataLe false D.p) = sortD ds from sortD_eq 40 ds k1 k2] at eo
    obtain ⟨us', c1, c2⟩ := each_back eo
    obtain ⟨ep, he'⟩ := PyProof.Rows.sortedAll_at s.heap its out.toArray
    have hlen' : us'.length ≤ sizeLine := by
      rw [← c2.length, sortD_length, hlen]
      exact hz
    exact ⟨.ref _, upd H (s.heap.objs.size + 1) (.lst us'), I.laid (t' := s.toks) (fun _ _ => PyProof.Rows.sortedAll_old) (Nat.le_succ _) ⟨hlen', out, ep, c1, he'⟩, rfl, q us' _ c2 (I.hok.fresh (Nat.le_succ _))⟩
def fSortD {S : Type} (fa : Fn S D) : Fn S (List D) := fun env s => match fa env s with
  | some (.lst ds, s1) => if sortOk ds then some (sortD ds, s1) else none
  | _ => none
section
variable {S : Type} {R : RC} {Z : SK S} {m : Bool} {ta : TE} {fa : Fn S D}
theorem EVl.sortD (h : EV R Z m ta fa) : EVl R Z m (tCB (rSortD R) (tCons ta tNil)) (fSortD fa) := by
  refine EVl.new fun σ env F H s ds s' Q p e q => ?_
  unfold fSortD at e
  split at e
  case h_2 => cases e
  rename_i ds1 s1 e1
  split at e
  case isFalse => cases e
  rename_i ok
  cases e
  refine h σ env F H s _ _ _ p e1 fun v F1 H1 g1 k1 r1 => ?_
  have p1 := p.next g1 k1
  cases r1 with
  | lst h1 rs => exact ⟨_, _, ds1, F1, rfl, SqL.of (p1.fh _ _ h1), p1.fh, rs, ok, fun us' a r ha => q F1 H1 us' g1 k1 r a ha⟩
end
section
variable {S : Type} {T : CT} {Z : SK S} {m : Bool} {a : Expr} {fa : Fn S D} {pos p : Pos}
theorem SN.sortD (m1 : T.mg (Str.ofString "sorted") = none) (ha : SE T Z m a fa) (g1 : GlB T "sorted" := by rfl) (hs : ∀ env, starEach [a] env = (false, eval a env) :: starEach [] env := by exact fun _ => rfl) : SN T Z m (.Call (.Name (Str.ofString "sorted") p) [a] [] pos) (fSortD fa) := by
  obtain ⟨t, pA, eA⟩ := ha
  exact ⟨_, fun X h => by
    have h2 := pe_callB (p := p) (pos := pos) (cr_sortD (R := T.R) h.K h.hu) (by show List.lookup _ X.env.scope.names = _; rw [h.sc]; exact g1) (by rw [h.mg]; exact m1) (by rfl) (pa_cons (pA X h) pa_nil (hs X.env)) (by decide) (by rfl) (hs X.env) (by rfl)
    exact h2, EVl.sortD eA⟩
end
end SL
/-! Sem33: dicts: own ones in slots, what is read of them. -/
namespace SL
open PySem PySem.Spec PyProof.Rows L2
open Evl (Ex)

/-! ### keys -/
def isAtom : D → Bool
  | .int _ => true
  | .str _ => true
  | _ => false
def isKey : Bool → D → Bool
  | false, d => isAtom d
  | true, .tup ds => ds.all isAtom
  | _, _ => false
/-- what a key is -/
def encK (t : Bool) : Type := match t with
  | false => L2.Key
  | true => List L2.Key
theorem atom_enc {d : D} (h : isAtom d = true) : ∃ k, d = keyD k := by
  cases d <;> first | (exact ⟨.inl _, rfl⟩) | (exact ⟨.inr _, rfl⟩) | cases h
theorem atoms_enc : ∀ {ds : List D}, ds.all isAtom = true → ∃ ks : List L2.Key, ds = ks.map keyD
  | [], _ => ⟨[], rfl⟩
  | d :: ds, h => by
    rw [List.all_cons, Bool.and_eq_true] at h
    obtain ⟨k, e⟩ := atom_enc h.1
    obtain ⟨ks, es⟩ := atoms_enc h.2
    exact ⟨k :: ks, by rw [e, es]; rfl⟩
theorem same_key (a b : L2.Key) : D.same (keyD a) (keyD b) = decide (a = b) := by
  cases a with
  | inl i => cases b with
    | inl j =>
      simp only [keyD, D.same]
      by_cases h : i = j
      · subst h; simp
      · simp [h]
    | inr y => simp [keyD, D.same]
  | inr x => cases b with
    | inl j => simp [keyD, D.same]
    | inr y =>
      simp only [keyD, D.same]
      by_cases h : x = y
      · subst h; simp
      · simp [h]
theorem sames_keys : ∀ (a b : List L2.Key), D.sames (a.map keyD) (b.map keyD) = decide (a = b)
  | [], [] => by simp [D.sames]
  | [], _ :: _ => by simp [D.sames]
  | _ :: _, [] => by simp [D.sames]
  | x :: a, y :: b => by
    simp only [List.map_cons, D.sames, same_key, sames_keys a b]
    by_cases h1 : x = y <;> by_cases h2 : a = b <;> simp [h1, h2]
theorem same_tkey (a b : List L2.Key) : D.same (.tup (a.map keyD)) (.tup (b.map keyD)) = decide (a = b) := by
  simp only [D.same, sames_keys]

/-! ### plain dicts by place -/
def dGet (k : D) : List D → List D → Option D
  | x :: ks, d :: ds => if D.same x k then some d else dGet k ks ds
  | _, _ => none
def dHas (k : D) : List D → Bool
  | [] => false
  | x :: ks => D.same x k || dHas k ks
def dRep (k v : D) : List D → List D → List D
  | x :: ks, d :: ds => (if D.same x k then v else d) :: dRep k v ks ds
  | _, ds => ds
def dDropK (k : D) : List D → List D
  | [] => []
  | x :: ks => if D.same x k then dDropK k ks else x :: dDropK k ks
def dDropV (k : D) : List D → List D → List D
  | x :: ks, d :: ds => if D.same x k then dDropV k ks ds else d :: dDropV k ks ds
  | _, _ => []
section
variable {κ : Type} [DecidableEq κ] {R : RC} {F : Hp} (enc : κ → D) (hs : ∀ a b, D.same (enc a) (enc b) = decide (a = b))
include hs
theorem dHas_ok (k : κ) : ∀ kvs : List (κ × V), dHas (enc k) (kvs.map fun kv => enc kv.1) = (valV kvs k).isSome
  | [] => rfl
  | p :: r => by
    simp only [List.map_cons, dHas, hs]
    by_cases h : p.1 = k
    · rw [valV_pos h]; simp [h]
    · rw [valV_neg h, dHas_ok k r]; simp [h]
theorem dGet_ok (k : κ) : ∀ {kvs : List (κ × V)} {ds : List D} {d : D}, Reps R F ds (kvs.map (·.2)) → dGet (enc k) (kvs.map fun kv => enc kv.1) ds = some d → ∃ v, valV kvs k = some v ∧ Rep R F d v
  | [], _, _, _, h => by simp [dGet] at h
  | p :: r, ds, d, rs, h => by
    cases rs with
    | cons r1 r2 =>
      simp only [List.map_cons, dGet, hs] at h
      by_cases e : p.1 = k
      · rw [if_pos (by simpa using e)] at h
        cases h
        exact ⟨p.2, valV_pos e, r1⟩
      · rw [if_neg (by simpa using e)] at h
        obtain ⟨v, h1, h2⟩ := dGet_ok k r2 h
        exact ⟨v, by rw [valV_neg e]; exact h1, h2⟩
theorem dRep_ok (k : κ) {v : D} {w : V} (rv : Rep R F v w) : ∀ {kvs : List (κ × V)} {ds : List D}, Reps R F ds (kvs.map (·.2)) → Reps R F (dRep (enc k) v (kvs.map fun kv => enc kv.1) ds) ((kvs.map fun kv => if kv.1 = k then (kv.1, w) else kv).map (·.2))
  | [], _, rs => by cases rs; exact .nil
  | p :: r, ds, rs => by
    cases rs with
    | cons r1 r2 =>
      simp only [List.map_cons, dRep, hs]
      by_cases e : p.1 = k
      · rw [if_pos (by simpa using e), if_pos e]
        exact .cons rv (dRep_ok k rv r2)
      · rw [if_neg (by simpa using e), if_neg e]
        exact .cons r1 (dRep_ok k rv r2)
theorem dDrop_ok (k : κ) : ∀ {kvs : List (κ × V)} {ds : List D}, Reps R F ds (kvs.map (·.2)) → dDropK (enc k) (kvs.map fun kv => enc kv.1) = (dropK kvs k).map (fun kv => enc kv.1) ∧ Reps R F (dDropV (enc k) (kvs.map fun kv => enc kv.1) ds) ((dropK kvs k).map (·.2))
  | [], _, rs => by cases rs; exact ⟨rfl, .nil⟩
  | p :: r, ds, rs => by
    cases rs with
    | cons r1 r2 =>
      have ih := dDrop_ok k r2
      simp only [List.map_cons, dDropK, dDropV, hs]
      unfold dropK at ih ⊢
      by_cases e : p.1 = k
      · rw [if_pos (by simpa using e), if_pos (by simpa using e), List.filter_cons_of_neg (by simpa using e)]
        exact ih
      · rw [if_neg (by simpa using e), if_neg (by simpa using e), List.filter_cons_of_pos (by simpa using e)]
        exact ⟨by rw [ih.1]; rfl, .cons r1 ih.2⟩
end
theorem keys_put {κ : Type} [DecidableEq κ] (kvs : List (κ × V)) (k : κ) (w : V) : (kvs.map fun kv => if kv.1 = k then (kv.1, w) else kv).map (·.1) = kvs.map (·.1) := by
  induction kvs with
  | nil => rfl
  | cons p r ih =>
    simp only [List.map_cons]
    rw [ih]
    by_cases e : p.1 = k <;> simp [e]

/-- d[k] = v -/
def dPut (k v : D) (t : Bool) (ks ds : List D) : D := if dHas k ks then .odk t ks (dRep k v ks ds) else .odk t (ks ++ [k]) (ds ++ [v])

/-! ### reading -/
section
variable {R : RC} {F H : Hp}
theorem rep_key {k : L2.Key} {y : V} (h : Rep R F (keyD k) y) : y = kV k := by
  cases k with
  | inl i => cases h; rfl
  | inr x => cases h; rfl
theorem rep_keys : ∀ {ks : List L2.Key} {ys : List V}, Reps R F (ks.map keyD) ys → ys = ks.map kV
  | [], _, h => by cases h; rfl
  | k :: ks, _, h => by
    cases h with
    | cons h1 h2 => rw [rep_key h1, rep_keys h2]; rfl
/-- what a dict is looked up by -/
theorem dget_of {z t : Bool} {ks ds : List D} {k x : D} {y v : V} (e : Ex F H) (rd : Rep R F (.dic z t ks ds) v) (rk : Rep R F k y) (hk : isKey t k = true) :
    ∃ a o, v = .ref a ∧ DGet H a y o ∧ o.isSome = dHas k ks ∧ ∀ d, dGet k ks ds = some d → ∃ w, o = some w ∧ Rep R F d w := by
  cases rd with
  | dicK hF rs =>
    rename_i a kvs
    obtain ⟨k', ek⟩ := atom_enc (d := k) hk
    subst ek
    rw [rep_key rk]
    refine ⟨a, valV kvs k', rfl, .inl ⟨kvs, k', (FZ.mono e hF).rd, rfl, rfl⟩, (dHas_ok keyD same_key k' kvs).symm, fun d hd => ?_⟩
    obtain ⟨w, h1, h2⟩ := dGet_ok keyD same_key k' rs hd
    exact ⟨w, h1, h2⟩
  | dicT hF rs =>
    rename_i a kvs
    have : ∃ ks' : List L2.Key, k = .tup (ks'.map keyD) := by
      cases k <;> first | (cases hk; done) | skip
      obtain ⟨ks', e⟩ := atoms_enc (show List.all _ isAtom = true from hk)
      exact ⟨ks', by rw [e]⟩
    obtain ⟨k', ek⟩ := this
    subst ek
    cases rk with
    | tup hb rb =>
      have := rep_keys rb
      subst this
      refine ⟨a, valV kvs k', rfl, .inr ⟨kvs, k', _, (FZ.mono e hF).rd, rfl, e _ _ hb, rfl⟩, (dHas_ok (fun k => D.tup (k.map keyD)) same_tkey k' kvs).symm, fun d hd => ?_⟩
      obtain ⟨w, h1, h2⟩ := dGet_ok (fun k => D.tup (k.map keyD)) same_tkey k' rs hd
      exact ⟨w, h1, h2⟩
end
section
variable {S : Type} {R : RC} {Z : SK S} {m : Bool} {td tk : TE} {fd fk : Fn S D}
def fDIn (neg : Bool) (fk fd : Fn S D) : Fn S D := fun env s => match fk env s with
  | none => none
  | some (k, s1) => match fd env s1 with
    | some (.dic _ t ks _, s2) => if isKey t k then some (.bl (if neg then !dHas k ks else dHas k ks), s2) else none
    | _ => none
def fDGet (fd fk : Fn S D) : Fn S D := fun env s => match fd env s with
  | some (.dic _ t ks ds, s1) => match fk env s1 with
    | none => none
    | some (k, s2) => if isKey t k then match dGet k ks ds with
      | some d => some (d, s2)
      | none => none
      else none
  | _ => none
theorem EV.dIn (hk : EV R Z m tk fk) (hd : EV R Z m td fd) : EV R Z m (tDIn tk td) (fDIn false fk fd) := by
  intro σ env F H s d s' Q p e q
  unfold fDIn at e
  cases h1 : fk env s with
  | none => rw [h1] at e; cases e
  | some o1 =>
    obtain ⟨x, s1⟩ := o1
    rw [h1] at e
    simp only at e
    split at e
    case h_2 => cases e
    rename_i z t ks ds s2 h2
    split at e
    case isFalse => cases e
    rename_i hkey
    cases e
    refine hk σ env F H s x s1 _ p h1 fun vx F1 H1 g1 k1 r1 => ?_
    have p1 := p.next g1 k1
    refine hd σ env F1 H1 s1 _ _ _ p1 h2 fun vd F2 H2 g2 k2 r2 => ?_
    have p2 := p1.next g2 k2
    obtain ⟨a, o, ev, dg, ho, _⟩ := dget_of (x := x) p2.fh r2 (r1.mono g2.ff) hkey
    refine ⟨a, o, ev, dg, ?_⟩
    rw [ho]
    exact q _ F2 H2 (g1.trans g2 p1.hz) k2 (.bl _)
theorem EV.dNotIn (hk : EV R Z m tk fk) (hd : EV R Z m td fd) : EV R Z m (tDNotIn tk td) (fDIn true fk fd) := by
  intro σ env F H s d s' Q p e q
  unfold fDIn at e
  cases h1 : fk env s with
  | none => rw [h1] at e; cases e
  | some o1 =>
    obtain ⟨x, s1⟩ := o1
    rw [h1] at e
    simp only at e
    split at e
    case h_2 => cases e
    rename_i z t ks ds s2 h2
    split at e
    case isFalse => cases e
    rename_i hkey
    cases e
    refine hk σ env F H s x s1 _ p h1 fun vx F1 H1 g1 k1 r1 => ?_
    have p1 := p.next g1 k1
    refine hd σ env F1 H1 s1 _ _ _ p1 h2 fun vd F2 H2 g2 k2 r2 => ?_
    have p2 := p1.next g2 k2
    obtain ⟨a, o, ev, dg, ho, _⟩ := dget_of (x := x) p2.fh r2 (r1.mono g2.ff) hkey
    refine ⟨a, o, ev, dg, ?_⟩
    rw [ho]
    exact q _ F2 H2 (g1.trans g2 p1.hz) k2 (.bl _)
theorem EV.dGet (hd : EV R Z m td fd) (hk : EV R Z m tk fk) : EV R Z m (tDGet td tk) (fDGet fd fk) := by
  intro σ env F H s d s' Q p e q
  unfold fDGet at e
  split at e
  case h_2 => cases e
  rename_i z t ks ds s1 h1
  cases h2 : fk env s1 with
  | none => rw [h2] at e; cases e
  | some o1 =>
    obtain ⟨x, s2⟩ := o1
    rw [h2] at e
    simp only at e
    split at e
    case isFalse => cases e
    rename_i hkey
    split at e
    case h_2 => cases e
    rename_i d' hg
    cases e
    refine hd σ env F H s _ s1 _ p h1 fun vd F1 H1 g1 k1 r1 => ?_
    have p1 := p.next g1 k1
    refine hk σ env F1 H1 s1 _ _ _ p1 h2 fun vx F2 H2 g2 k2 r2 => ?_
    have p2 := p1.next g2 k2
    obtain ⟨a, o, ev, dg, ho, hv⟩ := dget_of (x := x) p2.fh (r1.mono g2.ff) r2 hkey
    obtain ⟨w, ew, rw_⟩ := hv _ hg
    subst ew
    exact ⟨a, w, ev, dg, q _ F2 H2 (g1.trans g2 p1.hz) k2 rw_⟩
end
/-! len -/
def gLenD (xs : List D) : Option D := match xs with
  | [.dic false _ ks ds] => if ks.length ≤ 100000 then some (.int ks.length) else none
  | _ => none
def rLenD : List V → Hp → VK → Prop := fun xs H Q => (∃ (p : Addr) (kvs : List (List L2.Key × V)), xs = [.ref p] ∧ H p = some (.dT kvs) ∧ Q (.int ((kvs.length : Nat) : Int)) H) ∨ ∃ (p : Addr) (kvs : List (L2.Key × V)), xs = [.ref p] ∧ H p = some (.dK kvs) ∧ Q (.int ((kvs.length : Nat) : Int)) H
theorem cr_lenD {X : Cx} : CallR X (.builtin "len") rLenD := by
  intro pins s σ H xs us Q I r h
  rcases h with h | h
  · exact call_len_dT pins s σ H xs us Q I r h
  · obtain ⟨p, kvs, rfl, hp, q⟩ := h
    obtain ⟨u, rfl, rx⟩ := vals1 r
    obtain rfl : u = .ref p := rx
    exact d_len I (.inl hp) fun t s' I' => ⟨.int ((kvs.length : Nat) : Int), H, I', ⟨_, rfl⟩, q⟩
theorem c_lenD {R : RC} : CallE R rLenD gLenD := by
  intro F H xs vs d Q e r hg q
  unfold gLenD at hg
  split at hg
  case h_2 => cases hg
  rename_i t ks ds
  split at hg
  case isFalse => cases hg
  cases hg
  obtain ⟨v, rfl, rv⟩ := r.one
  cases rv with
  | dicK hF rs =>
    refine .inr ⟨_, _, rfl, e _ _ hF, ?_⟩
    have h2 := q _ F H (Grow.refl e) (.int _)
    rw [List.length_map] at h2
    exact h2
  | dicT hF rs =>
    refine .inl ⟨_, _, rfl, e _ _ hF, ?_⟩
    have h2 := q _ F H (Grow.refl e) (.int _)
    rw [List.length_map] at h2
    exact h2
end SL
/-! Sem34: dicts: made, stored into, walked. -/
namespace L2
open PySem PySem.Spec PyProof.Rows
section
variable {X : Cx}
/-- {k: v}, the key a tuple -/
def tDispT (tk tv : TE) : TE := fun σ H Q => ∀ p, H p = none → tPairs [(tk, tv)] σ (upd H p (.dT [])) fun ps H2 => H2 p = some (.dT []) ∧ ∃ (ks : List Key) (b : Addr) (v : V), ps = [(.ref b, v)] ∧ H2 b = some (.tup (ks.map kV)) ∧ Q (.ref p) (upd H2 p (.dT [(ks, v)]))
theorem wpAny_Dict_walkH {P : Program} {w : World} {A : Around} {E : Value → Shared → Prop} {s : Shared} {env : PySem.Env} {K : Type} [DecidableEq K] {knd : HeapKind P w K} {keys : List (Option Expr)} {values : List Expr} {pos : Pos} {Q : Value → Shared → Prop} (hu : knd.room A)
    (hall : keys.all (·.isSome) = true) (hl : keys.length = values.length) (h0 : keys ≠ []) (hlen : keys.length ≤ 15)
    (h : wpAny (model P w) A (evalPairs (pairTrees keys values env pos)) (fun vs s₁ => ∃ ps, CarriesH knd s₁.heap vs ps ∧ s₁.heap.DictOfH knd s.heap.objs.size [] ∧
      ∀ h' tk, h'.DictOfH knd s.heap.objs.size (storedAllH [] ps) → Heap.SameBut s.heap.objs.size s₁.heap h' → Q (.ref s.heap.objs.size) { s₁ with heap := h', toks := tk }) E
      { s with heap := s.heap.push { cls := .type "dict", data := .dict #[] } }) :
    wpAny (model P w) A (eval (.Dict keys values pos) env) Q E s := by
  have hn := pairTrees_length keys values env pos hall hl
  rw [arm_eval_Dict, zip_pairTrees keys values env pos hall hl, dictDisplay_pairs (pairTrees keys values env pos) (by
    intro he
    rw [he] at hn
    exact h0 (List.length_eq_zero_iff.mp hn.symm)) (by rw [hn]; omega)]
  exact wpAny_bind (wpAny_standAt (wpAny_bind (wpAny_subDictH (knd := knd) (Q := fun d s' => wpAny (model P w) A (pure (Value.ref d)) Q E s') hu (by rw [hn]; exact hlen)
    (wpAny_mono h (fun vs s₁ h₁ => by obtain ⟨ps, hc, hm, hq⟩ := h₁; exact ⟨ps, hc, hm, fun h' tk a b => wpAny_pure (hq h' tk a b)⟩) fun _ _ e => e))))
theorem pe_dispT {pos : Pos} {k v : Expr} {tk tv : TE} (hu : X.A.units + 1 < cLine) (hk : PE X k tk) (hv : PE X v tv) : PE X (.Dict [some k] [v] pos) (tDispT tk tv) := by
  refine ⟨fun pins s σ H Q I q => ?_⟩
  have hn := I.hok.fresh (Nat.le_refl s.heap.objs.size)
  have I1 := I.laid (a := s.heap.objs.size) (o := .dT []) (h' := s.heap.push { cls := .type "dict", data := .dict #[] }) (t' := s.toks) (fun _ _ q => Heap.get?_push_of_some _ q) (Nat.le_refl _) (dt_empty s.heap I.big)
  refine wpAny_Dict_walkH (knd := tupleKind (mixKind X.prog X.w)) (by show X.A.units < cLine; omega) rfl rfl (by simp) (by simp) (thn ((pps_cons (pos := pos) hk hv pps_nil).run pins _ σ _ _ I1 (q _ hn)) fun ws s2 ⟨ps, H2, I2, rel, e, ks, b, y, ep, eb, q2⟩ => ?_)
  subst ep
  cases rel with
  | cons r t =>
    cases t
    rename_i pr _hh
    obtain ⟨kv, vv⟩ := pr
    obtain ⟨r1, r2⟩ := r
    simp only at r1 r2
    cases (show kv = Value.ref b from r1)
    obtain ⟨z, hd, xs, rx, dd⟩ := dt_of I2.hok e
    cases rx
    refine ⟨[(ks, b, vv)], ⟨rfl, rfl, key_of I2.hok eb, trivial⟩, dd, fun h' tk dd' hs => ⟨.ref s.heap.objs.size, _, ?_, rfl, q2⟩⟩
    obtain ⟨o, es, ep, hq, h2, h3, h4, _, h5⟩ := dd'
    have hb : b ≠ s.heap.objs.size := ne_of eb e (fun z => nomatch z)
    refine d_write I2 (by rw [e]; exact True.intro) hs ⟨o, hq⟩ ⟨by simp [sizeLine_eq], hd, [(ks, b, vv)], .cons ⟨rfl, ?_, r2⟩ .nil, o, es, ep, hq, h2, h3, h4, h5⟩
    show (upd H2 s.heap.objs.size _) b = _
    rw [upd_ne hb]
    exact eb
/-- ghost: a dict is locked for what reads it alone -/
theorem Inv.lockD {pins : List (Addr × Obj)} {σ : St} {H : Hp} {s : Shared} {a : Addr} {u : HO} (I : Inv X pins σ H s) (h : H a = some u) (hu : (∃ kvs, u = .dT kvs) ∨ ∃ kvs, u = .dK kvs) : ∃ o, Inv X pins σ (upd H a (.frz o u)) s := by
  rcases hu with ⟨kvs, rfl⟩ | ⟨kvs, rfl⟩
  · obtain ⟨z, y, xs, r, o, es, ep, e, c⟩ := (show ObjOk X.prog X.w H s.heap a (.dT kvs) from I.hok a _ h)
    refine ⟨o, d_write (h' := s.heap) (t' := s.toks) I (by rw [h]; exact True.intro) (Heap.SameBut.refl _ _) ⟨o, e⟩ ⟨e, z, y, xs, Paired.mapP r fun p q w => ⟨w.1, ?_, w.2.2⟩, o, es, ep, e, c⟩⟩
    rw [upd_ne (ne_of w.2.1 h (fun z => nomatch z))]
    exact w.2.1
  · obtain ⟨z, y, vs, r, o, es, ep, e, c⟩ := (show ObjOk X.prog X.w H s.heap a (.dK kvs) from I.hok a _ h)
    exact ⟨o, d_write (h' := s.heap) (t' := s.toks) I (by rw [h]; exact True.intro) (Heap.SameBut.refl _ _) ⟨o, e⟩ ⟨e, z, y, vs, r, o, es, ep, e, c⟩⟩
def tLockS (j : Nat) (t : TS) : TS := fun D σ H => ∃ a u, σ[j]? = some (some (.ref a)) ∧ H a = some u ∧ ((∃ kvs, u = .dT kvs) ∨ ∃ kvs, u = .dK kvs) ∧ ∀ o, t D σ (upd H a (.frz o u))
theorem pss_lockS {j : Nat} {sts : List Stmt} {t : TS} (h : PSs X sts t) : PSs X sts (fun D σ H => tLockS j t D σ H ∨ t D σ H) := ⟨fun pins s σ H D I q => by
  rcases q with ⟨a, u, _, e, hu, q⟩ | q
  · obtain ⟨o, I'⟩ := I.lockD e hu
    exact h.run pins s σ _ D I' (q o)
  · exact h.run pins s σ H D I q⟩
end
end L2
namespace SL
open PySem PySem.Spec PyProof.Rows L2
open Evl (Ex)
/-! ### new dicts -/
theorem keys_put2 {κ α : Type} [DecidableEq κ] (f : κ → α) (kvs : List (κ × V)) (k : κ) (w : V) : (kvs.map fun kv => if kv.1 = k then (kv.1, w) else kv).map (fun kv => f kv.1) = kvs.map (fun kv => f kv.1) := by
  induction kvs with
  | nil => rfl
  | cons p r ih =>
    simp only [List.map_cons]
    rw [ih]
    by_cases e : p.1 = k <;> simp [e]
section
variable {S : Type} {R : RC} {Z : SK S}
def sDNew (i : Nat) (t : Bool) : Stm S := fun env s => some (.nx (env.set i (some (.odk t [] []))), s)
def tDNew : Bool → TE
  | false => tDNewK
  | true => tDNewT
theorem ST.dNew {i : Nat} {t : Bool} : ST R Z (tAsg (tDNew t) (gName i)) (sDNew i t) := fun F0 H0 σ env F H s o s' D p e q => by
  unfold sDNew at e
  cases e
  cases t with
  | false =>
    intro a ha
    have g : Gr0 F H F (upd H a (.dK [])) := Gr0.newH p.gr.fh ha
    have p' := p.next g.up (Z.grow p.ok g)
    have n := p.newN ha
    exact q (σ.set i (some (.ref a))) F _ (p'.putOwn rfl n.1 (Ex.none p.gr.fh ha) n.2 upd_same ⟨[], rfl, rfl, .nil⟩) (Ex.refl F)
  | true =>
    intro a ha
    have g : Gr0 F H F (upd H a (.dT [])) := Gr0.newH p.gr.fh ha
    have p' := p.next g.up (Z.grow p.ok g)
    have n := p.newN ha
    exact q (σ.set i (some (.ref a))) F _ (p'.putOwn rfl n.1 (Ex.none p.gr.fh ha) n.2 upd_same ⟨[], rfl, rfl, .nil⟩) (Ex.refl F)
/-- x[k] = e, x an own dict -/
def sDPutS (i : Nat) (fk fe : Fn S D) : Stm S := fun env s => match fe env s with
  | none => none
  | some (d, s1) => match fk env s1 with
    | none => none
    | some (k, s2) => match env[i]? with
      | some (some (.odk t ks ds)) => if isKey t k && decide (ks.length < 100000) then some (.nx (env.set i (some (dPut k d t ks ds))), s2) else none
      | _ => none
theorem dPut_own {k d : D} {t : Bool} {ks ds : List D} : (dPut k d t ks ds).isOwn = true := by
  unfold dPut; split <;> rfl
theorem put_ok {F H : Hp} {t : Bool} {ks ds : List D} {k x : D} {a : Addr} {o : HO} {y v : V} (e : Ex F H) (hH : H a = some o) (rd : DictAt R F t ks ds o) (rk : Rep R F k y) (rv : Rep R F x v) (hk : isKey t k = true) (hl : ks.length < 100000) :
    ∃ o', DPut H a y v (upd H a o') ∧ OwnObj R F (dPut k x t ks ds) o' := by
  have big : ∀ {α : Type} (l : List α), l.length < 100000 → l.length < sizeLine := fun l h => by rw [sizeLine_eq]; omega
  cases t with
  | false =>
    obtain ⟨kvs, rfl, rfl, rs⟩ := rd
    obtain ⟨k', ek⟩ := atom_enc (d := k) hk
    subst ek
    rw [rep_key rk]
    rw [List.length_map] at hl
    refine ⟨.dK (putK kvs k' v), DPut.k hH (big _ hl), ?_⟩
    unfold dPut
    rw [dHas_ok keyD same_key k' kvs]
    unfold putK
    rw [valV_any]
    by_cases h : (valV kvs k').isSome = true
    · rw [if_pos h, if_pos h]
      refine ⟨_, rfl, ?_, dRep_ok keyD same_key k' rv rs⟩
      exact (keys_put2 keyD kvs k' v).symm
    · rw [if_neg h, if_neg h]
      refine ⟨_, rfl, by rw [List.map_append]; rfl, ?_⟩
      rw [List.map_append]
      exact rs.append (.cons rv .nil)
  | true =>
    obtain ⟨kvs, rfl, rfl, rs⟩ := rd
    have : ∃ ks' : List L2.Key, k = .tup (ks'.map keyD) := by
      cases k <;> first | (cases hk; done) | skip
      obtain ⟨ks', e⟩ := atoms_enc (show List.all _ isAtom = true from hk)
      exact ⟨ks', by rw [e]⟩
    obtain ⟨k', ek⟩ := this
    subst ek
    cases rk with
    | tup hb rb =>
      have := rep_keys rb
      subst this
      rw [List.length_map] at hl
      refine ⟨.dT (putK kvs k' v), DPut.t hH (e _ _ hb) (big _ hl), ?_⟩
      unfold dPut
      rw [dHas_ok (fun k => D.tup (k.map keyD)) same_tkey k' kvs]
      unfold putK
      rw [valV_any]
      by_cases h : (valV kvs k').isSome = true
      · rw [if_pos h, if_pos h]
        refine ⟨_, rfl, ?_, dRep_ok (fun k => D.tup (k.map keyD)) same_tkey k' rv rs⟩
        exact (keys_put2 (fun k => D.tup (k.map keyD)) kvs k' v).symm
      · rw [if_neg h, if_neg h]
        refine ⟨_, rfl, by rw [List.map_append]; rfl, ?_⟩
        rw [List.map_append]
        exact rs.append (.cons rv .nil)
theorem ST.dPut {i : Nat} {te tk : TE} {fe fk : Fn S D} (h : ES R Z te fe) (hk : ES R Z tk fk) : ST R Z (sDPut (tVar i) tk te) (sDPutS i fk fe) := fun F0 H0 σ env F H s o s' D p e q => by
  unfold sDPutS at e
  cases e1 : fe env s with
  | none => rw [e1] at e; cases e
  | some o1 =>
    obtain ⟨d, s1⟩ := o1
    rw [e1] at e
    simp only at e
    cases e2 : fk env s1 with
    | none => rw [e2] at e; cases e
    | some o2 =>
      obtain ⟨k, s2⟩ := o2
      rw [e2] at e
      simp only at e
      split at e
      case h_2 => cases e
      rename_i t ks ds he
      split at e
      case isFalse => cases e
      rename_i hc
      rw [Bool.and_eq_true, decide_eq_true_eq] at hc
      cases e
      refine h F0 H0 σ env F H s d _ _ p e1 fun v F' H' p' x' r => ?_
      obtain ⟨a, o, c2, c3, c4, c5, c6⟩ := p'.ow i _ rfl he
      refine ⟨.ref a, c2, ?_⟩
      refine hk F0 H0 σ env F' H' s1 _ _ _ p' e2 fun w F2 H2 p2 x2 r2 => ?_
      obtain ⟨a', o', c2', c3', c4', c5', c6'⟩ := p2.ow i _ rfl he
      rw [c2] at c2'
      cases c2'
      have ex : Ex (seen σ env F2 H2) H2 := p2.preB.fh
      obtain ⟨o2, hp, ho⟩ := put_ok (x := d) p2.gr.fh c3' c6' r2 (r.mono x2) hc.1 hc.2
      exact ⟨a, _, rfl, hp, q σ F2 _ (p2.setOwnO rfl dPut_own he c2 ho) (x'.trans x2)⟩
/-- x.pop(k), k an int or a text -/
def sDPopS (i : Nat) (fk : Fn S D) : Stm S := fun env s => match fk env s with
  | none => none
  | some (k, s1) => match env[i]? with
    | some (some (.odk false ks ds)) => if isKey false k && dHas k ks then some (.nx (env.set i (some (.odk false (dDropK k ks) (dDropV k ks ds)))), s1) else none
    | _ => none
theorem ST.dPop {i : Nat} {tk : TE} {fk : Fn S D} (hk : ES R Z tk fk) : ST R Z (tDrop (tDPop1 (tVar i) tk)) (sDPopS i fk) := fun F0 H0 σ env F H s o s' D p e q => by
  unfold sDPopS at e
  cases e2 : fk env s with
  | none => rw [e2] at e; cases e
  | some o2 =>
    obtain ⟨k, s2⟩ := o2
    rw [e2] at e
    simp only at e
    split at e
    case h_2 => cases e
    rename_i ks ds he
    split at e
    case isFalse => cases e
    rename_i hc
    rw [Bool.and_eq_true] at hc
    cases e
    obtain ⟨a, o, c2, c3, c4, c5, c6⟩ := p.ow i _ rfl he
    refine ⟨.ref a, c2, a, rfl, ?_, ?_⟩
    · obtain ⟨kvs, rfl, _⟩ := c6
      exact .inl ⟨kvs, .inl c3⟩
    refine hk F0 H0 σ env F H s _ _ _ p e2 fun w F2 H2 p2 x2 r2 => ?_
    obtain ⟨a', o', c2', c3', c4', c5', c6'⟩ := p2.ow i _ rfl he
    rw [c2] at c2'
    cases c2'
    obtain ⟨kvs, rfl, rfl, rs⟩ := c6'
    obtain ⟨k', ek⟩ := atom_enc (d := k) hc.1
    subst ek
    have hh := hc.2
    rw [dHas_ok keyD same_key k' kvs, Option.isSome_iff_exists] at hh
    obtain ⟨v, hv⟩ := hh
    obtain ⟨h1, h2⟩ := dDrop_ok keyD same_key k' rs
    refine ⟨kvs, k', v, c3', rep_key r2, hv, ?_⟩
    exact q σ F2 _ (p2.setOwnO rfl rfl he c2 ⟨dropK kvs k', rfl, h1, h2⟩) x2
end
end SL
/-! Sem35: dicts: a display of one pair, the lock, keys walked, dict(pairs). -/
namespace SL
open PySem PySem.Spec PyProof.Rows L2
open Evl (Ex)
section
variable {S : Type} {R : RC} {Z : SK S}
/-- x = {k: e}, k a tuple -/
def sDDispT (i : Nat) (fk fe : Fn S D) : Stm S := fun env s => match fk env s with
  | none => none
  | some (k, s1) => match fe env s1 with
    | none => none
    | some (d, s2) => if isKey true k then some (.nx (env.set i (some (.odk true [k] [d]))), s2) else none
theorem ST.dDispT {i : Nat} {te tk : TE} {fe fk : Fn S D} (hk : EV R Z false tk fk) (h : EV R Z false te fe) : ST R Z (tAsg (tDispT tk te) (gName i)) (sDDispT i fk fe) := fun F0 H0 σ env F H s o s' D p e q => by
  unfold sDDispT at e
  cases e1 : fk env s with
  | none => rw [e1] at e; cases e
  | some o1 =>
    obtain ⟨k, s1⟩ := o1
    rw [e1] at e
    simp only at e
    cases e2 : fe env s1 with
    | none => rw [e2] at e; cases e
    | some o2 =>
      obtain ⟨d, s2⟩ := o2
      rw [e2] at e
      simp only at e
      split at e
      case isFalse => cases e
      rename_i hkey
      cases e
      intro a ha
      have g : Gr0 F H F (upd H a (.dT [])) := Gr0.newH p.gr.fh ha
      have p1 := p.next g.up (Z.grow p.ok g)
      have haz : ¬ Z.z a := fun z => (p.hz a z).1 ha
      have hFa : F a = none := Ex.none p.gr.fh ha
      refine hk σ env F _ s k s1 _ p1.preA e1 fun vk F1 H1 g1 k1 r1 => ?_
      have p2 := p1.next g1 k1
      have hH1 : H1 a = some (.dT []) := g1.hh a _ haz upd_same
      have nF : ∀ {G G' K K' : Hp} {z : Addr → Prop}, Grow z G K G' K' → G a = none → K a = some (.dT []) → G' a = none := fun {G G' K K' z} gg h1 h2 => by
        cases e : G' a with
        | none => rfl
        | some o =>
          rcases gg.nw a o e with q | q | ⟨xs, q1, q⟩
          · rw [h1] at q; cases q
          · rw [h2] at q; cases q
          · rw [h2, q1] at q; cases q
      have hF1 := nF g1 hFa upd_same
      refine h σ env F1 H1 s1 d _ _ p2.preA e2 fun vd F2 H2 g2 k2 r2 => ?_
      have p3 := p2.next g2 k2
      have hH2 : H2 a = some (.dT []) := g2.hh a _ haz hH1
      have hF2 := nF g2 hF1 hH1
      obtain ⟨ks', ek⟩ : ∃ ks' : List L2.Key, k = .tup (ks'.map keyD) := by
        cases k <;> first | (cases hkey; done) | skip
        obtain ⟨ks', e⟩ := atoms_enc (show List.all _ isAtom = true from hkey)
        exact ⟨ks', by rw [e]⟩
      subst ek
      cases r1 with
      | tup hb rb =>
        rename_i b vs
        have := rep_keys rb
        subst this
        refine ⟨hH2, ks', b, vd, rfl, g2.hh b _ (fun z => (p2.hz b z).2 _ (p2.gr.fh b _ hb)) (p2.gr.fh b _ hb), ?_⟩
        have hn : H0 a = none := (p.newN ha).1
        have hno : ¬ Own σ env a := (p.newN ha).2
        -- the dict is laid again, now with its pair
        have p4 : SI R Z F0 H0 σ env F2 (upd H2 a (.dT [(ks', vd)])) s' := by
          refine ⟨⟨fun c u n hc => ?_, p3.gr.ff, fun c u hc => ?_, p3.gr.nw⟩, p3.zf, Z.keep s' H2 _ p3.ok fun c hc => upd_ne fun z => by subst z; exact haz hc, p3.z0, p3.sh, fun j x h1 h2 => ?_, p3.dj, p3.len⟩
          · rw [upd_ne (ne_of_none hc hn)]; exact p3.gr.hh c u n hc
          · rw [upd_ne (ne_of_none hc hF2)]; exact p3.gr.fh c u hc
          · obtain ⟨q', u, c2, c3, c4, c5, c6⟩ := p3.ow j x h1 h2
            refine ⟨q', u, c2, ?_, c4, c5, c6⟩
            rw [upd_ne fun z => hno ⟨j, x, h1, h2, by rw [← z]; exact c2⟩]
            exact c3
        refine q (σ.set i (some (.ref a))) F2 _ (p4.putOwn rfl hn hF2 hno upd_same ⟨[(ks', vd)], rfl, rfl, .cons r2 .nil⟩) (g1.ff.trans g2.ff)
/-- from here on x is read alone -/
def sLock (j : Nat) (f : Stm S) : Stm S := fun env s => match env[j]? with
  | some (some (.odk t ks ds)) => f (env.set j (some (.dic true t ks ds))) s
  | _ => f env s
theorem SI.lockD {F0 H0 : Hp} {σ : L2.St} {env : Env} {F H : Hp} {s : S} {j : Nat} {t : Bool} {ks ds : List D} (p : SI R Z F0 H0 σ env F H s) (he : env[j]? = some (some (.odk t ks ds))) :
    ∃ a u, σ[j]? = some (some (.ref a)) ∧ H a = some u ∧ ((∃ kvs, u = .dT kvs) ∨ ∃ kvs, u = .dK kvs) ∧ ∀ o, ∃ F', Ex F F' ∧ SI R Z F0 H0 σ (env.set j (some (.dic true t ks ds))) F' (upd H a (.frz o u)) s := by
  obtain ⟨a, u, c2, c3, c4, c5, c6⟩ := p.ow j _ rfl he
  have hl : j < env.length := (List.getElem?_eq_some_iff.mp he).1
  have hu : (∃ kvs, u = .dT kvs) ∨ ∃ kvs, u = .dK kvs := by
    cases t with
    | false => obtain ⟨kvs, e, _⟩ := c6; exact .inr ⟨kvs, e⟩
    | true => obtain ⟨kvs, e, _⟩ := c6; exact .inl ⟨kvs, e⟩
  refine ⟨a, u, c2, c3, hu, fun o => ?_⟩
  have ex : Ex F (upd F a (.frz o u)) := fun b w e => by rw [upd_ne (ne_of_none e c4)]; exact e
  have rep : Rep R (upd F a (.frz o u)) (.dic true t ks ds) (.ref a) := by
    cases t with
    | false => obtain ⟨kvs, rfl, rfl, rs⟩ := c6; exact .dicK (z := true) ⟨o, upd_same⟩ (rs.mono ex)
    | true => obtain ⟨kvs, rfl, rfl, rs⟩ := c6; exact .dicT (z := true) ⟨o, upd_same⟩ (rs.mono ex)
  have old : ∀ (k : Nat) d, k ≠ j → (env.set j (some (.dic true t ks ds)))[k]? = some (some d) → env[k]? = some (some d) := fun k d hk h => by
    rw [List.getElem?_set_ne (Ne.symm hk)] at h; exact h
  have own : ∀ (k : Nat) d, d.isOwn = true → (env.set j (some (.dic true t ks ds)))[k]? = some (some d) → k ≠ j ∧ env[k]? = some (some d) := fun k d ho h => by
    by_cases hk : k = j
    · subst hk; rw [List.getElem?_set_self hl] at h; cases h; cases ho
    · exact ⟨hk, old k d hk h⟩
  refine ⟨upd F a (.frz o u), ex, ⟨⟨fun b w n h => ?_, p.gr.ff.trans ex, fun b w e => ?_, fun b w e => ?_⟩, fun b hb => ?_, Z.keep s H _ p.ok fun b hb => upd_ne fun z => by subst z; exact p.nz c5 hb, p.z0, fun k d h1 h2 => ?_, fun k d h1 h2 => ?_, fun k l d e q o1 o2 h3 h4 h5 h6 => ?_, by rw [List.length_set]; exact p.len⟩⟩
  · rw [upd_ne (ne_of_none h c5)]; exact p.gr.hh b w n h
  · by_cases hb : b = a
    · subst hb; rw [upd_same] at e ⊢; exact e
    · rw [upd_ne hb] at e ⊢; exact p.gr.fh b w e
  · by_cases hb : b = a
    · subst hb; exact .inr (.inl c5)
    · rw [upd_ne hb] at e; exact p.gr.nw b w e
  · rw [upd_ne fun z => by subst z; exact p.nz c5 hb]; exact p.zf b hb
  · by_cases hk : k = j
    · subst hk
      rw [List.getElem?_set_self hl] at h2
      cases h2
      exact ⟨.ref a, c2, rep⟩
    · obtain ⟨v, x, y⟩ := p.sh k d h1 (old k d hk h2)
      exact ⟨v, x, y.mono ex⟩
  · obtain ⟨hk, h2'⟩ := own k d h1 h2
    obtain ⟨q, us, d2, d3, d4, d5, d6⟩ := p.ow k d h1 h2'
    have hq : q ≠ a := fun z => hk (p.dj k j d _ a h1 rfl h2' he (by rw [← z]; exact d2) c2)
    exact ⟨q, us, d2, by rw [upd_ne hq]; exact d3, by rw [upd_ne hq]; exact d4, d5, d6.mono ex⟩
  · exact p.dj k l d e q o1 o2 (own k d o1 h3).2 (own l e o2 h4).2 h5 h6
theorem ST.lock {j : Nat} {t : TS} {f : Stm S} (h : ST R Z t f) : ST R Z (fun D σ H => tLockS j t D σ H ∨ t D σ H) (sLock j f) := fun F0 H0 σ env F H s o s' D p e q => by
  unfold sLock at e
  split at e
  case h_2 => exact .inr (h F0 H0 σ env F H s o s' D p e q)
  rename_i t ks ds he
  obtain ⟨a, u, h1, h2, h3, h4⟩ := p.lockD he
  refine .inl ⟨a, u, h1, h2, h3, fun w => ?_⟩
  obtain ⟨F', ex, p'⟩ := h4 w
  exact h F0 H0 σ _ F' _ s o s' D p' e (Post.ex ex q)
/-! keys walked -/
def fDKeys (fd : Fn S D) : Fn S (List D) := fun env s => match fd env s with
  | some (.dic true _ ks _, s1) => some (ks, s1)
  | _ => none
theorem reps_keys {F : Hp} : ∀ ks : List L2.Key, Reps R F (ks.map keyD) (ks.map kV)
  | [] => .nil
  | .inl i :: ks => .cons (.int i) (reps_keys ks)
  | .inr x :: ks => .cons (.str x) (reps_keys ks)
theorem ItE.keysK {F : Hp} {a : Addr} {o : Obj} {kvs : List (L2.Key × V)} (h : F a = some (.frz o (.dK kvs))) : ItE R (Itk a o kvs) F (kvs.map fun kv => keyD kv.1) where
  go := fun i H hi e => ⟨e _ _ h, by simpa using hi⟩
  stop := fun H e => ⟨e _ _ h, by simp⟩
  yld := fun i H x H' F1 d hd e1 e2 y => by
    obtain ⟨rfl, k, v, hk, rfl⟩ := y
    rw [List.getElem?_map, hk] at hd
    cases hd
    refine ⟨F1, Grow.refl e2, ?_⟩
    cases k with
    | inl i => exact .int i
    | inr x => exact .str x
theorem ItE.keysT {F : Hp} {a : Addr} {o : Obj} {kvs : List (List L2.Key × V)} (h : F a = some (.frz o (.dT kvs))) : ItE R (Itkt a o kvs) F (kvs.map fun kv => D.tup (kv.1.map keyD)) where
  go := fun i H hi e => ⟨e _ _ h, by simpa using hi⟩
  stop := fun H e => ⟨e _ _ h, by simp⟩
  yld := fun i H x H' F1 d hd e1 e2 y => by
    obtain ⟨rfl, k, v, b, hk, rfl, hb⟩ := y
    rw [List.getElem?_map, hk] at hd
    cases hd
    by_cases hn : F1 b = none
    · have ex : Ex F1 (upd F1 b (.tup (k.map kV))) := fun c u hc => by rw [upd_ne (ne_of_none hc hn)]; exact hc
      refine ⟨upd F1 b (.tup (k.map kV)), ⟨fun _ _ _ h => h, ex, fun c u hc => ?_, fun c u hc => ?_⟩, .tup upd_same (reps_keys k)⟩
      · by_cases hcb : c = b
        · subst hcb; rw [upd_same] at hc; cases hc; exact hb
        · rw [upd_ne hcb] at hc; exact e2 c u hc
      · by_cases hcb : c = b
        · subst hcb; rw [upd_same] at hc; cases hc; exact .inr (.inr ⟨_, rfl, hb⟩)
        · rw [upd_ne hcb] at hc; exact .inl hc
    · cases hf : F1 b with
      | none => exact absurd hf hn
      | some u =>
        have := e2 b u hf
        rw [hb] at this
        cases this
        exact ⟨F1, Grow.refl e2, .tup hf (reps_keys k)⟩
theorem EVi.keys {m : Bool} {td : TE} {fd : Fn S D} (h : EV R Z m td fd) : EVi R Z m (iKeys td) (fDKeys fd) := by
  intro σ env F H s ds s' K p e q
  unfold fDKeys at e
  split at e
  case h_2 => cases e
  rename_i t ks vs s1 h1
  cases e
  refine h σ env F H s _ _ _ p h1 fun vd F1 H1 g1 k1 r1 => ?_
  cases r1 with
  | dicK hF rs =>
    obtain ⟨o, hF⟩ := hF
    exact ⟨_, o, rfl, .inl ⟨_, g1.fh _ _ hF, q _ F1 H1 g1 k1 (ItE.keysK hF)⟩⟩
  | dicT hF rs =>
    obtain ⟨o, hF⟩ := hF
    exact ⟨_, o, rfl, .inr ⟨_, g1.fh _ _ hF, q _ F1 H1 g1 k1 (ItE.keysT hF)⟩⟩
end
end SL
/-! Sem36: dict(pairs) with tuple keys; the rules of dicts. -/
namespace L2
open PySem PySem.Spec PyProof.Rows
section
variable {X : Cx}
def PairT (H : Hp) (p : Addr) (kv : List Key × V) : Prop := ∃ b, H p = some (.tup [.ref b, kv.2]) ∧ H b = some (.tup (kv.1.map kV))
theorem pairsT_of {pins : List (Addr × Obj)} {σ : St} {H : Hp} {s : Shared} (I : Inv X pins σ H s) : ∀ {ps : List Addr} {kvs : List (List Key × V)}, Paired (PairT H) ps kvs →
    ∃ xs : List (List Key × Addr × Value), KT H kvs xs ∧ xs.length = ps.length ∧ ∀ (j : Nat) (x : List Key × Addr × Value), xs[j]? = some x → ∃ p, ps[j]? = some p ∧ IsTup s.heap p #[.ref x.2.1, x.2.2] ∧ (tupleKind (mixKind X.prog X.w)).is s.heap x.1 x.2.1
  | _, _, .nil => ⟨[], .nil, rfl, fun j q e => by simp at e⟩
  | _, _, .cons (a := p) (b := kv) h t => by
    obtain ⟨xs, r, hl, hp⟩ := pairsT_of I t
    obtain ⟨b, h1, h2⟩ := h
    obtain ⟨z, its, rv, ht⟩ := (show ObjOk X.prog X.w H s.heap p (.tup [.ref b, kv.2]) from I.hok p _ h1)
    obtain ⟨u, y, ei, ru, ry⟩ := vals2 rv
    subst ei
    cases (show u = Value.ref b from ru)
    refine ⟨(kv.1, b, y) :: xs, .cons ⟨rfl, h2, ry⟩ r, by rw [List.length_cons, List.length_cons, hl], fun j q e => ?_⟩
    cases j with
    | zero =>
      have e' : (kv.1, b, y) = q := Option.some.inj e
      subst e'
      exact ⟨p, rfl, ht, key_of I.hok h2⟩
    | succ j =>
      obtain ⟨p', e1, e2, e3⟩ := hp j q (by simpa using e)
      exact ⟨p', by simpa using e1, e2, e3⟩
theorem KT_keys {H : Hp} : ∀ {kvs : List (List Key × V)} {xs : List (List Key × Addr × Value)}, KT H kvs xs → xs.map (·.1) = kvs.map (·.1)
  | _, _, .nil => rfl
  | _, _, .cons h t => by rw [List.map_cons, List.map_cons, KT_keys t, h.1]
/-- dict(xs) of a tuple of pairs (tuple, value), the keys apart -/
def rDictT : List V → Hp → VK → Prop := fun xs H Q => ∃ (a : Addr) (ps : List Addr) (kvs : List (List Key × V)), xs = [.ref a] ∧ H a = some (SL.xtO a (ps.map V.ref)) ∧ ps.length ≤ 100000 ∧ Paired (PairT H) ps kvs ∧ (kvs.map (·.1)).Nodup ∧
    ∀ p, H p = none → Q (.ref p) (upd H p (.dT kvs))
theorem call_dictT (hcalm : X.calm = true) (hu : X.A.units + 8 < cLine) : CallR X (.type "dict") rDictT := by
  intro pins s σ H xs us Q I r q
  obtain ⟨a, ps, kvs, ex, hq, hlen, hp, hnd, q⟩ := q
  subst ex
  obtain ⟨u, eu, rx⟩ := vals1 r
  subst eu
  cases rx
  obtain ⟨⟨its, n, rv, hobj⟩, _, _⟩ := (show ObjOk X.prog X.w H s.heap a (SL.xtO a (ps.map V.ref)) from I.hok a _ hq)
  have ei := refs_at rv
  subst ei
  obtain ⟨xs, rel, hl, hpr⟩ := pairsT_of I hp
  have hkeys : xs.map (·.1) = kvs.map (·.1) := KT_keys rel
  have hnx : (xs.map (·.1)).Nodup := by rw [hkeys]; exact hnd
  refine call_dict_pairsH (knd := tupleKind (mixKind X.prog X.w)) (ps := xs) (PairArg.tuple a (ps.map Value.ref).toArray (fun j => ps.getD j 0) (xs.map fun x => (.ref x.2.1, x.2.2))) (I.ok.hd hcalm) (by show (X.A.in1.in1).units < cLine; show X.A.units + 1 + 1 < cLine; omega) ⟨⟨_, n, hobj, rfl, rfl, rfl⟩, by simp [hl], fun j k v e => ?_⟩ ⟨by simp, fun i key v e => ?_⟩ (fun h' hk x hx => ?_) (by rw [List.length_map, hl, sizeLine_eq]; omega) fun h' tk hd' hk => ?_
  · rw [List.getElem?_map] at e
    cases ex : xs[j]? with
    | none => rw [ex] at e; cases e
    | some x =>
      rw [ex] at e
      cases e
      obtain ⟨p, e1, e2, e3⟩ := hpr j x ex
      refine ⟨by simp [e1], .inl ?_⟩
      show s.heap.IsTuple (ps.getD j 0) _
      rw [List.getD_eq_getElem?_getD, e1]
      exact e2
  · have e : (xs.map fun x => (Value.ref x.2.1, x.2.2))[i]? = some (key, v) := e
    rw [List.getElem?_map] at e
    cases ex : xs[i]? with
    | none => rw [ex] at e; cases e
    | some x =>
      rw [ex] at e
      cases e
      exact ⟨x.1, x.2.1, rfl, rfl⟩
  · obtain ⟨j, hj⟩ := List.getElem?_of_mem hx
    obtain ⟨p, e1, e2, o, its, m, h1, h2, h3, h4⟩ := hpr j x hj
    exact ⟨o, its, m, hk _ o (Nat.ne_of_lt (Heap.lt_size h1)) (by simp) h1, h2, h3, h4⟩
  · rw [storedAllH_nil_of_nodup xs hnx] at hd'
    have hm : (s.heap.objs.size == sysModules) = false := beq_eq_false_iff_ne.mpr (Nat.ne_of_gt I.big)
    obtain ⟨o, es, ep, h1, h2, h3, h4, _, h5⟩ := hd'
    have hfr := I.hok.fresh (Nat.le_refl s.heap.objs.size)
    have hkl : kvs.length ≤ sizeLine := by
      have : kvs.length = xs.length := Paired.length rel
      rw [this, hl, sizeLine_eq]; omega
    refine ⟨.ref s.heap.objs.size, upd H s.heap.objs.size (.dT kvs), I.laid (t' := tk) (fun b o e => hk b o (by simp) e) (Nat.le_refl _) (show ObjOk X.prog X.w _ _ _ (.dT kvs) from ⟨hkl, hm, xs, rel.keeps fun c ys ec => ?_, o, es, ep, h1, h2, h3, h4, h5⟩), rfl, q _ hfr⟩
    rw [upd_ne (ne_of_none ec hfr)]
    exact ec
/-- tuple(xs), the very object told -/
def rTupX (K : PySem.W.Frag) : List V → Hp → VK → Prop := fun xs H Q => ∃ p ys, xs = [.ref p] ∧ SqL K H p ys ∧ ∀ l, H l = none → Q (.ref l) (upd H l (SL.xtO l ys))
theorem call_tupX : CallR X (.type "tuple") (rTupX X.K) := by
  intro pins s σ H xs us Q I r h
  obtain ⟨p, ys, rfl, hq, q⟩ := h
  obtain ⟨u, rfl, rx⟩ := vals1 r
  cases rx
  obtain ⟨its, r', pl, hz⟩ := I.list hq
  have hlen := r'.length
  refine call_tuple_list pl.isList (fun h' kp => ?_) (by simp only [List.size_toArray] <;> omega)
  have I1 : Inv X pins σ H { s with heap := h' } := I.kept (t' := s.toks) kp
  have I2 : Inv X pins σ (upd H h'.objs.size (SL.xtO h'.objs.size ys)) { s with heap := h'.push { cls := .type "tuple", data := .seq its.toArray } } :=
    I1.laid (t' := s.toks) (fun b o e => Heap.get?_push_of_some _ e) (Nat.le_refl _) (show ObjOk X.prog X.w _ _ _ (SL.xtO h'.objs.size ys) from ⟨⟨its, _, r', Heap.get?_push_size _ rfl⟩, ⟨_, Heap.get?_push_size _ rfl⟩, fun h1 h2 ⟨is, m, v1, v2⟩ k => ⟨is, m, v1, k _ v2⟩⟩)
  exact ⟨.ref h'.objs.size, _, I2, rfl, q _ (I1.hok.fresh (Nat.le_refl _))⟩
end
end L2
/-! Sem37: the rules of dicts. -/
namespace SL
open PySem PySem.Spec PyProof.Rows L2
open Evl (Ex)
/-! tuple(xs) whose object is told -/
def gTupleX (xs : List D) : Option D := match xs with
  | [.lst ds] => if ds.length ≤ 100000 then some (.xtup ds) else none
  | _ => none
theorem c_tupX {R : RC} : CallE R (rTupX R.K) gTupleX := by
  intro F H xs vs d Q e r hg q
  unfold gTupleX at hg
  split at hg
  case h_2 => cases hg
  rename_i ds
  split at hg
  case isFalse => cases hg
  cases hg
  obtain ⟨v, rfl, rv⟩ := r.one
  cases rv with
  | lst h1 r1 =>
    rename_i a ws
    refine ⟨a, ws, rfl, SqL.of (e _ _ h1), fun l hl => ?_⟩
    have g : Gr0 F H (upd F l (xtO l ws)) (upd H l (xtO l ws)) := Gr0.new e hl
    exact q _ _ _ g (.xtup upd_same (r1.mono g.ff))
/-! dict(pairs) -/
def pairsD : List D → Option (List D × List D)
  | [] => some ([], [])
  | .tup [k, v] :: r => if isKey true k then match pairsD r with
    | some (ks, vs) => some (k :: ks, v :: vs)
    | none => none
    else none
  | _ => none
def apartD : List D → Bool
  | [] => true
  | k :: ks => !dHas k ks && apartD ks
theorem tkey_enc {k : D} (h : isKey true k = true) : ∃ ks : List L2.Key, k = .tup (ks.map keyD) := by
  cases k <;> first | (cases h; done) | skip
  obtain ⟨ks', e⟩ := atoms_enc (show List.all _ isAtom = true from h)
  exact ⟨ks', by rw [e]⟩
theorem pairsD_rep {R : RC} {F : Hp} : ∀ {es : List D} {vs : List V} {ks ds : List D}, Reps R F es vs → pairsD es = some (ks, ds) →
    ∃ (ps : List Addr) (kvs : List (List L2.Key × V)), vs = ps.map V.ref ∧ Paired (PairT F) ps kvs ∧ ks = kvs.map (fun kv => D.tup (kv.1.map keyD)) ∧ Reps R F ds (kvs.map (·.2))
  | [], _, _, _, r, h => by
    cases r
    cases h
    exact ⟨[], [], rfl, .nil, rfl, .nil⟩
  | e :: es, vs, ks, ds, r, h => by
    unfold pairsD at h
    split at h
    case h_1 => contradiction
    case h_3 => cases h
    rename_i k v r' he
    injection he with h1 h2
    subst h1 h2
    split at h
    case isFalse => cases h
    rename_i hk
    split at h
    case h_2 => cases h
    rename_i ks' vs' hp
    cases h
    cases r with
    | cons ra rb =>
      obtain ⟨ps, kvs, e1, e2, e3, e4⟩ := pairsD_rep rb hp
      subst e1 e3
      cases ra with
      | tup hF rs =>
        rename_i a xs
        obtain ⟨x, y, rfl, rx, ry⟩ := rs.two
        obtain ⟨k', ek⟩ := tkey_enc hk
        subst ek
        cases rx with
        | tup hb rk =>
          have := rep_keys rk
          subst this
          exact ⟨a :: ps, (k', y) :: kvs, rfl, .cons ⟨_, hF, hb⟩ e2, rfl, .cons ry e4⟩
theorem apart_nodup : ∀ kvs : List (List L2.Key × V), apartD (kvs.map fun kv => D.tup (kv.1.map keyD)) = true → (kvs.map (·.1)).Nodup
  | [], _ => List.nodup_nil
  | p :: r, h => by
    simp only [List.map_cons, apartD, Bool.and_eq_true, Bool.not_eq_true'] at h
    rw [List.map_cons, List.nodup_cons]
    refine ⟨fun hm => ?_, apart_nodup r h.2⟩
    have h1 := h.1
    rw [dHas_ok (fun k => D.tup (k.map keyD)) same_tkey p.1 r, ← valV_any, List.any_eq_false] at h1
    obtain ⟨x, hx, e⟩ := List.mem_map.mp hm
    exact h1 x hx (by simpa using e)
section
variable {S : Type} {R : RC} {Z : SK S}
def sDictX (i : Nat) (fa : Fn S D) : Stm S := fun env s => match fa env s with
  | some (.xtup es, s1) => match pairsD es with
    | some (ks, ds) => if apartD ks && decide (es.length ≤ 100000) then some (.nx (env.set i (some (.odk true ks ds))), s1) else none
    | none => none
  | _ => none
theorem ST.dictX {i : Nat} {te : TE} {fe : Fn S D} (h : ES R Z te fe) : ST R Z (tAsg (tCB rDictT (tCons te tNil)) (gName i)) (sDictX i fe) := fun F0 H0 σ env F H s o s' D p e q => by
  unfold sDictX at e
  split at e
  case h_2 => cases e
  rename_i es s1 e1
  split at e
  case h_2 => cases e
  rename_i ks ds e2
  split at e
  case isFalse => cases e
  rename_i hc
  rw [Bool.and_eq_true, decide_eq_true_eq] at hc
  cases e
  refine h F0 H0 σ env F H s _ _ _ p e1 fun v F' H' p' x' r => ?_
  cases r with
  | xtup hF rs =>
    rename_i a vs
    obtain ⟨ps, kvs, e3, e4, e5, e6⟩ := pairsD_rep rs e2
    subst e3 e5
    have hl : ps.length ≤ 100000 := by
      have := rs.length
      rw [List.length_map] at this
      omega
    refine ⟨a, ps, kvs, rfl, p'.gr.fh _ _ hF, hl, L2.Paired.mapP e4 fun p kv ⟨b, z1, z2⟩ => ⟨b, p'.gr.fh _ _ z1, p'.gr.fh _ _ z2⟩, apart_nodup kvs hc.1, fun l hl => ?_⟩
    have g : Gr0 F' H' F' (upd H' l (.dT kvs)) := Gr0.newH p'.gr.fh hl
    have p2 := p'.next g.up (Z.grow p'.ok g)
    have n := p'.newN hl
    exact q (σ.set i (some (.ref l))) F' _ (p2.putOwn rfl n.1 (Ex.none p'.gr.fh hl) n.2 upd_same ⟨kvs, rfl, rfl, e6⟩) x'
end
/-! ### the rules -/
section
variable {S : Type} {T : CT} {Z : SK S} {m : Bool} {a b c d e k o : Expr} {es : List Expr} {fa fb fd fk fe : Fn S D} {fr : Fn S (List D)} {pos p p2 p3 apos cpos pos' : Pos} {tg : Expr} {rest : List Stmt} {f : Stm S}
theorem Is.hu1 {T : CT} {X : Cx} (h : Is T X) : X.A.units + 1 < cLine := by
  have := h.hu
  omega
theorem SE.dIn (hk : SE T Z m k fk) (hd : SE T Z m d fd) (hm : behindInMarks .In d = false := by rfl) : SE T Z m (.Compare k [.In] [d] pos) (fDIn false fk fd) := by
  obtain ⟨tk, pk, ek⟩ := hk
  obtain ⟨td, pd, ed⟩ := hd
  exact ⟨_, fun X h => pe_cmp (pc_din h.hu1 (pk X h) (pd X h)) hm, EV.dIn ek ed⟩
theorem SE.dNotIn (hk : SE T Z m k fk) (hd : SE T Z m d fd) (hm : behindInMarks .NotIn d = false := by rfl) : SE T Z m (.Compare k [.NotIn] [d] pos) (fDIn true fk fd) := by
  obtain ⟨tk, pk, ek⟩ := hk
  obtain ⟨td, pd, ed⟩ := hd
  exact ⟨_, fun X h => pe_cmp (pc_dnotin h.hu1 (pk X h) (pd X h)) hm, EV.dNotIn ek ed⟩
theorem SQ.dIn (hk : SE T Z m k fk) (hd : SE T Z m d fd) (hm : behindInMarks .In d = false := by rfl) : SQ T Z m (.Compare k [.In] [d] pos) (fTest (fDIn false fk fd)) := by
  obtain ⟨tk, pk, ek⟩ := hk
  obtain ⟨td, pd, ed⟩ := hd
  exact ⟨_, fun X h => pt_cmp (pc_din h.hu1 (pk X h) (pd X h)) hm, EVt.tB (EV.dIn ek ed)⟩
theorem SQ.dNotIn (hk : SE T Z m k fk) (hd : SE T Z m d fd) (hm : behindInMarks .NotIn d = false := by rfl) : SQ T Z m (.Compare k [.NotIn] [d] pos) (fTest (fDIn true fk fd)) := by
  obtain ⟨tk, pk, ek⟩ := hk
  obtain ⟨td, pd, ed⟩ := hd
  exact ⟨_, fun X h => pt_cmp (pc_dnotin h.hu1 (pk X h) (pd X h)) hm, EVt.tB (EV.dNotIn ek ed)⟩
theorem SE.dGet (hd : SE T Z m d fd) (hk : SE T Z m k fk) (hs : NoSl k := by exact fun _ _ => rfl) : SE T Z m (.Subscript d k pos) (fDGet fd fk) := by
  obtain ⟨td, pd, ed⟩ := hd
  obtain ⟨tk, pk, ek⟩ := hk
  exact ⟨_, fun X h => pe_dget h.hu1 (pd X h) (pk X h) hs, EV.dGet ed ek⟩
theorem SE.lenD (mx : T.mg (Str.ofString "len") = none) (hA : SA T Z m [e] fr) (gx : GlB T "len" := by rfl) (hs : ∀ env, starEach [e] env = (false, eval e env) :: starEach [] env := by exact fun _ => rfl) : SE T Z m (.Call (.Name (Str.ofString "len") p) [e] [] pos) (fCall gLenD fr) := SE.callB (r := rLenD) (fun X h => cr_lenD) c_lenD mx (by rfl) hA gx (by decide) (by rfl) hs (fun _ => rfl)
theorem SE.tupleX (mx : T.mg (Str.ofString "tuple") = none) (hA : SA T Z m [e] fr) (gx : GlB T "tuple" := by rfl) (hs : ∀ env, starEach [e] env = (false, eval e env) :: starEach [] env := by exact fun _ => rfl) : SE T Z m (.Call (.Name (Str.ofString "tuple") p) [e] [] pos) (fCall gTupleX fr) := SE.callTy (r := rTupX T.R.K) (fun X h => by rw [← h.K]; exact call_tupX) c_tupX mx (by rfl) hA gx (by decide) (by rfl) hs (fun _ => rfl)
theorem SW.keys (hd : SE T Z m d fd) : SW T Z m tg d (fDKeys fd) := by
  obtain ⟨td, pd, ed⟩ := hd
  exact ⟨_, fun X h => pi_keys (pd X h), EVi.keys ed⟩
theorem SS.dNew (i : Nat) (t : Bool) {x : Str} (hx : T.N[i]? = some x := by rfl) (hv : L2.Loc T.sc x := by first | exact .inl rfl | exact .inr rfl) (hs : swapsWith (.Dict [] [] p) (some (.Name x pos')) pos.line (dE T.sc) = pure false := by rfl) (hf : T.fn x = true ∨ List.lookup x T.sc.names = some NameKind.local := by first | exact .inr rfl | exact .inl rfl) : SS T Z (.Assign [.Name x pos'] (.Dict [] [] p) pos) (sDNew i t) :=
  ⟨_, fun X h => ps_set (i := i) h.nd (by rw [h.N]; exact hx) (by rw [h.sc]; exact hv) (te := tDNew t) (by cases t; exact pe_dnewK; exact pe_dnewT) (by rw [sw_dE, h.sc]; exact hs) (by
    rcases hf with hf | hf
    · exact .inl (h.fn x hf)
    · exact .inr (by rw [h.sc]; exact hf)), ST.dNew⟩
theorem SS.dDispT (i : Nat) {x : Str} (hk : SE T Z false k fk) (he : SE T Z false e fe) (hx : T.N[i]? = some x := by rfl) (hv : L2.Loc T.sc x := by first | exact .inl rfl | exact .inr rfl) (hs : swapsWith (.Dict [some k] [e] p) (some (.Name x pos')) pos.line (dE T.sc) = pure false := by rfl) (hf : T.fn x = true ∨ List.lookup x T.sc.names = some NameKind.local := by first | exact .inr rfl | exact .inl rfl) : SS T Z (.Assign [.Name x pos'] (.Dict [some k] [e] p) pos) (sDDispT i fk fe) := by
  obtain ⟨tk, pk, ek⟩ := hk
  obtain ⟨te, pe, ee⟩ := he
  exact ⟨_, fun X h => ps_set (i := i) h.nd (by rw [h.N]; exact hx) (by rw [h.sc]; exact hv) (pe_dispT h.hu1 (pk X h) (pe X h)) (by rw [sw_dE, h.sc]; exact hs) (by
    rcases hf with hf | hf
    · exact .inl (h.fn x hf)
    · exact .inr (by rw [h.sc]; exact hf)), ST.dDispT ek ee⟩
theorem SS.dPut (i : Nat) {x : Str} (he : XE T Z e fe) (hk : XE T Z k fk) (hx : T.N[i]? = some x := by rfl) (hv : Vis T.sc x := by first | exact .inl rfl | exact .inr (.inl rfl) | exact .inr (.inr rfl)) (h1 : (x == Str.ofString "__debug__") = false := by rfl) (h2 : (x == Str.ofString "__classdict__") = false := by rfl)
    (hs : swapsWith e (some (.Subscript (.Name x p2) k p3)) pos.line (dE T.sc) = pure false := by rfl) : SS T Z (.Assign [.Subscript (.Name x p2) k p3] e pos) (sDPutS i fk fe) := by
  obtain ⟨te, pe, ee⟩ := he
  obtain ⟨tk, pk, ek⟩ := hk
  exact ⟨_, fun X h => ps_dput h.hu1 (pv i (by rw [h.N]; exact hx) (by rw [h.sc]; exact hv) h1 h2) (pk X h) (pe X h) (by rw [sw_dE, h.sc]; exact hs), ST.dPut ee ek⟩
theorem SS.dPop (i : Nat) {x : Str} (hk : XE T Z k fk) (hx : T.N[i]? = some x := by rfl) (hv : Vis T.sc x := by first | exact .inl rfl | exact .inr (.inl rfl) | exact .inr (.inr rfl)) (h1 : (x == Str.ofString "__debug__") = false := by rfl) (h2 : (x == Str.ofString "__classdict__") = false := by rfl)
    (hm : ∀ X : Cx, M1 X (.Name x p2) (Str.ofString "pop") apos k cpos := by exact fun X => ⟨rfl, rfl, rfl, rfl⟩) (hs : swapsWith (.Call (.Attribute (.Name x p2) (Str.ofString "pop") apos) [k] [] cpos) none pos.line (dE T.sc) = pure false := by rfl) : SS T Z (.Expr (.Call (.Attribute (.Name x p2) (Str.ofString "pop") apos) [k] [] cpos) pos) (sDPopS i fk) := by
  obtain ⟨tk, pk, ek⟩ := hk
  exact ⟨_, fun X h => ps_expr (pe_dpop1 (pv i (by rw [h.N]; exact hx) (by rw [h.sc]; exact hv) h1 h2) (pk X h) (hm X)) (by rw [sw_dE, h.sc]; exact hs), ST.dPop ek⟩
theorem SB.lock {j : Nat} (h : SB T Z rest f) : SB T Z rest (sLock j f) := by
  obtain ⟨t, p, ev⟩ := h
  exact ⟨_, fun X h => pss_lockS (p X h), ST.lock ev⟩
theorem SS.dictX (i : Nat) {x : Str} (mx : T.mg (Str.ofString "dict") = none) (he : XE T Z e fe) (hx : T.N[i]? = some x := by rfl) (hv : L2.Loc T.sc x := by first | exact .inl rfl | exact .inr rfl) (gx : GlB T "dict" := by rfl) (hst : ∀ env, starEach [e] env = (false, eval e env) :: starEach [] env := by exact fun _ => rfl)
    (hs : swapsWith (.Call (.Name (Str.ofString "dict") p) [e] [] cpos) (some (.Name x pos')) pos.line (dE T.sc) = pure false := by rfl) (hf : T.fn x = true ∨ List.lookup x T.sc.names = some NameKind.local := by first | exact .inr rfl | exact .inl rfl) : SS T Z (.Assign [.Name x pos'] (.Call (.Name (Str.ofString "dict") p) [e] [] cpos) pos) (sDictX i fe) := by
  obtain ⟨te, pe, ee⟩ := he
  exact ⟨_, fun X h => ps_set (i := i) h.nd (by rw [h.N]; exact hx) (by rw [h.sc]; exact hv) (pe_callTy (call_dictT h.calm (by have := h.hu; omega)) (by show List.lookup _ X.env.scope.names = _; rw [h.sc]; exact gx) (by rw [h.mg]; exact mx) (by rfl) (pa_cons (pe X h) pa_nil (hst X.env)) (by decide) (by rfl) (hst X.env) rfl) (by rw [sw_dE, h.sc]; exact hs) (by
    rcases hf with hf | hf
    · exact .inl (h.fn x hf)
    · exact .inr (by rw [h.sc]; exact hf)), ST.dictX ee⟩
end
end SL
/-! Sem38: list(range(..)), tuple(range(..)), pop, extend, remove, chains of three, range of three over own lists. -/
namespace SL
open PySem PySem.Spec PyProof.Rows L2
open Evl (Ex)
/-! ### list(range(..)), tuple(range(..)) -/
def rgOkB (a b : Int) : Bool := okI a && okI b && decide ((b - a).toNat ≤ 100000)
theorem rgOkB_of {a b : Int} (h : rgOkB a b = true) : RgOk a b := by
  unfold rgOkB at h
  simp only [Bool.and_eq_true, decide_eq_true_eq] at h
  have h1 := okI_of h.1.1
  have h2 := okI_of h.1.2
  exact ⟨h1.1, h1.2, h2.1, h2.2, by have := h.2; omega⟩
theorem reps_rg {R : RC} {F : Hp} (a b : Int) : Reps R F (rangeD a (b - a).toNat) (rgV a b) := by
  unfold rgV
  have key : ∀ (n : Nat) (lo : Int), Reps R F (rangeD lo n) ((List.range n).map fun i => V.int (lo + (i : Nat))) := by
    intro n
    induction n with
    | zero => intro lo; exact .nil
    | succ n ih =>
      intro lo
      rw [List.range_succ_eq_map, List.map_cons, List.map_map, rangeD]
      refine .cons ?_ ?_
      · show Rep R F (.int lo) (.int (lo + ((0 : Nat) : Int)))
        rw [show lo + ((0 : Nat) : Int) = lo by omega]
        exact .int lo
      · have e : (fun i : Nat => V.int (lo + (i : Nat))) ∘ Nat.succ = fun i : Nat => V.int (lo + 1 + (i : Nat)) := by
          funext i
          show V.int _ = V.int _
          congr 1
          show lo + ((i + 1 : Nat) : Int) = _
          omega
        rw [e]
        exact ih (lo + 1)
  exact key _ a
section
variable {S : Type} {R : RC} {Z : SK S} {m : Bool}
def fRgv1 (fa : Fn S D) : Fn S (List D) := fun env s => match fa env s with
  | some (.int j, s1) => if rgOkB 0 j then some (rangeD 0 (j - 0).toNat, s1) else none
  | _ => none
def fRgv2 (fa fb : Fn S D) : Fn S (List D) := fun env s => match fa env s with
  | some (.int i, s1) => match fb env s1 with
    | some (.int j, s2) => if rgOkB i j then some (rangeD i (j - i).toNat, s2) else none
    | _ => none
  | _ => none
theorem EVl.rgv1 {ta : TE} {fa : Fn S D} (h : EV R Z m ta fa) : EVl R Z m (tLstRg (tRg1 ta)) (fRgv1 fa) := by
  refine EVl.new fun σ env F H s ds s' Q p e q => ?_
  unfold fRgv1 at e
  split at e
  case h_2 => cases e
  rename_i j s1 h1
  split at e
  case isFalse => cases e
  rename_i hk
  cases e
  refine h σ env F H s _ _ _ p h1 fun v F1 H1 g1 k1 r1 => ?_
  cases r1
  exact ⟨j, rfl, rgOkB_of hk, fun a ha => q F1 H1 _ g1 k1 (reps_rg 0 j) a ha⟩
theorem EVl.rgv2 {ta tb : TE} {fa fb : Fn S D} (h : EV R Z m ta fa) (h' : EV R Z m tb fb) : EVl R Z m (tLstRg (tRg2 ta tb)) (fRgv2 fa fb) := by
  refine EVl.new fun σ env F H s ds s' Q p e q => ?_
  unfold fRgv2 at e
  split at e
  case h_2 => cases e
  rename_i i s1 h1
  split at e
  case h_2 => cases e
  rename_i j s2 h2
  split at e
  case isFalse => cases e
  rename_i hk
  cases e
  refine h σ env F H s _ _ _ p h1 fun v F1 H1 g1 k1 r1 => ?_
  have p1 := p.next g1 k1
  refine h' σ env F1 H1 s1 _ _ _ p1 h2 fun w F2 H2 g2 k2 r2 => ?_
  cases r1
  cases r2
  exact ⟨i, j, rfl, rfl, rgOkB_of hk, fun a ha => q F2 H2 _ (g1.trans g2 p1.hz) k2 (reps_rg i j) a ha⟩
theorem EV.rgt1 {ta : TE} {fa : Fn S D} (h : EV R Z m ta fa) : EV R Z m (tTupRg (tRg1 ta)) (fTup (fRgv1 fa)) := by
  intro σ env F H s d s' Q p e q
  unfold fTup fRgv1 at e
  cases h1 : fa env s with
  | none => rw [h1] at e; cases e
  | some o1 =>
    obtain ⟨x, s1⟩ := o1
    rw [h1] at e
    cases x <;> simp only at e <;> first | (cases e; done) | skip
    rename_i j
    by_cases hk : rgOkB 0 j = true
    · rw [if_pos hk] at e
      simp only at e
      split at e
      case isFalse => cases e
      cases e
      refine h σ env F H s _ _ _ p h1 fun v F1 H1 g1 k1 r1 => ?_
      cases r1
      refine ⟨j, rfl, rgOkB_of hk, fun a ha => ?_⟩
      have p1 := p.next g1 k1
      have g : Gr0 F1 H1 (upd F1 a (.tup (rgV 0 j))) (upd H1 a (.tup (rgV 0 j))) := Gr0.new p1.fh ha
      exact q _ _ _ (g1.trans g.up p1.hz) (Z.grow k1 g) (.tup upd_same ((reps_rg 0 j).mono g.ff))
    · rw [if_neg hk] at e; cases e
theorem EV.rgt2 {ta tb : TE} {fa fb : Fn S D} (h : EV R Z m ta fa) (h' : EV R Z m tb fb) : EV R Z m (tTupRg (tRg2 ta tb)) (fTup (fRgv2 fa fb)) := by
  intro σ env F H s d s' Q p e q
  unfold fTup at e
  cases hr : fRgv2 fa fb env s with
  | none => rw [hr] at e; cases e
  | some o1 =>
    obtain ⟨xs, s3⟩ := o1
    rw [hr] at e
    simp only at e
    split at e
    case isFalse => cases e
    cases e
    unfold fRgv2 at hr
    split at hr
    case h_2 => cases hr
    rename_i i s1 h1
    split at hr
    case h_2 => cases hr
    rename_i j s2 h2
    split at hr
    case isFalse => cases hr
    rename_i hk
    cases hr
    refine h σ env F H s _ _ _ p h1 fun v F1 H1 g1 k1 r1 => ?_
    have p1 := p.next g1 k1
    refine h' σ env F1 H1 s1 _ _ _ p1 h2 fun w F2 H2 g2 k2 r2 => ?_
    have p2 := p1.next g2 k2
    cases r1
    cases r2
    refine ⟨i, j, rfl, rfl, rgOkB_of hk, fun a ha => ?_⟩
    have g : Gr0 F2 H2 (upd F2 a (.tup (rgV i j))) (upd H2 a (.tup (rgV i j))) := Gr0.new p2.fh ha
    exact q _ _ _ ((g1.trans g2 p1.hz).trans g.up p2.hz) (Z.grow k2 g) (.tup upd_same ((reps_rg i j).mono g.ff))
end
/-! ### own lists: pop, extend, remove -/
section
variable {S : Type} {R : RC} {Z : SK S}
def sPop (i : Nat) : Stm S := fun env s => match env[i]? with
  | some (some (.own ds)) => if ds.isEmpty then none else some (.nx (env.set i (some (.own ds.dropLast))), s)
  | _ => none
theorem Reps.dropLast {F : Hp} {ds : List D} {vs : List V} (r : Reps R F ds vs) : Reps R F ds.dropLast vs.dropLast := by
  rw [List.dropLast_eq_take, List.dropLast_eq_take, r.length]
  exact r.take _
theorem ST.pop {i : Nat} : ST R Z (tDrop (tBM0 R.K "list" rPop (tVar i))) (sPop i) := fun F0 H0 σ env F H s o s' D p e q => by
  unfold sPop at e
  split at e
  case h_2 => cases e
  rename_i ds he
  split at e
  case isTrue => cases e
  rename_i hn
  cases e
  obtain ⟨a, vs, c2, c3, c4, c5, c6⟩ := p.owL i _ he
  have hv : 0 < vs.length := by
    rw [← c6.length]
    cases ds with
    | nil => simp at hn
    | cons _ _ => simp
  refine ⟨.ref a, c2, .inl ⟨rfl, _, .inl (.inl c3)⟩, a, vs, vs[vs.length - 1], rfl, rfl, c3, List.getElem?_eq_getElem (by omega), ?_⟩
  exact q σ F _ (p.setOwn he c2 c6.dropLast) (Ex.refl F)
def sExt (i : Nat) (fl : Fn S (List D)) : Stm S := fun env s => match fl env s with
  | none => none
  | some (es, s1) => match env[i]? with
    | some (some (.own ds)) => if ds.length + es.length ≤ 100000 then some (.nx (env.set i (some (.own (ds ++ es)))), s1) else none
    | _ => none
theorem ST.ext {i : Nat} {te : TE} {fl : Fn S (List D)} (h : ESl R Z te fl) : ST R Z (tDrop (tBM R.K "list" rExtend (tVar i) (tCons te tNil))) (sExt i fl) := fun F0 H0 σ env F H s o s' D p e q => by
  unfold sExt at e
  cases e1 : fl env s with
  | none => rw [e1] at e; cases e
  | some o1 =>
    obtain ⟨es, s1⟩ := o1
    rw [e1] at e
    simp only at e
    split at e
    case h_2 => cases e
    rename_i ds he
    split at e
    case isFalse => cases e
    rename_i hl
    cases e
    obtain ⟨a, vs, c2, c3, c4, c5, c6⟩ := p.owL i _ he
    refine ⟨.ref a, c2, .inl ⟨rfl, _, .inl (.inl c3)⟩, ?_⟩
    refine h F0 H0 σ env F H s es _ _ p e1 fun b ws F' H' p' x' n0 nF no hH r => ?_
    obtain ⟨a', vs', c2', c3', c4', c5', c6'⟩ := p'.owL i _ he
    rw [c2] at c2'
    cases c2'
    refine ⟨a, b, vs', ws, rfl, rfl, c3', hH, by rw [← c6'.length, ← r.length, sizeLine_eq]; omega, ?_⟩
    exact q σ F' _ (p'.setOwn he c2 (c6'.append r)) x'
/-- y.remove(e) of ints -/
def sRem (i : Nat) (fe : Fn S D) : Stm S := fun env s => match fe env s with
  | some (.int k, s1) => match env[i]? with
    | some (some (.own ds)) => match intsOf ds with
      | some ns => if ns.contains k then some (.nx (env.set i (some (.own ((ns.erase k).map D.int)))), s1) else none
      | none => none
    | _ => none
  | _ => none
theorem ST.rem {i : Nat} {te : TE} {fe : Fn S D} (h : ES R Z te fe) : ST R Z (tDrop (tRemX R.K (fun _ _ _ _ => False) (tVar i) te)) (sRem i fe) := fun F0 H0 σ env F H s o s' D p e q => by
  unfold sRem at e
  split at e
  case h_2 => cases e
  rename_i k s1 e1
  split at e
  case h_2 => cases e
  rename_i ds he
  split at e
  case h_2 => cases e
  rename_i ns hn
  split at e
  case isFalse => cases e
  rename_i hk
  cases e
  obtain ⟨a, vs, c2, c3, c4, c5, c6⟩ := p.owL i _ he
  refine ⟨.ref a, c2, .inl ⟨rfl, _, .inl (.inl c3)⟩, ?_⟩
  refine h F0 H0 σ env F H s _ _ _ p e1 fun v F' H' p' x' r => ?_
  cases r
  obtain ⟨a', vs', c2', c3', c4', c5', c6'⟩ := p'.owL i _ he
  rw [c2] at c2'
  cases c2'
  have hv := ints_of c6' hn
  subst hv
  have hm : k ∈ ns := List.contains_iff_mem.mp hk
  refine ⟨a, ns, k, rfl, rfl, c3', fun _ => ?_, fun hno => absurd hm hno⟩
  exact q σ F' _ (p'.setOwn he c2 Reps.ints) x'
end
/-! ### chains of three -/
section
variable {S : Type} {T : CT} {Z : SK S} {m : Bool} {a b c d e k o : Expr} {es : List Expr} {fa fb fc fd fk fe : Fn S D} {fr fl : Fn S (List D)} {pos p p2 p3 apos cpos pos' : Pos} {tg : Expr} {rest : List Stmt} {f : Stm S}
theorem SN.rgv1 (mr : T.mg (Str.ofString "range") = none) (ml : T.mg (Str.ofString "list") = none) (ha : SE T Z m a fa) (gr : GlB T "range" := by rfl) (gl : GlB T "list" := by rfl) (h1 : ∀ env, starEach [a] env = (false, eval a env) :: starEach [] env := by exact fun _ => rfl) (h2 : ∀ env, starEach [Expr.Call (.Name (Str.ofString "range") p) [a] [] pos] env = (false, eval (Expr.Call (.Name (Str.ofString "range") p) [a] [] pos) env) :: starEach [] env := by exact fun _ => rfl) : SN T Z m (.Call (.Name (Str.ofString "list") p2) [.Call (.Name (Str.ofString "range") p) [a] [] pos] [] cpos) (fRgv1 fa) := by
  obtain ⟨t, pA, eA⟩ := ha
  exact ⟨_, fun X h => pe_listRg h.calm (by show List.lookup _ X.env.scope.names = _; rw [h.sc]; exact gl) (by rw [h.mg]; exact ml) (prg_1 (by show List.lookup _ X.env.scope.names = _; rw [h.sc]; exact gr) (by rw [h.mg]; exact mr) (pA X h) (h1 X.env)) (h2 X.env), EVl.rgv1 eA⟩
theorem SN.rgv2 (mr : T.mg (Str.ofString "range") = none) (ml : T.mg (Str.ofString "list") = none) (ha : SE T Z m a fa) (hb : SE T Z m b fb) (gr : GlB T "range" := by rfl) (gl : GlB T "list" := by rfl) (h1 : ∀ env, starEach [a, b] env = (false, eval a env) :: starEach [b] env := by exact fun _ => rfl) (h3 : ∀ env, starEach [b] env = (false, eval b env) :: starEach [] env := by exact fun _ => rfl) (h4 : ∀ env, (backTo pos (starEach [b] env)).any (·.1) = false := by exact fun _ => rfl) (h2 : ∀ env, starEach [Expr.Call (.Name (Str.ofString "range") p) [a, b] [] pos] env = (false, eval (Expr.Call (.Name (Str.ofString "range") p) [a, b] [] pos) env) :: starEach [] env := by exact fun _ => rfl) : SN T Z m (.Call (.Name (Str.ofString "list") p2) [.Call (.Name (Str.ofString "range") p) [a, b] [] pos] [] cpos) (fRgv2 fa fb) := by
  obtain ⟨t, pA, eA⟩ := ha
  obtain ⟨u, pB, eB⟩ := hb
  exact ⟨_, fun X h => pe_listRg h.calm (by show List.lookup _ X.env.scope.names = _; rw [h.sc]; exact gl) (by rw [h.mg]; exact ml) (prg_2 (by show List.lookup _ X.env.scope.names = _; rw [h.sc]; exact gr) (by rw [h.mg]; exact mr) (pA X h) (pB X h) (h1 X.env) (h3 X.env) (h4 X.env)) (h2 X.env), EVl.rgv2 eA eB⟩
theorem SE.rgt1 (mr : T.mg (Str.ofString "range") = none) (ml : T.mg (Str.ofString "tuple") = none) (ha : SE T Z m a fa) (gr : GlB T "range" := by rfl) (gl : GlB T "tuple" := by rfl) (h1 : ∀ env, starEach [a] env = (false, eval a env) :: starEach [] env := by exact fun _ => rfl) (h2 : ∀ env, starEach [Expr.Call (.Name (Str.ofString "range") p) [a] [] pos] env = (false, eval (Expr.Call (.Name (Str.ofString "range") p) [a] [] pos) env) :: starEach [] env := by exact fun _ => rfl) : SE T Z m (.Call (.Name (Str.ofString "tuple") p2) [.Call (.Name (Str.ofString "range") p) [a] [] pos] [] cpos) (fTup (fRgv1 fa)) := by
  obtain ⟨t, pA, eA⟩ := ha
  exact ⟨_, fun X h => pe_tupRg h.calm (by show List.lookup _ X.env.scope.names = _; rw [h.sc]; exact gl) (by rw [h.mg]; exact ml) (prg_1 (by show List.lookup _ X.env.scope.names = _; rw [h.sc]; exact gr) (by rw [h.mg]; exact mr) (pA X h) (h1 X.env)) (h2 X.env), EV.rgt1 eA⟩
theorem SE.rgt2 (mr : T.mg (Str.ofString "range") = none) (ml : T.mg (Str.ofString "tuple") = none) (ha : SE T Z m a fa) (hb : SE T Z m b fb) (gr : GlB T "range" := by rfl) (gl : GlB T "tuple" := by rfl) (h1 : ∀ env, starEach [a, b] env = (false, eval a env) :: starEach [b] env := by exact fun _ => rfl) (h3 : ∀ env, starEach [b] env = (false, eval b env) :: starEach [] env := by exact fun _ => rfl) (h4 : ∀ env, (backTo pos (starEach [b] env)).any (·.1) = false := by exact fun _ => rfl) (h2 : ∀ env, starEach [Expr.Call (.Name (Str.ofString "range") p) [a, b] [] pos] env = (false, eval (Expr.Call (.Name (Str.ofString "range") p) [a, b] [] pos) env) :: starEach [] env := by exact fun _ => rfl) : SE T Z m (.Call (.Name (Str.ofString "tuple") p2) [.Call (.Name (Str.ofString "range") p) [a, b] [] pos] [] cpos) (fTup (fRgv2 fa fb)) := by
  obtain ⟨t, pA, eA⟩ := ha
  obtain ⟨u, pB, eB⟩ := hb
  exact ⟨_, fun X h => pe_tupRg h.calm (by show List.lookup _ X.env.scope.names = _; rw [h.sc]; exact gl) (by rw [h.mg]; exact ml) (prg_2 (by show List.lookup _ X.env.scope.names = _; rw [h.sc]; exact gr) (by rw [h.mg]; exact mr) (pA X h) (pB X h) (h1 X.env) (h3 X.env) (h4 X.env)) (h2 X.env), EV.rgt2 eA eB⟩
theorem SS.pop (i : Nat) {y : Str} {p2 : Pos} (hx : T.N[i]? = some y := by rfl) (hv : Vis T.sc y := by first | exact .inl rfl | exact .inr (.inl rfl) | exact .inr (.inr rfl)) (h1 : (y == Str.ofString "__debug__") = false := by rfl) (h2 : (y == Str.ofString "__classdict__") = false := by rfl)
    (hb : ∀ env, attributeBase (.Name y p2) (Str.ofString "pop") env (eval (.Name y p2) env) = eval (.Name y p2) env := by exact fun _ => rfl) (hl : (apos.endLine == cpos.line) = true := by rfl) (hs : swapsWith (.Call (.Attribute (.Name y p2) (Str.ofString "pop") apos) [] [] cpos) none pos.line (dE T.sc) = pure false := by rfl) : SS T Z (.Expr (.Call (.Attribute (.Name y p2) (Str.ofString "pop") apos) [] [] cpos) pos) (sPop i) :=
  ⟨_, fun X h => by
    have := pe_bm0 (cpos := cpos) (apos := apos) PySem.F.plainAttrs_list PySem.F.slot_list_pop PySem.F.type_list_pop mt_pop (pv i (by rw [h.N]; exact hx) (by rw [h.sc]; exact hv) h1 h2) (hb X.env) hl
    rw [h.K] at this
    exact ps_expr this (by rw [sw_dE, h.sc]; exact hs), ST.pop⟩
theorem SS.ext (i : Nat) {y : Str} {p2 : Pos} (h : XN T Z e fl) (hx : T.N[i]? = some y := by rfl) (hv : Vis T.sc y := by first | exact .inl rfl | exact .inr (.inl rfl) | exact .inr (.inr rfl)) (h1 : (y == Str.ofString "__debug__") = false := by rfl) (h2 : (y == Str.ofString "__classdict__") = false := by rfl)
    (hb : BmOk (.Name y p2) e [] (Str.ofString "extend") apos cpos := by exact fun _ => ⟨rfl, rfl, rfl, rfl⟩) (hl : (apos.endLine == cpos.line) = true := by rfl) (hs : swapsWith (.Call (.Attribute (.Name y p2) (Str.ofString "extend") apos) [e] [] cpos) none pos.line (dE T.sc) = pure false := by rfl) : SS T Z (.Expr (.Call (.Attribute (.Name y p2) (Str.ofString "extend") apos) [e] [] cpos) pos) (sExt i fl) := by
  obtain ⟨t, p, ev⟩ := h
  exact ⟨_, fun X h => by
    have := pe_bmQ (cpos := cpos) PySem.F.plainAttrs_list PySem.F.slot_list_extend PySem.F.type_list_extend mt_extend (pv i (by rw [h.N]; exact hx) (by rw [h.sc]; exact hv) h1 h2) (pa_cons (p X h) pa_nil (hb X.env).2.2.1) hb hl
    rw [h.K] at this
    exact ps_expr this (by rw [sw_dE, h.sc]; exact hs), ST.ext ev⟩
theorem SS.rem (i : Nat) {y : Str} {p2 : Pos} (h : XE T Z e fe) (hx : T.N[i]? = some y := by rfl) (hv : Vis T.sc y := by first | exact .inl rfl | exact .inr (.inl rfl) | exact .inr (.inr rfl)) (h1 : (y == Str.ofString "__debug__") = false := by rfl) (h2 : (y == Str.ofString "__classdict__") = false := by rfl)
    (hb : BmOk (.Name y p2) e [] (Str.ofString "remove") apos cpos := by exact fun _ => ⟨rfl, rfl, rfl, rfl⟩) (hl : (apos.endLine == cpos.line) = true := by rfl) (hs : swapsWith (.Call (.Attribute (.Name y p2) (Str.ofString "remove") apos) [e] [] cpos) none pos.line (dE T.sc) = pure false := by rfl) : SS T Z (.Expr (.Call (.Attribute (.Name y p2) (Str.ofString "remove") apos) [e] [] cpos) pos) (sRem i fe) := by
  obtain ⟨t, p, ev⟩ := h
  exact ⟨_, fun X h => by
    have := pe_remX (cpos := cpos) (apos := apos) h.calm takes0 (pv i (by rw [h.N]; exact hx) (by rw [h.sc]; exact hv) h1 h2) (p X h) (hb X.env).1 (hb X.env).2.1 hl (hb X.env).2.2.1 (hb X.env).2.2.2
    rw [h.K] at this
    exact ps_expr this (by rw [sw_dE, h.sc]; exact hs), ST.rem ev⟩
theorem XW.r3B (mx : T.mg (Str.ofString "range") = none) (ha : SA T Z true [a, b, c] fr) (gx : List.lookup (Str.ofString "range") T.sc.names = some NameKind.globalImplicit := by rfl) (hs : ∀ env, starEach [a, b, c] env = (false, eval a env) :: starEach [b, c] env := by exact fun _ => rfl) (hs2 : Sta [b, c] pos := by exact fun _ => rfl) : XW T Z tg (.Call (.Name (Str.ofString "range") p) [a, b, c] [] pos) (fRng3 fr) := by
  obtain ⟨t, pA, eA⟩ := ha
  refine ⟨_, fun X h => pi_range3 (by show List.lookup _ X.env.scope.names = _; rw [h.sc]; exact gx) (by rw [h.mg]; exact mx) (pA X h) (hs X.env) (hs2 X.env), fun F0 H0 σ env F H s ds s' K pr e q => ?_⟩
  unfold fRng3 at e
  split at e
  · rename_i i j c s1 h1
    split at e
    case isFalse => cases e
    rename_i hk
    simp only [Bool.and_eq_true, decide_eq_true_eq] at hk
    cases e
    refine eA σ env _ H s _ _ _ pr.preB h1 fun vs F1 H1 g1 k1 r1 => ?_
    cases r1 with
    | cons r1 r2 => cases r2 with
      | cons r2 r3 => cases r3 with
        | cons r3 r4 =>
          cases r4
          cases r1
          cases r2
          cases r3
          exact ⟨i, j, c, _, rfl, ⟨hk.1.1, hk.1.2, hk.2.1, by have := hk.2.2; omega⟩, q _ _ H1 (pr.nextB g1 k1) (pr.growB g1).ff (ItE.rangeC i c _)⟩
  · cases e
end
end SL
/-! Sem39: list + list. -/
namespace SL
open PySem PySem.Spec PyProof.Rows L2
open Evl (Ex)
def fCatL {S : Type} (fa fb : Fn S D) : Fn S (List D) := fun env s => match fa env s with
  | some (.lst xs, s1) => match fb env s1 with
    | some (.lst ys, s2) => if xs.length + ys.length ≤ 100000 then some (xs ++ ys, s2) else none
    | _ => none
  | _ => none
section
variable {S : Type} {R : RC} {Z : SK S} {m : Bool} {ta tb : TE} {fa fb : Fn S D}
theorem EVl.cat (ha : EV R Z m ta fa) (hb : EV R Z m tb fb) : EVl R Z m (tOp rCat ta tb) (fCatL fa fb) := by
  refine EVl.new fun σ env F H s ds s' Q p e q => ?_
  unfold fCatL at e
  split at e
  case h_2 => cases e
  rename_i xs s1 h1
  split at e
  case h_2 => cases e
  rename_i ys s2 h2
  split at e
  case isFalse => cases e
  rename_i hk
  cases e
  refine ha σ env F H s _ s1 _ p h1 fun v F1 H1 g1 k1 r1 => ?_
  have p1 := p.next g1 k1
  refine hb σ env F1 H1 s1 _ _ _ p1 h2 fun w F2 H2 g2 k2 r2 => ?_
  have p2 := p1.next g2 k2
  cases r1 with
  | lst e1 r1 => cases r2 with
    | lst e2 r2 =>
      rename_i a vs b ws
      refine ⟨a, b, vs, ws, rfl, rfl, p2.fh _ _ (g2.ff _ _ e1), p2.fh _ _ e2, ?_, fun c hc => ?_⟩
      · rw [← r1.length, ← r2.length]; exact sz5 hk
      · exact q F2 H2 _ (g1.trans g2 p1.hz) k2 ((r1.mono g2.ff).append r2) c hc
end
section
variable {S : Type} {T : CT} {Z : SK S} {m : Bool} {a b : Expr} {fa fb : Fn S D} {pos : Pos}
theorem SN.cat (ha : SE T Z m a fa) (hb : SE T Z m b fb) : SN T Z m (.BinOp a .Add b pos) (fCatL fa fb) := by
  obtain ⟨ta, pa, ea⟩ := ha
  obtain ⟨tb, pb, eb⟩ := hb
  exact ⟨_, fun X h => pe_op op_cat (pa X h) (pb X h), EVl.cat ea eb⟩
end
end SL
/-! Sem40: sets of ints as lists, sums of sets, elimination by sums; in plain Lean. -/
namespace SL
open PySem L2
def hasI (x : Int) : List Int → Bool
  | [] => false
  | y :: ys => y == x || hasI x ys
theorem hasI_iff {x : Int} : ∀ {ys : List Int}, hasI x ys = true ↔ x ∈ ys
  | [] => by simp [hasI]
  | y :: ys => by
    simp only [hasI, Bool.or_eq_true, beq_iff_eq, hasI_iff (ys := ys), List.mem_cons]
    constructor
    · rintro (h | h)
      · exact .inl h.symm
      · exact .inr h
    · rintro (h | h)
      · exact .inl h.symm
      · exact .inr h
theorem hasI_ff {x : Int} {ys : List Int} : hasI x ys = false ↔ x ∉ ys := by
  rw [← hasI_iff]; cases hasI x ys <;> simp
theorem hasI_congr {x : Int} {ys zs : List Int} (h : x ∈ ys ↔ x ∈ zs) : hasI x ys = hasI x zs := by
  cases e : hasI x zs with
  | true => exact hasI_iff.mpr (h.mpr (hasI_iff.mp e))
  | false => exact hasI_ff.mpr fun k => hasI_ff.mp e (h.mp k)
theorem hasI_filter (x : Int) (p : Int → Bool) (ys : List Int) : hasI x (ys.filter p) = (hasI x ys && p x) := by
  cases e : (hasI x ys && p x) with
  | true =>
    rw [Bool.and_eq_true] at e
    exact hasI_iff.mpr (List.mem_filter.mpr ⟨hasI_iff.mp e.1, e.2⟩)
  | false =>
    refine hasI_ff.mpr fun k => ?_
    have k := List.mem_filter.mp k
    rw [hasI_iff.mpr k.1, k.2] at e
    cases e
theorem hasI_append (x : Int) : ∀ ys zs : List Int, hasI x (ys ++ zs) = (hasI x ys || hasI x zs)
  | [], zs => rfl
  | y :: ys, zs => by simp only [List.cons_append, hasI, hasI_append x ys zs, Bool.or_assoc]
/-! sorting ints -/
def insI (x : Int) : List Int → List Int
  | [] => [x]
  | y :: ys => if y < x then y :: insI x ys else x :: y :: ys
def sortI : List Int → List Int
  | [] => []
  | x :: xs => insI x (sortI xs)
theorem insI_perm (x : Int) : ∀ ys : List Int, (insI x ys).Perm (x :: ys)
  | [] => .refl _
  | y :: ys => by
    unfold insI
    split
    · exact ((insI_perm x ys).cons y).trans (.swap ..)
    · exact .refl _
theorem sortI_perm : ∀ ys : List Int, (sortI ys).Perm ys
  | [] => .refl _
  | x :: xs => (insI_perm x _).trans ((sortI_perm xs).cons x)
theorem hasI_sort (x : Int) (ys : List Int) : hasI x (sortI ys) = hasI x ys := hasI_congr (sortI_perm ys).mem_iff
/-- the places that are in just one of two sets, ascending -/
def sumI (a b : List Int) : List Int := sortI (a.filter (fun x => !hasI x b) ++ b.filter fun x => !hasI x a)
theorem hasI_sum (x : Int) (a b : List Int) : hasI x (sumI a b) = (hasI x a ^^ hasI x b) := by
  unfold sumI
  rw [hasI_sort, hasI_append, hasI_filter, hasI_filter]
  cases hasI x a <;> cases hasI x b <;> rfl
/-! parity of what a set W shares with another -/
def parI : List Int → List Int → Bool
  | [], _ => false
  | x :: W, S => hasI x S ^^ parI W S
theorem xor4 (a b c d : Bool) : ((a ^^ b) ^^ (c ^^ d)) = ((a ^^ c) ^^ (b ^^ d)) := by cases a <;> cases b <;> cases c <;> cases d <;> rfl
theorem parI_sum : ∀ W a b : List Int, parI W (sumI a b) = (parI W a ^^ parI W b)
  | [], _, _ => rfl
  | x :: W, a, b => by simp only [parI]; rw [hasI_sum, parI_sum W a b]; exact xor4 ..
theorem parI_none : ∀ (W S : List Int), (∀ x ∈ W, hasI x S = false) → parI W S = false
  | [], _, _ => rfl
  | x :: W, S, h => by simp only [parI]; rw [h x (List.mem_cons_self ..), parI_none W S fun y hy => h y (List.mem_cons_of_mem _ hy)]; rfl
theorem parI_congr : ∀ (W : List Int) {S T : List Int}, (∀ x ∈ W, hasI x S = hasI x T) → parI W S = parI W T
  | [], _, _, _ => rfl
  | x :: W, S, T, h => by simp only [parI]; rw [h x (List.mem_cons_self ..), parI_congr W fun y hy => h y (List.mem_cons_of_mem _ hy)]
theorem parI_perm {W V : List Int} (h : W.Perm V) (S : List Int) : parI W S = parI V S := by
  induction h with
  | nil => rfl
  | cons x _ ih => simp only [parI, ih]
  | swap x y l => simp only [parI]; cases hasI x S <;> cases hasI y S <;> cases parI l S <;> rfl
  | trans _ _ h1 h2 => exact h1.trans h2
theorem parI_append : ∀ (V W S : List Int), parI (V ++ W) S = (parI V S ^^ parI W S)
  | [], W, S => by simp [parI]
  | x :: V, W, S => by simp only [List.cons_append, parI, parI_append V W S, Bool.xor_assoc]
theorem parI_one {x : Int} {S : List Int} : ∀ {W : List Int}, W.Nodup → x ∈ W → (∀ y ∈ W, hasI y S = true → y = x) → hasI x S = true → parI W S = true
  | [], _, h, _, _ => by cases h
  | y :: W, nd, h, k, hx => by
    have nd2 := List.nodup_cons.mp nd
    simp only [parI]
    by_cases e : y = x
    · subst e
      rw [hx, parI_none W S fun z hz => ?_]
      · rfl
      · cases q : hasI z S with
        | false => rfl
        | true =>
          have := k z (List.mem_cons_of_mem _ hz) q
          subst this
          exact absurd hz nd2.1
    · have hxW : x ∈ W := by
        rcases List.mem_cons.mp h with h | h
        · exact absurd h.symm e
        · exact h
      have : hasI y S = false := by
        cases q : hasI y S with
        | false => rfl
        | true => exact absurd (k y (List.mem_cons_self ..) q) e
      rw [this, parI_one nd2.2 hxW (fun z hz => k z (List.mem_cons_of_mem _ hz)) hx]
      rfl
theorem len_of_sub : ∀ {A B : List Int}, A.Nodup → (∀ x ∈ A, x ∈ B) → A.length ≤ B.length
  | [], _, _, _ => Nat.zero_le _
  | x :: A, B, nd, h => by
    have nd2 := List.nodup_cons.mp nd
    have hx : x ∈ B := h x (List.mem_cons_self ..)
    have := len_of_sub (A := A) (B := B.erase x) nd2.2 fun y hy => by
      have hy2 := h y (List.mem_cons_of_mem _ hy)
      have : y ≠ x := fun e => nd2.1 (e ▸ hy)
      exact (List.mem_erase_of_ne this).mpr hy2
    rw [List.length_erase_of_mem hx] at this
    have hp : 0 < B.length := List.length_pos_of_mem hx
    simp only [List.length_cons]
    omega
theorem sub_of_len {A B : List Int} (nd : A.Nodup) (h : ∀ x ∈ A, x ∈ B) (hl : B.length ≤ A.length) : ∀ x ∈ B, x ∈ A := fun x hx => by
  by_cases q : x ∈ A
  · exact q
  · exfalso
    have := len_of_sub (A := A) (B := B.erase x) nd fun y hy => by
      have : y ≠ x := fun e => q (e ▸ hy)
      exact (List.mem_erase_of_ne this).mpr (h y hy)
    rw [List.length_erase_of_mem hx] at this
    have hp : 0 < B.length := List.length_pos_of_mem hx
    omega
/-! ### elimination by sums -/
abbrev Row := List Int × List Int
def upR (p : Int) (top r : Row) : Row := if hasI p r.1 = true then (sumI r.1 top.1, sumI r.2 top.2) else r
def stpR (p : Int) (s : List Row × List Row) : List Row × List Row := match s.1.filter fun r => hasI p r.1 with
  | [] => s
  | top :: _ => ((s.1.filter fun r => r != top).map (upR p top), s.2.map (upR p top) ++ [top])
def redR : List Int → List Row × List Row → List Row × List Row
  | [], s => s
  | p :: E, s => redR E (stpR p s)
def rows0 (E : List Int) : Int → List (List Int) → List Row
  | _, [] => []
  | i, c :: cs => (c.filter fun x => hasI x E, [i]) :: rows0 E (i + 1) cs
def doneR (C : List (List Int)) (E : List Int) : List Row := (redR E (rows0 E 0 C, [])).2
def ZeroR (W : List Int) (l : List Row) : Prop := ∀ r ∈ l, parI W r.1 = false
theorem upR_par {W : List Int} {p : Int} {top r : Row} (ht : parI W top.1 = false) : parI W (upR p top r).1 = parI W r.1 := by
  unfold upR
  split
  · show parI W (sumI r.1 top.1) = _
    rw [parI_sum, ht, Bool.xor_false]
  · rfl
theorem top_mem {p : Int} {l l' : List Row} {top : Row} (h : (l.filter fun r => hasI p r.1) = top :: l') : top ∈ l ∧ hasI p top.1 = true := by
  have : top ∈ l.filter fun r => hasI p r.1 := by rw [h]; exact List.mem_cons_self ..
  exact List.mem_filter.mp this
theorem stp_zero (W : List Int) (p : Int) (s : List Row × List Row) : (ZeroR W (stpR p s).1 ∧ ZeroR W (stpR p s).2) ↔ (ZeroR W s.1 ∧ ZeroR W s.2) := by
  unfold stpR
  split
  · exact Iff.rfl
  · rename_i top l' e
    obtain ⟨tm, tp⟩ := top_mem e
    constructor
    · rintro ⟨h1, h2⟩
      have ht : parI W top.1 = false := h2 top (List.mem_append_right _ (List.mem_singleton.mpr rfl))
      refine ⟨fun r hr => ?_, fun r hr => ?_⟩
      · by_cases q : r = top
        · subst q; exact ht
        · rw [← upR_par (p := p) (r := r) ht]
          exact h1 _ (List.mem_map.mpr ⟨r, List.mem_filter.mpr ⟨hr, by simpa using q⟩, rfl⟩)
      · rw [← upR_par (p := p) (r := r) ht]
        exact h2 _ (List.mem_append_left _ (List.mem_map.mpr ⟨r, hr, rfl⟩))
    · rintro ⟨h1, h2⟩
      have ht : parI W top.1 = false := h1 top tm
      refine ⟨fun r hr => ?_, fun r hr => ?_⟩
      · obtain ⟨r', hr', rfl⟩ := List.mem_map.mp hr
        rw [upR_par ht]
        exact h1 r' (List.mem_filter.mp hr').1
      · rcases List.mem_append.mp hr with hr | hr
        · obtain ⟨r', hr', rfl⟩ := List.mem_map.mp hr
          rw [upR_par ht]
          exact h2 r' hr'
        · rw [List.mem_singleton.mp hr]; exact ht
theorem red_zero (W : List Int) : ∀ (E : List Int) (s : List Row × List Row), (ZeroR W (redR E s).1 ∧ ZeroR W (redR E s).2) ↔ (ZeroR W s.1 ∧ ZeroR W s.2)
  | [], s => Iff.rfl
  | p :: E, s => (red_zero W E (stpR p s)).trans (stp_zero W p s)
/-- what each step keeps -/
structure OkR (U : List Int) (G : List Int) (s : List Row × List Row) (dp : List (Row × Int)) : Prop where
  sub1 : ∀ r ∈ s.1, ∀ x ∈ r.1, x ∈ U
  sub2 : ∀ r ∈ s.2, ∀ x ∈ r.1, x ∈ U
  gone : ∀ r ∈ s.1, ∀ p ∈ G, hasI p r.1 = false
  dn : dp.map (·.1) = s.2
  own : ∀ d ∈ dp, hasI d.2 d.1.1 = true
  pw : dp.Pairwise fun a b => hasI a.2 b.1.1 = false ∧ hasI b.2 a.1.1 = false
  low : ∀ d ∈ dp, ∀ r ∈ s.1, hasI d.2 r.1 = false
  inU : ∀ d ∈ dp, d.2 ∈ U
theorem mem_sum {x : Int} {a b : List Int} (h : x ∈ sumI a b) : x ∈ a ∨ x ∈ b := by
  have := hasI_iff.mpr h
  rw [hasI_sum] at this
  cases e : hasI x a with
  | true => exact .inl (hasI_iff.mp e)
  | false =>
    rw [e, Bool.false_xor] at this
    exact .inr (hasI_iff.mp this)
theorem upR_sub {U : List Int} {p : Int} {top r : Row} (ht : ∀ x ∈ top.1, x ∈ U) (hr : ∀ x ∈ r.1, x ∈ U) : ∀ x ∈ (upR p top r).1, x ∈ U := by
  unfold upR
  split
  · intro x hx
    rcases mem_sum hx with h | h
    · exact hr x h
    · exact ht x h
  · exact hr
theorem upR_has {q p : Int} {top r : Row} (h : hasI q top.1 = false) : hasI q (upR p top r).1 = hasI q r.1 := by
  unfold upR
  split
  · show hasI q (sumI _ _) = _
    rw [hasI_sum, h, Bool.xor_false]
  · rfl
theorem upR_self {p : Int} {top r : Row} (h : hasI p top.1 = true) : hasI p (upR p top r).1 = false := by
  unfold upR
  split
  · rename_i k
    show hasI p (sumI _ _) = _
    rw [hasI_sum, h, k]; rfl
  · rename_i k
    cases q : hasI p r.1 with
    | true => exact absurd q k
    | false => rfl
theorem OkR.step {U G : List Int} {s : List Row × List Row} {dp : List (Row × Int)} (O : OkR U G s dp) (p : Int) (hp : p ∈ U) : ∃ dp', OkR U (p :: G) (stpR p s) dp' := by
  unfold stpR
  split
  · rename_i e
    refine ⟨dp, O.sub1, O.sub2, fun r hr q hq => ?_, O.dn, O.own, O.pw, O.low, O.inU⟩
    rcases List.mem_cons.mp hq with rfl | hq
    · cases k : hasI q r.1 with
      | false => rfl
      | true =>
        have : r ∈ s.1.filter fun r => hasI q r.1 := List.mem_filter.mpr ⟨hr, k⟩
        rw [e] at this
        cases this
    · exact O.gone r hr q hq
  · rename_i top l' e
    obtain ⟨tm, tp⟩ := top_mem e
    have tU := O.sub1 top tm
    refine ⟨dp.map (fun d => (upR p top d.1, d.2)) ++ [(top, p)], fun r hr => ?_, fun r hr => ?_, fun r hr q hq => ?_, ?_, fun d hd => ?_, ?_, fun d hd r hr => ?_, fun d hd => ?_⟩
    · obtain ⟨r', hr', rfl⟩ := List.mem_map.mp hr
      exact upR_sub tU (O.sub1 r' (List.mem_filter.mp hr').1)
    · rcases List.mem_append.mp hr with hr | hr
      · obtain ⟨r', hr', rfl⟩ := List.mem_map.mp hr
        exact upR_sub tU (O.sub2 r' hr')
      · rw [List.mem_singleton.mp hr]; exact tU
    · obtain ⟨r', hr', rfl⟩ := List.mem_map.mp hr
      rcases List.mem_cons.mp hq with rfl | hq
      · exact upR_self tp
      · rw [upR_has (O.gone top tm q hq)]
        exact O.gone r' (List.mem_filter.mp hr').1 q hq
    · rw [List.map_append, List.map_map, ← O.dn, List.map_map]
      rfl
    · rcases List.mem_append.mp hd with hd | hd
      · obtain ⟨d', hd', rfl⟩ := List.mem_map.mp hd
        show hasI d'.2 (upR p top d'.1).1 = true
        rw [upR_has (O.low d' hd' top tm)]
        exact O.own d' hd'
      · rw [List.mem_singleton.mp hd]; exact tp
    · refine List.pairwise_append.mpr ⟨List.pairwise_map.mpr ?_, List.pairwise_singleton .., fun a ha b hb => ?_⟩
      · refine O.pw.imp_of_mem fun {a b} ha hb h => ⟨?_, ?_⟩
        · show hasI a.2 (upR p top b.1).1 = false
          rw [upR_has (O.low a ha top tm)]; exact h.1
        · show hasI b.2 (upR p top a.1).1 = false
          rw [upR_has (O.low b hb top tm)]; exact h.2
      · obtain ⟨a', ha', rfl⟩ := List.mem_map.mp ha
        rw [List.mem_singleton.mp hb]
        exact ⟨O.low a' ha' top tm, upR_self tp⟩
    · obtain ⟨r', hr', rfl⟩ := List.mem_map.mp hr
      rcases List.mem_append.mp hd with hd | hd
      · obtain ⟨d', hd', rfl⟩ := List.mem_map.mp hd
        show hasI d'.2 _ = false
        rw [upR_has (O.low d' hd' top tm)]
        exact O.low d' hd' r' (List.mem_filter.mp hr').1
      · rw [List.mem_singleton.mp hd]; exact upR_self tp
    · rcases List.mem_append.mp hd with hd | hd
      · obtain ⟨d', hd', rfl⟩ := List.mem_map.mp hd
        exact O.inU d' hd'
      · rw [List.mem_singleton.mp hd]; exact hp
theorem OkR.red {U : List Int} : ∀ (E G : List Int) {s : List Row × List Row} {dp : List (Row × Int)}, OkR U G s dp → (∀ x ∈ E, x ∈ U) → ∃ G' dp', OkR U G' (redR E s) dp' ∧ (∀ x ∈ G, x ∈ G') ∧ ∀ x ∈ E, x ∈ G'
  | [], G, s, dp, O, _ => ⟨G, dp, O, fun _ h => h, fun _ h => by cases h⟩
  | p :: E, G, s, dp, O, h => by
    obtain ⟨dp1, O1⟩ := O.step p (h p (List.mem_cons_self ..))
    obtain ⟨G2, dp2, O2, k1, k2⟩ := OkR.red E (p :: G) O1 fun x hx => h x (List.mem_cons_of_mem _ hx)
    refine ⟨G2, dp2, O2, fun x hx => k1 x (List.mem_cons_of_mem _ hx), fun x hx => ?_⟩
    rcases List.mem_cons.mp hx with rfl | hx
    · exact k1 _ (List.mem_cons_self ..)
    · exact k2 x hx
theorem rows0_zero (W E : List Int) : ∀ (C : List (List Int)) (i : Int), (∀ x ∈ W, x ∈ E) → (ZeroR W (rows0 E i C) ↔ ∀ c ∈ C, parI W c = false)
  | [], i, _ => by simp [rows0, ZeroR]
  | c :: cs, i, h => by
    have e : parI W (c.filter fun x => hasI x E) = parI W c := parI_congr W fun x hx => by
      rw [hasI_filter, hasI_iff.mpr (h x hx), Bool.and_true]
    have ih := rows0_zero W E cs (i + 1) h
    unfold ZeroR at ih ⊢
    simp only [rows0, List.mem_cons, forall_eq_or_imp, e]
    rw [ih]
theorem rows0_sub (E : List Int) : ∀ (C : List (List Int)) (i : Int), ∀ r ∈ rows0 E i C, ∀ x ∈ r.1, x ∈ E
  | [], i, r, h => by cases h
  | c :: cs, i, r, h => by
    rcases List.mem_cons.mp h with rfl | h
    · intro x hx
      exact hasI_iff.mp (List.mem_filter.mp hx).2
    · exact rows0_sub E cs (i + 1) r h
/-- the whole elimination -/
theorem done_ok (C : List (List Int)) (E : List Int) : ∃ dp : List (Row × Int), dp.map (·.1) = doneR C E ∧ (∀ d ∈ dp, hasI d.2 d.1.1 = true) ∧ (dp.Pairwise fun a b => hasI a.2 b.1.1 = false ∧ hasI b.2 a.1.1 = false) ∧ (∀ d ∈ dp, d.2 ∈ E) ∧ (∀ r ∈ doneR C E, ∀ x ∈ r.1, x ∈ E) ∧
    ∀ W : List Int, (∀ x ∈ W, x ∈ E) → (ZeroR W (doneR C E) ↔ ∀ c ∈ C, parI W c = false) := by
  have O : OkR E [] (rows0 E 0 C, []) [] := ⟨rows0_sub E C 0, fun r h => (by cases h), fun r _ p h => (by cases h), rfl, fun d h => (by cases h), .nil, fun d h => (by cases h), fun d h => (by cases h)⟩
  obtain ⟨G, dp, O2, _, k⟩ := OkR.red E [] O fun x h => h
  refine ⟨dp, O2.dn, O2.own, O2.pw, O2.inU, O2.sub2, fun W hW => ?_⟩
  have e := red_zero W E (rows0 E 0 C, [])
  have z1 : ZeroR W (redR E (rows0 E 0 C, [])).1 := fun r hr => parI_none W _ fun x hx => O2.gone r hr x (k x (hW x hx))
  have z2 : ZeroR W ([] : List Row) := fun r hr => by cases hr
  rw [← rows0_zero W E C 0 hW]
  constructor
  · intro h
    exact (e.mp ⟨z1, h⟩).1
  · intro h
    exact (e.mpr ⟨h, z2⟩).2
end SL
/-! Sem41: what elimination by sums tells: sums for each place, or a set that hides. -/
namespace SL
open PySem L2
theorem pw_all {α : Type} {R : α → α → Prop} (sy : ∀ a b, R a b → R b a) : ∀ {l : List α}, l.Pairwise R → ∀ a ∈ l, ∀ b ∈ l, a = b ∨ R a b
  | [], _, a, h, _, _ => by cases h
  | x :: l, h, a, ha, b, hb => by
    have h := List.pairwise_cons.mp h
    rcases List.mem_cons.mp ha with ea | ha2
    · rcases List.mem_cons.mp hb with eb | hb2
      · exact .inl (ea.trans eb.symm)
      · exact .inr (ea ▸ h.1 b hb2)
    · rcases List.mem_cons.mp hb with eb | hb2
      · exact .inr (eb ▸ sy _ _ (h.1 a ha2))
      · exact pw_all sy h.2 a ha2 b hb2
abbrev ApR (a b : Row × Int) : Prop := hasI a.2 b.1.1 = false ∧ hasI b.2 a.1.1 = false
theorem piv_nodup {dp : List (Row × Int)} (own : ∀ d ∈ dp, hasI d.2 d.1.1 = true) (pw : dp.Pairwise ApR) : (dp.map (·.2)).Nodup := by
  refine List.pairwise_map.mpr (pw.imp_of_mem fun {a b} ha hb h e => ?_)
  have := own a ha
  rw [e, h.2] at this
  cases this
theorem done_le (C : List (List Int)) (E : List Int) : (doneR C E).length ≤ E.length := by
  obtain ⟨dp, h1, h2, h3, h4, h5, h6⟩ := done_ok C E
  rw [← h1, List.length_map, ← List.length_map (f := fun d : Row × Int => d.2)]
  refine len_of_sub (piv_nodup h2 h3) fun x hx => ?_
  obtain ⟨d, hd, rfl⟩ := List.mem_map.mp hx
  exact h4 d hd
theorem sums_ok {C : List (List Int)} {E : List Int} (nd : E.Nodup) (hl : (doneR C E).length = E.length) {W : List Int} (hW : W.Nodup) (hs : ∀ x ∈ W, x ∈ E) (hz : ∀ c ∈ C, parI W c = false) : W = [] := by
  obtain ⟨dp, h1, h2, h3, h4, h5, h6⟩ := done_ok C E
  have hlen : E.length ≤ (dp.map (·.2)).length := by
    rw [List.length_map, ← List.length_map (f := fun d : Row × Int => d.1), h1, hl]; exact Nat.le_refl _
  have pn := piv_nodup h2 h3
  have psub : ∀ x ∈ dp.map (·.2), x ∈ E := fun x hx => by
    obtain ⟨d, hd, rfl⟩ := List.mem_map.mp hx
    exact h4 d hd
  have all := sub_of_len pn psub hlen
  have Z := (h6 W hs).mpr hz
  cases W with
  | nil => rfl
  | cons x W' =>
    exfalso
    obtain ⟨d, hd, rfl⟩ := List.mem_map.mp (all x (hs x (List.mem_cons_self ..)))
    have hm : d.1 ∈ doneR C E := by rw [← h1]; exact List.mem_map.mpr ⟨d, hd, rfl⟩
    have z := Z d.1 hm
    have one := parI_one hW (List.mem_cons_self ..) (S := d.1.1) (fun y hy k => by
      obtain ⟨e, he, rfl⟩ := List.mem_map.mp (all y (hs y hy))
      rcases pw_all (R := ApR) (fun a b h => ⟨h.2, h.1⟩) h3 e he d hd with q | q
      · rw [q]
      · rw [q.1] at k; cases k) (h2 d hd)
    rw [one] at z
    cases z
theorem filt_one {α : Type} {p : α → Bool} {l1 l2 : List α} {a : α} (h : ((l1 ++ a :: l2).filter p).length = 1) (ha : p a = true) : ∀ b ∈ l1 ++ l2, p b = false := by
  rw [List.filter_append, List.filter_cons_of_pos ha, List.length_append, List.length_cons] at h
  have h1 : (l1.filter p) = [] := List.eq_nil_of_length_eq_zero (by omega)
  have h2 : (l2.filter p) = [] := List.eq_nil_of_length_eq_zero (by omega)
  intro b hb
  cases e : p b with
  | false => rfl
  | true =>
    exfalso
    rcases List.mem_append.mp hb with hb | hb
    · have : b ∈ l1.filter p := List.mem_filter.mpr ⟨hb, e⟩
      rw [h1] at this; cases this
    · have : b ∈ l2.filter p := List.mem_filter.mpr ⟨hb, e⟩
      rw [h2] at this; cases this
/-- each row that is left has a place that no other one has -/
theorem lead_ex (C : List (List Int)) (E : List Int) : ∀ r ∈ doneR C E, ∃ x ∈ E, hasI x r.1 = true ∧ ((doneR C E).filter fun o => hasI x o.1).length = 1 := by
  obtain ⟨dp, h1, h2, h3, h4, h5, h6⟩ := done_ok C E
  intro r hr
  rw [← h1] at hr ⊢
  obtain ⟨d, hd, rfl⟩ := List.mem_map.mp hr
  refine ⟨d.2, h4 d hd, h2 d hd, ?_⟩
  obtain ⟨l1, l2, e⟩ := List.append_of_mem hd
  rw [e] at h3 ⊢
  have h3' := List.pairwise_append.mp h3
  have k1 : (l1.map (·.1)).filter (fun o : Row => hasI d.2 o.1) = [] := by
    refine List.filter_eq_nil_iff.mpr fun o ho => ?_
    obtain ⟨b, hb, rfl⟩ := List.mem_map.mp ho
    have := (h3'.2.2 b hb d (List.mem_cons_self ..)).2
    rw [this]; simp
  have k2 : (l2.map (·.1)).filter (fun o : Row => hasI d.2 o.1) = [] := by
    refine List.filter_eq_nil_iff.mpr fun o ho => ?_
    obtain ⟨b, hb, rfl⟩ := List.mem_map.mp ho
    have := ((List.pairwise_cons.mp h3'.2.1).1 b hb).1
    rw [this]; simp
  rw [List.map_append, List.map_cons, List.filter_append, List.filter_cons_of_pos (by exact h2 d hd), k1, k2]
  rfl
theorem free_ex {C : List (List Int)} {E : List Int} (nd : E.Nodup) (hl : (doneR C E).length ≠ E.length) {L : List Int} (h : L.length = (doneR C E).length) : ∃ x ∈ E, x ∉ L := by
  by_cases q : ∃ x ∈ E, x ∉ L
  · exact q
  · exfalso
    have := len_of_sub (A := E) (B := L) nd fun x hx => by
      by_cases k : x ∈ L
      · exact k
      · exact absurd ⟨x, hx, k⟩ q
    have := done_le C E
    omega
def wordR (free : Int) (q : List (Row × Int)) : List Int := free :: (q.filter fun a => hasI free a.1.1).map (·.2)
theorem word_par {f : Int} {q : List (Row × Int)} {l1 l2 : List (Row × Int)} {b : Row × Int} (e : q = l1 ++ b :: l2) (own : hasI b.2 b.1.1 = true) (h : ∀ a ∈ l1 ++ l2, hasI a.2 b.1.1 = false) : parI (wordR f q) b.1.1 = false := by
  subst e
  have k1 : parI ((l1.filter fun a => hasI f a.1.1).map (·.2)) b.1.1 = false := parI_none _ _ fun x hx => by
    obtain ⟨a, ha, rfl⟩ := List.mem_map.mp hx
    exact h a (List.mem_append_left _ (List.mem_filter.mp ha).1)
  have k2 : parI ((l2.filter fun a => hasI f a.1.1).map (·.2)) b.1.1 = false := parI_none _ _ fun x hx => by
    obtain ⟨a, ha, rfl⟩ := List.mem_map.mp hx
    exact h a (List.mem_append_right _ (List.mem_filter.mp ha).1)
  unfold wordR
  rw [List.filter_append, List.map_append]
  simp only [parI]
  rw [parI_append, k1]
  cases e : hasI f b.1.1 with
  | true =>
    rw [List.filter_cons_of_pos (by exact e), List.map_cons]
    simp only [parI]
    rw [own, k2]; rfl
  | false =>
    rw [List.filter_cons_of_neg (by rw [e]; simp), k2]; rfl
theorem word_ok {C : List (List Int)} {E : List Int} {q : List (Row × Int)} (hq : q.map (·.1) = doneR C E) (hl : ∀ a ∈ q, hasI a.2 a.1.1 = true ∧ ((doneR C E).filter fun o => hasI a.2 o.1).length = 1 ∧ a.2 ∈ E)
    {f : Int} (hf : f ∈ E) (hn : f ∉ q.map (·.2)) : (∀ x ∈ wordR f q, x ∈ E) ∧ (wordR f q).Nodup ∧ ∀ c ∈ C, parI (wordR f q) c = false := by
  obtain ⟨dp, h1, h2, h3, h4, h5, h6⟩ := done_ok C E
  have U : ∀ l1 a l2, q = l1 ++ a :: l2 → ∀ b ∈ l1 ++ l2, hasI a.2 b.1.1 = false := fun l1 a l2 e b hb => by
    have ha : a ∈ q := by rw [e]; simp
    have hb' : b.1 ∈ l1.map (·.1) ++ l2.map (·.1) := by
      rw [← List.map_append]; exact List.mem_map.mpr ⟨b, hb, rfl⟩
    have o := (hl a ha).2.1
    rw [← hq, e, List.map_append, List.map_cons] at o
    exact filt_one (p := fun o : Row => hasI a.2 o.1) o (hl a ha).1 b.1 hb'
  have sub : ∀ x ∈ wordR f q, x ∈ E := fun x hx => by
    rcases List.mem_cons.mp hx with rfl | hx
    · exact hf
    · obtain ⟨a, ha, rfl⟩ := List.mem_map.mp hx
      exact (hl a (List.mem_filter.mp ha).1).2.2
  refine ⟨sub, ?_, ?_⟩
  · have nd : (q.map (·.2)).Nodup := by
      have : ∀ l1 l2 : List (Row × Int), q = l1 ++ l2 → (l2.map (·.2)).Nodup := by
        intro l1 l2
        induction l2 generalizing l1 with
        | nil => intro _; exact List.nodup_nil
        | cons a l2 ih =>
          intro e
          refine List.nodup_cons.mpr ⟨fun h => ?_, ih (l1 ++ [a]) (by rw [e]; simp)⟩
          obtain ⟨b, hb, eb⟩ := List.mem_map.mp h
          have u := U l1 a l2 e b (List.mem_append_right _ hb)
          have hbq : b ∈ q := by rw [e]; simp [hb]
          have ob := (hl b hbq).1
          rw [eb, u] at ob
          cases ob
      exact this [] q rfl
    refine List.nodup_cons.mpr ⟨fun h => hn ?_, ?_⟩
    · obtain ⟨a, ha, e⟩ := List.mem_map.mp h
      exact List.mem_map.mpr ⟨a, (List.mem_filter.mp ha).1, e⟩
    · exact (List.filter_sublist.map _).nodup nd
  · rw [← h6 _ sub]
    intro r hr
    rw [← hq] at hr
    obtain ⟨b, hb, rfl⟩ := List.mem_map.mp hr
    obtain ⟨l1, l2, e⟩ := List.append_of_mem hb
    refine word_par e (hl b hb).1 fun a ha => ?_
    rcases List.mem_append.mp ha with ha | ha
    · obtain ⟨m1, m2, e1⟩ := List.append_of_mem ha
      exact U m1 a (m2 ++ b :: l2) (by rw [e, e1]; simp) b (by simp)
    · obtain ⟨m1, m2, e1⟩ := List.append_of_mem ha
      exact U (l1 ++ b :: m1) a m2 (by rw [e, e1]; simp) b (by simp)
end SL
/-! Sem42: plain laws: tuples of ints, pairs of such, comprehensions with a test. -/
namespace SL
open PySem L2
abbrev ti (xs : List Int) : D := .tup (xs.map D.int)
theorem intsOf_ints : ∀ xs : List Int, intsOf (xs.map D.int) = some xs
  | [] => rfl
  | x :: xs => by simp only [List.map_cons, intsOf, intsOf_ints xs]
theorem okds_ints (n : Nat) : ∀ xs : List Int, D.okds n (xs.map D.int) = true
  | [] => by simp [D.okds]
  | x :: xs => by simp only [List.map_cons, D.okds, D.okd, okds_ints n xs, Bool.and_self]
theorem okd_ti (n : Nat) (xs : List Int) : (ti xs).okd (n + 1) = true := by simp only [ti, D.okd]; exact okds_ints n xs
theorem inDs_ints (x : Int) : ∀ ys : List Int, inDs (.int x) (ys.map D.int) = hasI x ys
  | [] => rfl
  | y :: ys => by simp only [List.map_cons, inDs, eqD, hasI, inDs_ints x ys]
theorem gIn_ti (x : Int) (ys : List Int) : gIn (.int x) (ti ys) = some (.bl (hasI x ys)) := by
  simp only [gIn, items, ti, D.okd, okds_ints, inDs_ints, Bool.and_self, if_true]
theorem gIn_tl (x : Int) (ys : List Int) : gIn (.int x) (.lst (ys.map D.int)) = some (.bl (hasI x ys)) := by
  simp only [gIn, items, D.okd, okds_ints, inDs_ints, Bool.and_self, if_true]
theorem gNotIn_ti (x : Int) (ys : List Int) : gNotIn (.int x) (ti ys) = some (.bl (!hasI x ys)) := by
  simp only [gNotIn, items, ti, D.okd, okds_ints, inDs_ints, Bool.and_self, if_true]
theorem gNotIn_tl (x : Int) (ys : List Int) : gNotIn (.int x) (.lst (ys.map D.int)) = some (.bl (!hasI x ys)) := by
  simp only [gNotIn, items, D.okd, okds_ints, inDs_ints, Bool.and_self, if_true]
theorem insD_ints (x : Int) : ∀ ys : List Int, insD (.int x) (ys.map D.int) = (insI x ys).map D.int
  | [] => rfl
  | y :: ys => by
    simp only [List.map_cons, insD, insI]
    by_cases h : y < x
    · rw [if_pos (show ltD (.int y) (.int x) = true from decide_eq_true h), if_pos h, insD_ints x ys]; rfl
    · rw [if_neg (show ¬ ltD (.int y) (.int x) = true from fun k => h (of_decide_eq_true (show decide (y < x) = true from k))), if_neg h]; rfl
theorem sortD_ints : ∀ xs : List Int, sortD (xs.map D.int) = (sortI xs).map D.int
  | [] => rfl
  | x :: xs => by simp only [List.map_cons, sortD, sortI, sortD_ints xs, insD_ints]
theorem homAll_ints : ∀ xs : List Int, homAll .int (xs.map D.int) = true
  | [] => rfl
  | x :: xs => by simp only [List.map_cons, homAll, homD, homAll_ints xs, Bool.and_self]
theorem sortOk_ints (xs : List Int) : sortOk (xs.map D.int) = true := by
  unfold sortOk
  rw [okds_ints]
  cases xs with
  | nil => rfl
  | cons x xs =>
    simp only [List.map_cons, shD]
    rw [show D.int x :: List.map D.int xs = (x :: xs).map D.int from rfl, homAll_ints]
    rfl
theorem v_fSortI {S : Type} {fa : Fn S D} {env : Env} {s s1 : S} {xs : List Int} (h : fa env s = some (.lst (xs.map D.int), s1)) : fSortD fa env s = some ((sortI xs).map D.int, s1) := by
  simp only [fSortD, h, sortOk_ints, if_true, sortD_ints]
theorem v_fCatL {S : Type} {fa fb : Fn S D} {env : Env} {s s1 s2 : S} {xs ys : List D} (h : fa env s = some (.lst xs, s1)) (k : fb env s1 = some (.lst ys, s2)) (hl : xs.length + ys.length ≤ 100000) : fCatL fa fb env s = some (xs ++ ys, s2) := by
  simp only [fCatL, h, k, if_pos hl]
section
variable {S : Type} {ι : Type}
theorem lcRun_if {b : Bd} {ft : Fn S Bool} {fe : Fn S D} {env : Env} {s : S} (f h : ι → D) (t : ι → Bool) : ∀ l : List ι, (∀ i ∈ l, ∃ env1, b env (f i) = some env1 ∧ ft env1 s = some (t i, s) ∧ (t i = true → fe env1 s = some (h i, s))) → lcRun b ft fe env (l.map f) s = some ((l.filter t).map h, s)
  | [], _ => rfl
  | i :: l, H => by
    obtain ⟨env1, h1, h2, h3⟩ := H i (List.mem_cons_self ..)
    have ih := lcRun_if f h t l fun j hj => H j (List.mem_cons_of_mem _ hj)
    cases e : t i with
    | true =>
      rw [e] at h2 h3
      simp only [List.map_cons, lcRun, h1, h2, h3 rfl, ih]
      rw [List.filter_cons_of_pos e]
      rfl
    | false =>
      rw [e] at h2
      simp only [List.map_cons, lcRun, h1, h2, ih]
      rw [List.filter_cons_of_neg (by rw [e]; simp)]
end
theorem truD_lst {xs : List D} (h : xs.length ≤ 100000) : truD (.lst xs) = some (!xs.isEmpty) := by simp only [truD, if_pos h]
theorem v_fTru {S : Type} {fa : Fn S D} {env : Env} {s s1 : S} {x : D} {b : Bool} (h : fa env s = some (x, s1)) (k : truD x = some b) : fTru fa env s = some (b, s1) := by simp only [fTru, h, k]
theorem gIx0 (d : D) (ds : List D) : gIx (.lst (d :: ds)) (.int 0) = some d := by
  simp [gIx, atD, ixD]
theorem gIxT0 (d : D) (ds : List D) : gIx (.tup (d :: ds)) (.int 0) = some d := by
  simp [gIx, atD, ixD]
theorem gIxT1 (c d : D) (ds : List D) : gIx (.tup (c :: d :: ds)) (.int 1) = some d := by
  have h : ixD (c :: d :: ds).length 1 = some 1 := by
    unfold ixD
    rw [if_pos (by decide), if_pos (by simp only [List.length_cons]; omega)]
    rfl
  show atD (c :: d :: ds) 1 = _
  unfold atD
  rw [h]
  rfl
/-! pairs of tuples of ints -/
abbrev rowD (r : Row) : D := .tup [ti r.1, ti r.2]
theorem eqDs_ints : ∀ xs ys : List Int, eqDs (xs.map D.int) (ys.map D.int) = decide (xs = ys)
  | [], [] => rfl
  | [], _ :: _ => by simp [eqDs]
  | _ :: _, [] => by simp [eqDs]
  | x :: xs, y :: ys => by
    simp only [List.map_cons, eqDs, eqD, eqDs_ints xs ys]
    by_cases h : x = y <;> simp [h]
theorem eqD_row (r t : Row) : eqD (rowD r) (rowD t) = (r == t) := by
  obtain ⟨a, b⟩ := r
  obtain ⟨c, d⟩ := t
  simp only [rowD, ti, eqD, eqDs, eqDs_ints, Bool.and_true]
  by_cases h1 : a = c <;> by_cases h2 : b = d <;> simp [h1, h2]
theorem okd_row (n : Nat) (r : Row) : (rowD r).okd (n + 2) = true := by
  simp only [rowD, D.okd, D.okds, okds_ints, Bool.and_self]
theorem gNe_row (r t : Row) : gNe (rowD r) (rowD t) = some (.bl (r != t)) := by
  show (if (rowD r).okd 60 && (rowD t).okd 60 then some (D.bl (!eqD (rowD r) (rowD t))) else none) = _
  rw [okd_row 58, okd_row 58, eqD_row]
  rfl
theorem gIx_row0 (r : Row) : gIx (rowD r) (.int 0) = some (ti r.1) := gIxT0 ..
theorem gIx_row1 (r : Row) : gIx (rowD r) (.int 1) = some (ti r.2) := gIxT1 ..
theorem homD_ti (xs : List Int) : homD (.many .int) (ti xs) = true := by
  simp only [ti, homD]; exact homAll_ints xs
theorem shD_ti (xs : List Int) : shD (ti xs) = .many .int := by
  cases xs with
  | nil => rfl
  | cons x xs =>
    simp only [ti, List.map_cons, shD, homAll_ints, if_true]
theorem homD_row (r : Row) : homD (.many (.many .int)) (rowD r) = true := by
  simp only [rowD, homD, homAll, Bool.and_true, homAll_ints]
theorem shD_row (r : Row) : shD (rowD r) = .many (.many .int) := by
  simp only [rowD, shD, shD_ti, homAll, homD_ti, Bool.and_self, if_true]
theorem homAll_rows : ∀ l : List Row, homAll (.many (.many .int)) (l.map rowD) = true
  | [] => rfl
  | r :: l => by
    simp only [List.map_cons, homAll, homAll_rows l, Bool.and_true]
    exact homD_row r
theorem okds_rows (n : Nat) : ∀ l : List Row, D.okds (n + 2) (l.map rowD) = true
  | [] => by simp [D.okds]
  | r :: l => by
    simp only [List.map_cons, D.okds, okds_rows n l, Bool.and_true]
    exact okd_row n r
theorem sortOk_rows (l : List Row) : sortOk (l.map rowD) = true := by
  unfold sortOk
  rw [okds_rows 38]
  cases l with
  | nil => rfl
  | cons r l =>
    simp only [List.map_cons]
    have e : homAll (shD (rowD r)) (rowD r :: List.map rowD l) = true := by
      rw [shD_row]; exact homAll_rows (r :: l)
    rw [e]
    simp only [Bool.true_and, List.all_cons, List.all_map]
    exact List.all_eq_true.mpr fun x _ => rfl
theorem insD_rows (r : Row) : ∀ l : List Row, ∃ l' : List Row, insD (rowD r) (l.map rowD) = l'.map rowD ∧ l'.Perm (r :: l)
  | [] => ⟨[r], rfl, .refl _⟩
  | t :: l => by
    simp only [List.map_cons, insD]
    obtain ⟨l', e, p⟩ := insD_rows r l
    split
    · exact ⟨t :: l', by rw [e]; rfl, (p.cons t).trans (.swap ..)⟩
    · exact ⟨r :: t :: l, rfl, .refl _⟩
theorem sortD_rows : ∀ l : List Row, ∃ l' : List Row, sortD (l.map rowD) = l'.map rowD ∧ l'.Perm l
  | [] => ⟨[], rfl, .refl _⟩
  | r :: l => by
    obtain ⟨l1, e1, p1⟩ := sortD_rows l
    obtain ⟨l2, e2, p2⟩ := insD_rows r l1
    exact ⟨l2, by simp only [List.map_cons, sortD, e1, e2], p2.trans (p1.cons r)⟩
theorem v_fSortR {S : Type} {fa : Fn S D} {env : Env} {s s1 : S} {l : List Row} (h : fa env s = some (.lst (l.map rowD), s1)) : ∃ l' : List Row, fSortD fa env s = some (l'.map rowD, s1) ∧ l'.Perm l := by
  obtain ⟨l', e, p⟩ := sortD_rows l
  exact ⟨l', by simp only [fSortD, h, sortOk_rows, if_true, e], p⟩
theorem minI_mem : ∀ (ys : List Int) (x : Int), minI x ys ∈ x :: ys
  | [], x => by simp [minI]
  | y :: ys, x => by
    unfold minI
    have := minI_mem ys (if y < x then y else x)
    rcases List.mem_cons.mp this with h | h
    · rw [h]
      split
      · exact List.mem_cons_of_mem _ (List.mem_cons_self ..)
      · exact List.mem_cons_self ..
    · exact List.mem_cons_of_mem _ (List.mem_cons_of_mem _ h)
theorem gMin1_mem {xs : List Int} (h : xs ≠ []) : ∃ m ∈ xs, gMin1 [.lst (xs.map D.int)] = some (.int m) := by
  cases xs with
  | nil => exact absurd rfl h
  | cons x xs => exact ⟨minI x xs, minI_mem xs x, by simp only [gMin1, gMM, items, intsOf_ints]⟩
theorem gLen_lst (xs : List D) : gLen [.lst xs] = some (.int xs.length) := rfl
theorem gLen_tup (xs : List D) : gLen [.tup xs] = some (.int xs.length) := rfl
theorem gEq_int (i j : Int) : gEq (.int i) (.int j) = some (.bl (i == j)) := rfl
end SL
/-! Sem43: plain laws: more rules; ascending places. -/
namespace SL
open PySem L2
section
variable {S : Type} {env e1 e2 : Env} {s s1 s2 s3 : S} {fa fb fc fe : Fn S D} {ft fu : Fn S Bool} {f g : Stm S} {x y z d : D} {xs ds : List D}
theorem p_fOrF {r : Option (Bool × S)} (h : ft env s = some (false, s1)) (k : fu env s1 = r) : fOr ft fu env s = r := by simp only [fOr, h, k]
theorem p_fOrT (h : ft env s = some (true, s1)) : fOr ft fu env s = some (true, s1) := by simp only [fOr, h]
theorem p_fAndF (h : ft env s = some (false, s1)) : fAnd ft fu env s = some (false, s1) := by simp only [fAnd, h]
theorem p_fAndT {r : Option (Bool × S)} (h : ft env s = some (true, s1)) (k : fu env s1 = r) : fAnd ft fu env s = r := by simp only [fAnd, h, k]
theorem p_fNot {b : Bool} (h : ft env s = some (b, s1)) : fNot ft env s = some (!b, s1) := by simp only [fNot, h]
theorem p_fAndVF (h : fa env s = some (.bl false, s1)) : fAndV fa fb env s = some (.bl false, s1) := by simp only [fAndV, h]
theorem p_fAndVT {r : Option (D × S)} (h : fa env s = some (.bl true, s1)) (k : fb env s1 = r) : fAndV fa fb env s = r := by simp only [fAndV, h, k]
theorem p_fOrVF {r : Option (D × S)} (h : fa env s = some (.bl false, s1)) (k : fb env s1 = r) : fOrV fa fb env s = r := by simp only [fOrV, h, k]
theorem p_fOrVT (h : fa env s = some (.bl true, s1)) : fOrV fa fb env s = some (.bl true, s1) := by simp only [fOrV, h]
theorem p_fChain {g h : D → D → Option D} (ha : fa env s = some (x, s1)) (hb : fb env s1 = some (y, s2)) (hg : g x y = some (.bl true)) (hc : fc env s2 = some (z, s3)) (hh : h y z = some d) : fChain g h fa fb fc env s = some (d, s3) := by simp only [fChain, ha, hb, hg, hc, hh]
theorem p_fChainF {g h : D → D → Option D} (ha : fa env s = some (x, s1)) (hb : fb env s1 = some (y, s2)) (hg : g x y = some (.bl false)) : fChain g h fa fb fc env s = some (.bl false, s2) := by simp only [fChain, ha, hb, hg]
theorem p_sDrop (h : fe env s = some (x, s1)) : sDrop fe env s = some (.nx env, s1) := by simp only [sDrop, h]
theorem p_runPn {n : Nat} {f : Stm Unit} (ho : ds.any D.isOwn = false) (h : f (startE n ds) () = some (.nx e1, ())) : runP n f ds = some .non := by
  simp only [runP, runS, ho, h, outR]
  rfl
theorem p_sNext : (sNext : Stm S) env s = some (.nx env, s) := rfl
theorem p_fVar {i : Nat} (h : env[i]? = some (some x)) (k : x.isOwn = false) : (fVar i : Fn S D) env s = some (x, s) := by
  unfold fVar
  cases x <;> first | (simp only [h]; done) | cases k
theorem p_freeze {j : Nat} {r : Option (Out × S)} (h : env[j]? = some (some (.own ds))) (k : f (env.set j (some (.lst ds))) s = r) : freeze j f env s = r := by simp only [freeze, h]; exact k
theorem p_freezeN {j : Nat} {r : Option (Out × S)} (h : ∀ ds, env[j]? ≠ some (some (.own ds))) (k : f env s = r) : freeze j f env s = r := by
  unfold freeze
  split
  · rename_i e; exact absurd e (h _)
  · exact k
theorem p_sOwn {i : Nat} {fl : Fn S (List D)} (h : fl env s = some (ds, s1)) : sOwn i fl env s = some (.nx (env.set i (some (.own ds))), s1) := by simp only [sOwn, h]
theorem p_sApp {i : Nat} (h : fe env s = some (d, s1)) (k : env[i]? = some (some (.own ds))) (hl : ds.length < 100000) : sApp i fe env s = some (.nx (env.set i (some (.own (ds ++ [d])))), s1) := by simp only [sApp, h, k, if_pos hl]
theorem p_sRetO {j : Nat} (h : env[j]? = some (some (.own ds))) : sRetO j env s = some (.rt (.lst ds), s) := by simp only [sRetO, h]
theorem p_fSl {l u : Option Int} {fl fh : Fn S (Option Int)} (h : fa env s = some (x, s1)) (k : fl env s1 = some (l, s2)) (k2 : fh env s2 = some (u, s3)) (hg : gSl x l u = some d) : fSl fa fl fh env s = some (d, s3) := by simp only [fSl, h, k, k2, hg]
/-- a walk that keeps I -/
theorem forRun_st {ι σ : Type} {b : Bd} (g : ι → D) (st : σ → ι → σ) (I : σ → Env → Prop) : ∀ (l : List ι) (x : σ) (env : Env), (∀ i ∈ l, ∀ x env, I x env → ∃ e e1, b env (g i) = some e ∧ f e s = some (.nx e1, s) ∧ I (st x i) e1) → I x env → ∃ e1, forRun b f (l.map g) env s = some (.nx e1, s) ∧ I (l.foldl st x) e1
  | [], x, env, _, h => ⟨env, rfl, h⟩
  | i :: l, x, env, H, h => by
    obtain ⟨e, e1, h1, h2, h3⟩ := H i (List.mem_cons_self ..) x env h
    obtain ⟨e2, k1, k2⟩ := forRun_st g st I l (st x i) e1 (fun j hj => H j (List.mem_cons_of_mem _ hj)) h3
    exact ⟨e2, by simp only [List.map_cons, forRun, h1, h2, k1], k2⟩
end
theorem cut_tail (xs : List D) : cutD xs (some 1) none = xs.drop 1 := by
  cases xs with
  | nil => rfl
  | cons x xs =>
    have h1 : HT.sIx (x :: xs).length 0 (some 1) = 1 := by
      simp [HT.sIx]
    have h2 : HT.sIx (x :: xs).length (x :: xs).length none = (x :: xs).length := rfl
    unfold cutD
    rw [h1, h2]
    simp
theorem zipD_ints : ∀ xs ys : List Int, zipD (xs.map D.int) (ys.map D.int) = (xs.zip ys).map fun p => .tup [.int p.1, .int p.2]
  | [], ys => by simp [zipD]
  | x :: xs, [] => by simp [zipD]
  | x :: xs, y :: ys => by simp [zipD, zipD_ints xs ys]
/-- ascending places below n -/
def ascI : List Int → Bool
  | x :: y :: r => decide (x < y) && ascI (y :: r)
  | _ => true
def PlI (n : Int) (xs : List Int) : Prop := (∀ x ∈ xs, 0 ≤ x ∧ x < n) ∧ ascI xs = true ∧ xs.length ≤ 1000
theorem asc_zip : ∀ xs : List Int, ascI xs = true → ∀ p ∈ xs.zip (xs.drop 1), p.1 < p.2
  | [], _, p, h => by simp at h
  | [x], _, p, h => by simp at h
  | x :: y :: r, h, p, hp => by
    simp only [ascI, Bool.and_eq_true, decide_eq_true_eq] at h
    simp only [List.drop_succ_cons, List.drop_zero, List.zip_cons_cons, List.mem_cons] at hp
    rcases hp with rfl | hp
    · exact h.1
    · exact asc_zip (y :: r) h.2 p (by simpa using hp)
theorem asc_low : ∀ (xs : List Int) (x : Int), ascI (x :: xs) = true → ∀ y ∈ xs, x < y
  | [], _, _, y, h => by cases h
  | z :: r, x, h, y, hy => by
    simp only [ascI, Bool.and_eq_true, decide_eq_true_eq] at h
    rcases List.mem_cons.mp hy with rfl | hy
    · exact h.1
    · have := asc_low r z h.2 y hy; omega
theorem asc_tail {x : Int} {xs : List Int} (h : ascI (x :: xs) = true) : ascI xs = true := by
  cases xs with
  | nil => rfl
  | cons y r =>
    simp only [ascI, Bool.and_eq_true] at h
    exact h.2
theorem asc_nodup : ∀ xs : List Int, ascI xs = true → xs.Nodup
  | [], _ => List.nodup_nil
  | x :: xs, h => List.nodup_cons.mpr ⟨fun k => by have := asc_low xs x h x k; omega, asc_nodup xs (asc_tail h)⟩
theorem asc_of_pw : ∀ {xs : List Int}, xs.Pairwise (· < ·) → ascI xs = true
  | [], _ => rfl
  | [x], _ => rfl
  | x :: y :: r, h => by
    have h := List.pairwise_cons.mp h
    simp only [ascI, Bool.and_eq_true, decide_eq_true_eq]
    exact ⟨h.1 y (List.mem_cons_self ..), asc_of_pw h.2⟩
theorem sumI_nodup {a b : List Int} (ha : a.Nodup) (hb : b.Nodup) : (sumI a b).Nodup := by
  unfold sumI
  refine (sortI_perm _).nodup_iff.mpr (List.nodup_append.mpr ⟨(List.filter_sublist).nodup ha, (List.filter_sublist).nodup hb, fun x hx y hy => ?_⟩)
  rintro rfl
  have h1 := (List.mem_filter.mp hx).2
  have h2 := hasI_iff.mpr (List.mem_filter.mp hy).1
  rw [h2] at h1
  cases h1
/-- lengths of what stands in rows -/
structure NdR (U V : List Int) (r : Row) : Prop where
  n1 : r.1.Nodup
  s1 : ∀ x ∈ r.1, x ∈ U
  n2 : r.2.Nodup
  s2 : ∀ x ∈ r.2, x ∈ V
theorem NdR.len {U V : List Int} {r : Row} (h : NdR U V r) : r.1.length ≤ U.length ∧ r.2.length ≤ V.length := ⟨len_of_sub h.n1 h.s1, len_of_sub h.n2 h.s2⟩
theorem NdR.up {U V : List Int} {p : Int} {top r : Row} (ht : NdR U V top) (h : NdR U V r) : NdR U V (upR p top r) := by
  unfold upR
  split
  · exact ⟨sumI_nodup h.n1 ht.n1, fun x hx => (mem_sum hx).elim (h.s1 x) (ht.s1 x), sumI_nodup h.n2 ht.n2, fun x hx => (mem_sum hx).elim (h.s2 x) (ht.s2 x)⟩
  · exact h
structure NdS (U V : List Int) (m : Nat) (s : List Row × List Row) : Prop where
  a : ∀ r ∈ s.1, NdR U V r
  b : ∀ r ∈ s.2, NdR U V r
  la : s.1.length + s.2.length ≤ m
theorem NdS.stp {U V : List Int} {m : Nat} {s : List Row × List Row} (h : NdS U V m s) (p : Int) : NdS U V m (stpR p s) := by
  unfold stpR
  split
  · exact h
  · rename_i top l' e
    obtain ⟨tm, tp⟩ := top_mem e
    refine ⟨fun r hr => ?_, fun r hr => ?_, ?_⟩
    · obtain ⟨r', hr', rfl⟩ := List.mem_map.mp hr
      exact (h.a top tm).up (h.a r' (List.mem_filter.mp hr').1)
    · rcases List.mem_append.mp hr with hr | hr
      · obtain ⟨r', hr', rfl⟩ := List.mem_map.mp hr
        exact (h.a top tm).up (h.b r' hr')
      · rw [List.mem_singleton.mp hr]; exact h.a top tm
    · have hlt : (s.1.filter fun r => r != top).length < s.1.length := by
        refine List.length_filter_lt_length_iff_exists.mpr ⟨top, tm, by simp⟩
      have := h.la
      simp only [List.length_map, List.length_append, List.length_cons, List.length_nil]
      omega
theorem red_fold : ∀ (E : List Int) (s : List Row × List Row), redR E s = E.foldl (fun s p => stpR p s) s
  | [], _ => rfl
  | p :: E, s => red_fold E (stpR p s)
theorem NdS.red {U V : List Int} {m : Nat} : ∀ (E : List Int) {s : List Row × List Row}, NdS U V m s → NdS U V m (redR E s)
  | [], _, h => h
  | p :: E, _, h => NdS.red E (h.stp p)
def numI : Int → Nat → List Int
  | _, 0 => []
  | i, n + 1 => i :: numI (i + 1) n
theorem numI_len : ∀ (n : Nat) (i : Int), (numI i n).length = n
  | 0, _ => rfl
  | n + 1, i => by simp [numI, numI_len n]
theorem rows0_nd (E : List Int) : ∀ (C : List (List Int)) (i : Int), (∀ c ∈ C, c.Nodup) → ∀ r ∈ rows0 E i C, NdR E (numI i C.length) r
  | [], _, _, r, h => by cases h
  | c :: cs, i, hc, r, h => by
    rcases List.mem_cons.mp h with rfl | h
    · refine ⟨(List.filter_sublist).nodup (hc c (List.mem_cons_self ..)), fun x hx => hasI_iff.mp (List.mem_filter.mp hx).2, by simp, fun x hx => ?_⟩
      rw [List.mem_singleton.mp hx]
      exact List.mem_cons_self ..
    · have := rows0_nd E cs (i + 1) (fun d hd => hc d (List.mem_cons_of_mem _ hd)) r h
      exact ⟨this.n1, this.s1, this.n2, fun x hx => List.mem_cons_of_mem _ (this.s2 x hx)⟩
theorem rows0_len (E : List Int) : ∀ (C : List (List Int)) (i : Int), (rows0 E i C).length = C.length
  | [], _ => rfl
  | c :: cs, i => by simp [rows0, rows0_len E cs]
end SL
/-! Sem44: graphs without circles, by names that are put together; in plain Lean. -/
namespace SL
section
variable (u v : Int → Nat)
/-- the xor of g at both ends of each edge of W -/
def endX (g : Nat → Bool) : List Int → Bool
  | [] => false
  | x :: W => (g (u x) ^^ g (v x)) ^^ endX g W
def CycF (f : Nat → Int) (W : List Int) : Prop := ∀ h : Int → Bool, endX u v (fun z => h (f z)) W = false
def mrgF (f : Nat → Int) (x y : Nat) : Nat → Int := fun z => if f z = f x then f y else f z
def forF : List Int → (Nat → Int) → Bool
  | [], _ => true
  | x :: E, f => if f (u x) = f (v x) then false else forF E (mrgF f (u x) (v x))
end
section
variable {u v : Int → Nat}
theorem endX_perm {g : Nat → Bool} {V W : List Int} (h : V.Perm W) : endX u v g V = endX u v g W := by
  induction h with
  | nil => rfl
  | cons x _ ih => simp only [endX, ih]
  | swap x y l => simp only [endX]; generalize (g (u y) ^^ g (v y)) = p; generalize (g (u x) ^^ g (v x)) = q; generalize endX u v g l = r; cases p <;> cases q <;> cases r <;> rfl
  | trans _ _ h1 h2 => exact h1.trans h2
theorem endX_congr {g h : Nat → Bool} (e : ∀ z, g z = h z) (W : List Int) : endX u v g W = endX u v h W := by
  rw [show g = h from funext e]
theorem endX_xor (g h : Nat → Bool) : ∀ W : List Int, endX u v (fun z => g z ^^ h z) W = (endX u v g W ^^ endX u v h W)
  | [] => rfl
  | x :: W => by
    simp only [endX, endX_xor g h W]
    cases g (u x) <;> cases g (v x) <;> cases h (u x) <;> cases h (v x) <;> cases endX u v g W <;> cases endX u v h W <;> rfl
theorem endX_and (b : Bool) (g : Nat → Bool) : ∀ W : List Int, endX u v (fun z => b && g z) W = (b && endX u v g W)
  | [] => by simp [endX]
  | x :: W => by
    simp only [endX, endX_and b g W]
    cases b <;> cases g (u x) <;> cases g (v x) <;> cases endX u v g W <;> rfl
theorem CycF.mrg {f : Nat → Int} {W : List Int} (h : CycF u v f W) (x y : Nat) : CycF u v (mrgF f x y) W := fun k => by
  have := h fun i => k (if i = f x then f y else i)
  rw [← this]
  refine endX_congr (fun z => ?_) W
  rfl
theorem CycF.perm {f : Nat → Int} {V W : List Int} (h : CycF u v f V) (p : V.Perm W) : CycF u v f W := fun k => by rw [← endX_perm p]; exact h k
theorem mrg_x (f : Nat → Int) (x y : Nat) : mrgF f x y x = f y := by simp [mrgF]
theorem mrg_y (f : Nat → Int) (x y : Nat) : mrgF f x y y = f y := by
  unfold mrgF
  split <;> rfl
/-- no circle in a forest -/
theorem for_true : ∀ (E : List Int) (f : Nat → Int) (W : List Int), forF u v E f = true → W.Nodup → (∀ x ∈ W, x ∈ E) → CycF u v f W → W = []
  | [], f, W, _, _, hs, _ => by
    cases W with
    | nil => rfl
    | cons x W => exact absurd (hs x (List.mem_cons_self ..)) (by simp)
  | x :: E, f, W, h, nd, hs, hc => by
    unfold forF at h
    split at h
    · cases h
    · rename_i hne
      by_cases hx : x ∈ W
      · exfalso
        have p : W.Perm (x :: W.erase x) := List.perm_cons_erase hx
        have nd2 := p.nodup_iff.mp nd
        have nd3 := List.nodup_cons.mp nd2
        have hc2 := hc.perm p
        have hc3 : CycF u v (mrgF f (u x) (v x)) (W.erase x) := fun k => by
          have := (hc2.mrg (u x) (v x)) k
          simp only [endX] at this
          rw [mrg_x, mrg_y, Bool.xor_self, Bool.false_xor] at this
          exact this
        have e := for_true E _ (W.erase x) h nd3.2 (fun y hy => by
          have h1 := hs y (List.mem_of_mem_erase hy)
          rcases List.mem_cons.mp h1 with rfl | h1
          · exact absurd hy nd3.1
          · exact h1) hc3
        rw [e] at hc2
        have := hc2 fun i => decide (i = f (u x))
        simp only [endX, Bool.xor_false] at this
        simp at this
        exact hne this.symm
      · exact for_true E _ W h nd (fun y hy => by
          rcases List.mem_cons.mp (hs y hy) with rfl | h1
          · exact absurd hy hx
          · exact h1) (hc.mrg _ _)
/-- a circle where it is no forest -/
theorem for_false : ∀ (E : List Int) (f : Nat → Int), E.Nodup → forF u v E f = false → ∃ W : List Int, W ≠ [] ∧ W.Nodup ∧ (∀ x ∈ W, x ∈ E) ∧ CycF u v f W
  | [], f, _, h => by cases h
  | x :: E, f, nd, h => by
    have nd2 := List.nodup_cons.mp nd
    unfold forF at h
    split at h
    · rename_i e
      exact ⟨[x], by simp, by simp, fun y hy => by rw [List.mem_singleton.mp hy]; exact List.mem_cons_self .., fun k => by simp only [endX]; rw [e, Bool.xor_self]; rfl⟩
    · rename_i hne
      obtain ⟨W, w1, w2, w3, w4⟩ := for_false E _ nd2.2 h
      have key : ∀ k : Int → Bool, endX u v (fun z => k (f z)) W = ((k (f (u x)) ^^ k (f (v x))) && endX u v (fun z => decide (f z = f (u x))) W) := fun k => by
        have a := w4 k
        have b : endX u v (fun z => k (f z)) W = endX u v (fun z => k (mrgF f (u x) (v x) z) ^^ ((k (f (u x)) ^^ k (f (v x))) && decide (f z = f (u x)))) W := endX_congr (fun z => by
          unfold mrgF
          by_cases q : f z = f (u x)
          · rw [if_pos q, decide_eq_true q, q]
            cases k (f (u x)) <;> cases k (f (v x)) <;> rfl
          · rw [if_neg q, decide_eq_false q, Bool.and_false, Bool.xor_false]) W
        rw [b, endX_xor, a, endX_and, Bool.false_xor]
      cases t : endX u v (fun z => decide (f z = f (u x))) W with
      | false =>
        exact ⟨W, w1, w2, fun y hy => List.mem_cons_of_mem _ (w3 y hy), fun k => by rw [key, t, Bool.and_false]⟩
      | true =>
        refine ⟨x :: W, by simp, List.nodup_cons.mpr ⟨fun q => nd2.1 (w3 x q), w2⟩, fun y hy => ?_, fun k => ?_⟩
        · rcases List.mem_cons.mp hy with rfl | hy
          · exact List.mem_cons_self ..
          · exact List.mem_cons_of_mem _ (w3 y hy)
        · simp only [endX]
          rw [key, t, Bool.and_true, Bool.xor_self]
theorem for_loop : ∀ (E : List Int) (f : Nat → Int), forF u v E f = true → ∀ e ∈ E, f (u e) ≠ f (v e)
  | [], _, _, e, h => by cases h
  | x :: E, f, h, e, he => by
    unfold forF at h
    split at h
    · cases h
    · rename_i hne
      rcases List.mem_cons.mp he with rfl | he
      · exact hne
      · intro q
        refine for_loop E _ h e he ?_
        unfold mrgF
        rw [q]
/-- a name at which just one edge ends -/
def touch (u v : Int → Nat) (f : Nat → Int) (k : Int) (x : Int) : Bool := decide (f (u x) = k) || decide (f (v x) = k)
theorem touch_iff {f : Nat → Int} {k x : Int} : touch u v f k x = true ↔ f (u x) = k ∨ f (v x) = k := by simp [touch]
theorem for_leaf : ∀ (E : List Int) (f : Nat → Int), E ≠ [] → forF u v E f = true → ∃ k, ∃ x ∈ E, touch u v f k x = true ∧ (E.filter (touch u v f k)) = [x]
  | [], _, h, _ => absurd rfl h
  | x :: E, f, _, h => by
    have h0 := h
    unfold forF at h
    split at h
    · cases h
    · rename_i hne
      cases E with
      | nil =>
        refine ⟨f (u x), x, List.mem_cons_self .., touch_iff.mpr (.inl rfl), ?_⟩
        rw [List.filter_cons_of_pos (touch_iff.mpr (.inl rfl))]
        rfl
      | cons y E' =>
        generalize hE : y :: E' = E at *
        obtain ⟨k, e, he, te, fe⟩ := for_leaf E (mrgF f (u x) (v x)) (by rw [← hE]; simp) h
        have lp := for_loop E _ h e he
        have te' := touch_iff.mp te
        by_cases kb : k = f (v x)
        · subst kb
          have one : ∀ z ∈ E, touch u v (mrgF f (u x) (v x)) (f (v x)) z = true → z = e := fun z hz t => by
            have : z ∈ E.filter (touch u v (mrgF f (u x) (v x)) (f (v x))) := List.mem_filter.mpr ⟨hz, t⟩
            rw [fe] at this
            exact List.mem_singleton.mp this
          have mB : ∀ z, mrgF f (u x) (v x) z = f (v x) ↔ (f z = f (u x) ∨ f z = f (v x)) := fun z => by
            unfold mrgF
            by_cases q : f z = f (u x)
            · simp [q]
            · simp [q]
          by_cases qa : touch u v f (f (u x)) e = true
          · -- e does not touch the class of v x
            have qb : touch u v f (f (v x)) e = false := by
              cases z : touch u v f (f (v x)) e with
              | false => rfl
              | true =>
                exfalso
                have a := touch_iff.mp qa
                have b := touch_iff.mp z
                refine lp ?_
                have key : mrgF f (u x) (v x) (u e) = f (v x) ∧ mrgF f (u x) (v x) (v e) = f (v x) := by
                  rcases a with a | a
                  · refine ⟨(mB _).mpr (.inl a), (mB _).mpr ?_⟩
                    rcases b with b | b
                    · exact absurd (a.symm.trans b) hne
                    · exact .inr b
                  · refine ⟨(mB _).mpr ?_, (mB _).mpr (.inl a)⟩
                    rcases b with b | b
                    · exact .inr b
                    · exact absurd (a.symm.trans b) hne
                rw [key.1, key.2]
            refine ⟨f (v x), x, List.mem_cons_self .., touch_iff.mpr (.inr rfl), ?_⟩
            rw [List.filter_cons_of_pos (touch_iff.mpr (.inr rfl)), show E.filter (touch u v f (f (v x))) = [] from List.filter_eq_nil_iff.mpr fun z hz t => ?_]
            have t1 := touch_iff.mp t
            have : z = e := one z hz (touch_iff.mpr (t1.imp (fun q => (mB _).mpr (.inr q)) fun q => (mB _).mpr (.inr q)))
            subst this
            rw [qb] at t
            cases t
          · refine ⟨f (u x), x, List.mem_cons_self .., touch_iff.mpr (.inl rfl), ?_⟩
            rw [List.filter_cons_of_pos (touch_iff.mpr (.inl rfl)), show E.filter (touch u v f (f (u x))) = [] from List.filter_eq_nil_iff.mpr fun z hz t => ?_]
            have t1 := touch_iff.mp t
            have : z = e := one z hz (touch_iff.mpr (t1.imp (fun q => (mB _).mpr (.inl q)) fun q => (mB _).mpr (.inl q)))
            subst this
            exact qa t
        · have ka : k ≠ f (u x) := fun q => by
            have nv : ∀ z, mrgF f (u x) (v x) z ≠ k := fun z => by
              unfold mrgF
              by_cases w : f z = f (u x)
              · rw [if_pos w]; exact fun z => kb z.symm
              · rw [if_neg w]; exact fun z => w (z.trans q)
            rcases te' with t | t
            · exact nv _ t
            · exact nv _ t
          have mK : ∀ z, mrgF f (u x) (v x) z = k ↔ f z = k := fun z => by
            unfold mrgF
            by_cases w : f z = f (u x)
            · rw [if_pos w]
              exact ⟨fun q => absurd q.symm kb, fun q => absurd (q.symm.trans w) ka⟩
            · rw [if_neg w]
          have same : ∀ z, touch u v (mrgF f (u x) (v x)) k z = touch u v f k z := fun z => by
            unfold touch
            congr 1
            · exact decide_eq_decide.mpr (mK _)
            · exact decide_eq_decide.mpr (mK _)
          refine ⟨k, e, List.mem_cons_of_mem _ he, by rw [← same]; exact te, ?_⟩
          rw [List.filter_cons_of_neg (fun t => by
            rcases touch_iff.mp t with q | q
            · exact ka q.symm
            · exact kb q.symm), ← fe]
          exact List.filter_congr fun z _ => (same z).symm
end
end SL
/-! Sem45: a list turned round by a slice. -/
namespace SL
open PySem PySem.Spec PyProof.Rows L2
open Evl (Ex)
def fRevL {S : Type} (fa : Fn S D) : Fn S (List D) := fun env s => match fa env s with
  | some (.lst xs, s1) => some (xs.reverse, s1)
  | _ => none
section
variable {S : Type} {R : RC} {Z : SK S} {m : Bool} {ta : TE} {fa : Fn S D}
theorem EVl.revL (ha : EV R Z m ta fa) : EVl R Z m (tRevL R.K ta) (fRevL fa) := by
  refine EVl.new fun σ env F H s ds s' Q p e q => ?_
  unfold fRevL at e
  split at e
  case h_2 => cases e
  rename_i xs s1 h1
  simp only [Option.some.injEq, Prod.mk.injEq] at e
  obtain ⟨e1, e2⟩ := e
  subst e1 e2
  refine ha σ env F H s _ _ _ p h1 fun v F1 H1 g1 k1 r1 => ?_
  have p1 := p.next g1 k1
  cases r1 with
  | lst f1 r1 =>
    rename_i a vs
    exact ⟨a, vs, rfl, SqL.of (p1.fh _ _ f1), fun c hc => q F1 H1 _ g1 k1 r1.reverse c hc⟩
end
section
variable {S : Type} {T : CT} {Z : SK S} {m : Bool} {a : Expr} {fa : Fn S D} {pos p1 p2 p3 : Pos} {k : Nat}
theorem SN.revL (ha : SE T Z m a fa) : SN T Z m (.Subscript a (.Slice none none (some (.UnaryOp .USub (.Constant (.int 1) k p1) p2)) p3) pos) (fRevL fa) := by
  obtain ⟨ta, pa, ea⟩ := ha
  exact ⟨tRevL T.R.K ta, fun X h => by
    have := pe_revL (k := k) (p1 := p1) (p2 := p2) (p3 := p3) (pos := pos) (pa X h)
    rw [h.K] at this
    exact this, EVl.revL ea⟩
end
end SL
/-! Sem46: codes over small fields in plain Lean: rows reduced column by column, and all of them listed. -/
namespace SL
structure NF where
  q : Nat
  ad : Nat → Nat → Nat
  mu : Nat → Nat → Nat
  ng : Nat → Nat
  iv : Nat → Nat
structure NF.Law (F : NF) : Prop where
  q1 : 1 < F.q
  adl : ∀ a b, a < F.q → b < F.q → F.ad a b < F.q
  mul : ∀ a b, a < F.q → b < F.q → F.mu a b < F.q
  ngl : ∀ a, a < F.q → F.ng a < F.q
  ivl : ∀ a, a < F.q → F.iv a < F.q
  mz : ∀ a, a < F.q → F.mu a 0 = 0
  az : ∀ a, a < F.q → F.ad a 0 = a
  inv : ∀ a, a < F.q → a ≠ 0 → F.mu (F.iv a) a = 1
  can : ∀ a, a < F.q → F.ad a (F.mu (F.ng a) 1) = 0
def scN (F : NF) (w : List Nat) (c : Nat) : List Nat := w.map fun a => F.mu c a
def sumN (F : NF) (v w : List Nat) : List Nat := List.zipWith F.ad v w
def lessN (F : NF) (v w : List Nat) (c : Nat) : List Nat := sumN F v (scN F w (F.ng c))
abbrev rwN (m : List (List Nat)) (r : Nat) : List Nat := m.getD r []
abbrev enN (m : List (List Nat)) (r p : Nat) : Nat := (m.getD r []).getD p 0
def stepN (F : NF) (p : Nat) (s : List (List Nat) × List Nat) : List (List Nat) × List Nat := match (List.range' s.2.length (s.1.length - s.2.length)).filter fun a => enN s.1 a p != 0 with
  | [] => s
  | a :: _ => ((List.range s.1.length).map fun r => if r = s.2.length then scN F (rwN s.1 a) (F.iv (enN s.1 a p)) else lessN F (rwN s.1 (if r = a then s.2.length else r)) (scN F (rwN s.1 a) (F.iv (enN s.1 a p))) (enN s.1 (if r = a then s.2.length else r) p), s.2 ++ [p])
def redN (F : NF) (n : Nat) (rows : List (List Nat)) : List (List Nat) × List Nat := (List.range n).foldl (fun s p => stepN F p s) (rows, [])
def OkW (F : NF) (n : Nat) (w : List Nat) : Prop := w.length = n ∧ ∀ a ∈ w, a < F.q
section
variable {F : NF} (L : F.Law) {n : Nat}
theorem okw_get {w : List Nat} (h : OkW F n w) (q0 : 0 < F.q) (p : Nat) : w.getD p 0 < F.q := by
  rw [List.getD_eq_getElem?_getD]
  cases e : w[p]? with
  | none => exact q0
  | some a => exact h.2 a (List.mem_of_getElem? e)
include L
theorem okw_sc {w : List Nat} (h : OkW F n w) {c : Nat} (hc : c < F.q) : OkW F n (scN F w c) := by
  refine ⟨by simp only [scN, List.length_map]; exact h.1, fun a ha => ?_⟩
  obtain ⟨b, hb, rfl⟩ := List.mem_map.mp ha
  exact L.mul _ _ hc (h.2 b hb)
theorem okw_sum {v w : List Nat} (hv : OkW F n v) (hw : OkW F n w) : OkW F n (sumN F v w) := by
  refine ⟨by simp only [sumN, List.length_zipWith, hv.1, hw.1, Nat.min_self], fun a ha => ?_⟩
  obtain ⟨i, hi, rfl⟩ := List.mem_iff_getElem.mp ha
  simp only [sumN, List.getElem_zipWith]
  exact L.adl _ _ (hv.2 _ (List.getElem_mem _)) (hw.2 _ (List.getElem_mem _))
theorem okw_less {v w : List Nat} (hv : OkW F n v) (hw : OkW F n w) {c : Nat} (hc : c < F.q) : OkW F n (lessN F v w c) := okw_sum L hv (okw_sc L hw (L.ngl c hc))
theorem sc_get {w : List Nat} (h : OkW F n w) {c : Nat} (hc : c < F.q) (p : Nat) : (scN F w c).getD p 0 = F.mu c (w.getD p 0) := by
  simp only [scN, List.getD_eq_getElem?_getD, List.getElem?_map]
  cases e : w[p]? with
  | none => exact (L.mz c hc).symm
  | some a => rfl
theorem less_get {v w : List Nat} (hv : OkW F n v) (hw : OkW F n w) {c : Nat} (hc : c < F.q) {p : Nat} (hp : p < n) : (lessN F v w c).getD p 0 = F.ad (v.getD p 0) (F.mu (F.ng c) (w.getD p 0)) := by
  have h1 : p < v.length := by rw [hv.1]; exact hp
  have h2 : p < w.length := by rw [hw.1]; exact hp
  simp only [lessN, sumN, scN, List.getD_eq_getElem?_getD, List.getElem?_zipWith, List.getElem?_map, List.getElem?_eq_getElem h1, List.getElem?_eq_getElem h2, Option.map_some, Option.getD_some]
end
/-- column p of a table -/
def colN (m : List (List Nat)) (p : Nat) : List Nat := m.map fun r => r.getD p 0
def unitN (k j : Nat) : List Nat := (List.range k).map fun i => if i = j then 1 else 0
/-- reading columns: j rows found so far -/
def endJ (k : Nat) : Nat → List (List Nat) → Option Nat
  | j, [] => some j
  | j, c :: cs => if c = unitN k j ∧ j < k then endJ k (j + 1) cs else if (c.drop j).all (· == 0) = true then endJ k j cs else none
theorem endJ_snoc (k : Nat) (c : List Nat) : ∀ (cs : List (List Nat)) (j : Nat), endJ k j (cs ++ [c]) = match endJ k j cs with
    | none => none
    | some i => endJ k i [c]
  | [], j => by
    show endJ k j [c] = match some j with | none => none | some i => endJ k i [c]
    rfl
  | d :: cs, j => by
    simp only [List.cons_append, endJ]
    split
    · exact endJ_snoc k c cs (j + 1)
    · split
      · exact endJ_snoc k c cs j
      · rfl
theorem endJ_le {k : Nat} : ∀ (cs : List (List Nat)) (j i : Nat), endJ k j cs = some i → j ≤ i ∧ (j ≤ k → i ≤ k)
  | [], j, i, h => by
    simp only [endJ, Option.some.injEq] at h
    omega
  | c :: cs, j, i, h => by
    simp only [endJ] at h
    split at h
    · rename_i q
      have := endJ_le cs (j + 1) i h
      have q2 := q.2
      omega
    · split at h
      · exact endJ_le cs j i h
      · cases h
theorem en_out {m : List (List Nat)} {r c : Nat} (h : m.length ≤ r) : enN m r c = 0 := by
  have : m.getD r [] = [] := by rw [List.getD_eq_getElem?_getD, List.getElem?_eq_none h]; rfl
  show (m.getD r []).getD c 0 = 0
  rw [this]; rfl
structure RdI (F : NF) (n p : Nat) (s : List (List Nat) × List Nat) : Prop where
  ok : ∀ r ∈ s.1, OkW F n r
  le : s.2.length ≤ s.1.length
  cols : endJ s.1.length 0 ((List.range p).map (colN s.1)) = some s.2.length
  zero : ∀ c, c < p → ∀ r, s.2.length ≤ r → enN s.1 r c = 0
theorem colN_get (m : List (List Nat)) (p r : Nat) : (colN m p).getD r 0 = enN m r p := by
  simp only [colN, List.getD_eq_getElem?_getD, List.getElem?_map]
  cases e : m[r]? with
  | none => simp
  | some x => rfl
theorem colN_len (m : List (List Nat)) (p : Nat) : (colN m p).length = m.length := by simp [colN]
theorem list_ext {v w : List Nat} (hl : v.length = w.length) (h : ∀ i, i < v.length → v.getD i 0 = w.getD i 0) : v = w := by
  refine List.ext_getElem hl fun i h1 h2 => ?_
  have := h i h1
  rw [List.getD_eq_getElem?_getD, List.getD_eq_getElem?_getD, List.getElem?_eq_getElem h1, List.getElem?_eq_getElem h2] at this
  exact this
theorem unit_get {k j i : Nat} (h : i < k) : (unitN k j).getD i 0 = if i = j then 1 else 0 := by
  simp [unitN, List.getD_eq_getElem?_getD, List.getElem?_range h]
theorem RdI.step {F : NF} (L : F.Law) {n p : Nat} (hp : p < n) {s : List (List Nat) × List Nat} (I : RdI F n p s) : RdI F n (p + 1) (stepN F p s) := by
  have q0 : 0 < F.q := by have := L.q1; omega
  unfold stepN
  split
  · rename_i e
    have z : ∀ r, s.2.length ≤ r → enN s.1 r p = 0 := fun r hr => by
      by_cases hl : r < s.1.length
      · cases q : (enN s.1 r p != 0) with
        | false => simpa using q
        | true =>
          have : r ∈ (List.range' s.2.length (s.1.length - s.2.length)).filter fun a => enN s.1 a p != 0 := List.mem_filter.mpr ⟨List.mem_range'_1.mpr ⟨hr, by omega⟩, q⟩
          rw [e] at this
          cases this
      · exact en_out (by omega)
    refine ⟨I.ok, I.le, ?_, fun c hc r hr => ?_⟩
    · rw [List.range_succ, List.map_append, List.map_cons, List.map_nil, endJ_snoc, I.cols]
      simp only [endJ]
      split
      · rename_i q
        exfalso
        have := z s.2.length (Nat.le_refl _)
        rw [← colN_get, q.1, unit_get q.2, if_pos rfl] at this
        cases this
      · rw [if_pos]
        rw [List.all_eq_true]
        intro x hx
        obtain ⟨i, hi, rfl⟩ := List.mem_iff_getElem.mp hx
        rw [List.getElem_drop]
        have := z (s.2.length + i) (Nat.le_add_right _ _)
        rw [← colN_get, List.getD_eq_getElem?_getD, List.getElem?_eq_getElem (by rw [List.length_drop] at hi; omega)] at this
        simpa using this
    · by_cases q : c = p
      · subst q; exact z r hr
      · exact I.zero c (by omega) r hr
  · rename_i a l e
    have ha : a ∈ (List.range' s.2.length (s.1.length - s.2.length)).filter fun a => enN s.1 a p != 0 := by rw [e]; exact List.mem_cons_self ..
    have ha := List.mem_filter.mp ha
    have ha1 := List.mem_range'_1.mp ha.1
    have ha2 : enN s.1 a p ≠ 0 := by simpa using ha.2
    have hI := I.le
    have alt : a < s.1.length := by omega
    have okr : ∀ r, r < s.1.length → OkW F n (rwN s.1 r) := fun r hr => by
      show OkW F n (s.1.getD r [])
      rw [List.getD_eq_getElem?_getD, List.getElem?_eq_getElem hr]
      exact I.ok _ (List.getElem_mem _)
    have oka := okr a alt
    have eal : enN s.1 a p < F.q := okw_get oka q0 p
    have okt : OkW F n (scN F (rwN s.1 a) (F.iv (enN s.1 a p))) := okw_sc L oka (L.ivl _ eal)
    generalize ht : scN F (rwN s.1 a) (F.iv (enN s.1 a p)) = t at okt ⊢
    have tg : ∀ c, t.getD c 0 = F.mu (F.iv (enN s.1 a p)) (enN s.1 a c) := fun c => by rw [← ht]; exact sc_get L oka (L.ivl _ eal) c
    have swl : ∀ r, r < s.1.length → (if r = a then s.2.length else r) < s.1.length := fun r hr => by split <;> omega
    have oky : ∀ r, r < s.1.length → OkW F n (rwN s.1 (if r = a then s.2.length else r)) := fun r hr => okr _ (swl r hr)
    have newr : ∀ r, r < s.1.length → rwN ((List.range s.1.length).map fun r => if r = s.2.length then t else lessN F (rwN s.1 (if r = a then s.2.length else r)) t (enN s.1 (if r = a then s.2.length else r) p)) r = if r = s.2.length then t else lessN F (rwN s.1 (if r = a then s.2.length else r)) t (enN s.1 (if r = a then s.2.length else r) p) := fun r hr => by
      show List.getD _ r [] = _
      rw [List.getD_eq_getElem?_getD, List.getElem?_map, List.getElem?_range hr]
      rfl
    generalize hm : ((List.range s.1.length).map fun r => if r = s.2.length then t else lessN F (rwN s.1 (if r = a then s.2.length else r)) t (enN s.1 (if r = a then s.2.length else r) p)) = m' at newr ⊢
    have ml : m'.length = s.1.length := by rw [← hm]; simp
    have ent : ∀ r c, r < s.1.length → c < n → enN m' r c = if r = s.2.length then F.mu (F.iv (enN s.1 a p)) (enN s.1 a c) else F.ad (enN s.1 (if r = a then s.2.length else r) c) (F.mu (F.ng (enN s.1 (if r = a then s.2.length else r) p)) (F.mu (F.iv (enN s.1 a p)) (enN s.1 a c))) := fun r c hr hc => by
      show (rwN m' r).getD c 0 = _
      rw [newr r hr]
      by_cases q : r = s.2.length
      · rw [if_pos q, if_pos q, tg]
      · rw [if_neg q, if_neg q, less_get L (oky r hr) okt (okw_get (oky r hr) q0 p) hc, tg]
    have old : ∀ r c, r < s.1.length → c < p → enN m' r c = enN s.1 r c := fun r c hr hc => by
      have za := I.zero c hc a (by omega)
      rw [ent r c hr (by omega), za, L.mz _ (L.ivl _ eal)]
      by_cases q : r = s.2.length
      · rw [if_pos q, q]; exact (I.zero c hc _ (Nat.le_refl _)).symm
      · rw [if_neg q, L.mz _ (L.ngl _ (okw_get (oky r hr) q0 p)), L.az _ (okw_get (oky r hr) q0 c)]
        by_cases w : r = a
        · rw [if_pos w, w, za]; exact I.zero c hc _ (Nat.le_refl _)
        · rw [if_neg w]
    have new : ∀ r, r < s.1.length → enN m' r p = if r = s.2.length then 1 else 0 := fun r hr => by
      rw [ent r p hr hp, L.inv _ eal ha2]
      by_cases q : r = s.2.length
      · rw [if_pos q, if_pos q]
      · rw [if_neg q, if_neg q]
        exact L.can _ (okw_get (oky r hr) q0 p)
    have csame : ∀ c, c < p → colN m' c = colN s.1 c := fun c hc => list_ext (by rw [colN_len, colN_len, ml]) fun i hi => by
      rw [colN_len, ml] at hi
      rw [colN_get, colN_get, old i c hi hc]
    refine ⟨fun r hr => ?_, ?_, ?_, fun c hc r hr => ?_⟩
    · obtain ⟨i, hi, rfl⟩ := List.mem_iff_getElem.mp hr
      have hi2 : i < s.1.length := by rw [← ml]; exact hi
      have nr := newr i hi2
      show OkW F n m'[i]
      have ge : rwN m' i = m'[i] := by
        show m'.getD i [] = _
        rw [List.getD_eq_getElem?_getD, List.getElem?_eq_getElem hi]; rfl
      rw [← ge, nr]
      split
      · exact okt
      · exact okw_less L (oky i hi2) okt (okw_get (oky i hi2) q0 p)
    · show (s.2 ++ [p]).length ≤ m'.length
      rw [List.length_append, ml]
      simp only [List.length_cons, List.length_nil]
      omega
    · show endJ m'.length 0 ((List.range (p + 1)).map (colN m')) = some (s.2 ++ [p]).length
      rw [List.range_succ, List.map_append, List.map_cons, List.map_nil, endJ_snoc, show (List.range p).map (colN m') = (List.range p).map (colN s.1) from List.map_congr_left fun c hc => csame c (List.mem_range.mp hc), ml, I.cols]
      have cu : colN m' p = unitN s.1.length s.2.length := list_ext (by rw [colN_len, ml]; simp [unitN]) fun i hi => by
        rw [colN_len, ml] at hi
        rw [colN_get, new i hi, unit_get hi]
      simp only [endJ]
      rw [if_pos ⟨cu, by omega⟩, List.length_append]
      rfl
    · show enN m' r c = 0
      by_cases hrl : r < s.1.length
      · have hr2 : s.2.length < r := by
          have : (s.2 ++ [p]).length ≤ r := hr
          rw [List.length_append] at this
          simp only [List.length_cons, List.length_nil] at this
          omega
        by_cases q : c = p
        · subst q
          rw [new r hrl, if_neg (by omega)]
        · rw [old r c hrl (by omega)]
          exact I.zero c (by omega) r (by omega)
      · exact en_out (by rw [ml]; omega)
end SL
/-! Sem47: all reduced codes, listed column by column. -/
namespace SL
def vecsN (q : Nat) : Nat → Nat → List (List Nat)
  | 0, _ => [[]]
  | k + 1, 0 => (vecsN q k 0).map fun c => 0 :: c
  | k + 1, j + 1 => (List.range q).flatMap fun a => (vecsN q k j).map fun c => a :: c
def genC (q k : Nat) : Nat → Nat → List (List (List Nat))
  | 0, j => if j = k then [[]] else []
  | n + 1, j => (if j < k then (genC q k n (j + 1)).map fun cs => unitN k j :: cs else []) ++ (vecsN q k j).flatMap fun c => (genC q k n j).map fun cs => c :: cs
def rowsOf (k : Nat) (cols : List (List Nat)) : List (List Nat) := (List.range k).map fun i => cols.map fun c => c.getD i 0
def codesN (q n : Nat) : List (List (List Nat)) := (List.range 4).flatMap fun k => (genC q k n 0).map (rowsOf k)
theorem mem_vecs {q : Nat} : ∀ (k j : Nat) (c : List Nat), c.length = k → (∀ a ∈ c, a < q) → (c.drop j).all (· == 0) = true → c ∈ vecsN q k j
  | 0, j, c, hl, _, _ => by
    rw [List.eq_nil_of_length_eq_zero hl]
    cases j <;> simp [vecsN]
  | k + 1, 0, [], hl, _, _ => by cases hl
  | k + 1, 0, a :: c, hl, hq, hz => by
    simp only [List.drop_zero, List.all_cons, Bool.and_eq_true, beq_iff_eq] at hz
    simp only [vecsN]
    refine List.mem_map.mpr ⟨c, mem_vecs k 0 c (by simpa using hl) (fun b hb => hq b (List.mem_cons_of_mem _ hb)) (by simpa using hz.2), by rw [hz.1]⟩
  | k + 1, j + 1, [], hl, _, _ => by cases hl
  | k + 1, j + 1, a :: c, hl, hq, hz => by
    simp only [vecsN]
    exact List.mem_flatMap.mpr ⟨a, List.mem_range.mpr (hq a (List.mem_cons_self ..)), List.mem_map.mpr ⟨c, mem_vecs k j c (by simpa using hl) (fun b hb => hq b (List.mem_cons_of_mem _ hb)) (by simpa using hz), rfl⟩⟩
theorem mem_gen {q k : Nat} : ∀ (n j : Nat) (cols : List (List Nat)), cols.length = n → (∀ c ∈ cols, c.length = k ∧ ∀ a ∈ c, a < q) → endJ k j cols = some k → cols ∈ genC q k n j
  | 0, j, cols, hl, _, he => by
    rw [List.eq_nil_of_length_eq_zero hl] at he ⊢
    simp only [endJ, Option.some.injEq] at he
    simp [genC, he]
  | n + 1, j, [], hl, _, _ => by cases hl
  | n + 1, j, c :: cs, hl, hc, he => by
    simp only [endJ] at he
    simp only [genC]
    have hcs : ∀ c' ∈ cs, c'.length = k ∧ ∀ a ∈ c', a < q := fun c' h => hc c' (List.mem_cons_of_mem _ h)
    split at he
    · rename_i h
      refine List.mem_append_left _ ?_
      rw [if_pos h.2]
      exact List.mem_map.mpr ⟨cs, mem_gen n (j + 1) cs (by simpa using hl) hcs he, by rw [h.1]⟩
    · split at he
      · rename_i h
        refine List.mem_append_right _ (List.mem_flatMap.mpr ⟨c, mem_vecs k j c (hc c (List.mem_cons_self ..)).1 (hc c (List.mem_cons_self ..)).2 h, List.mem_map.mpr ⟨cs, mem_gen n j cs (by simpa using hl) hcs he, rfl⟩⟩)
      · cases he
theorem unit_take {k m j : Nat} (h : k ≤ m) : (unitN m j).take k = unitN k j := by
  unfold unitN
  rw [← List.map_take, List.take_range, Nat.min_eq_left h]
theorem endJ_take {k m : Nat} (hk : k ≤ m) : ∀ (cols : List (List Nat)) (j : Nat), (∀ c ∈ cols, c.length = m) → endJ m j cols = some k → j ≤ k → endJ k j (cols.map fun c => c.take k) = some k
  | [], j, _, he, _ => he
  | c :: cs, j, hl, he, hj => by
    simp only [endJ] at he
    have hcs : ∀ c' ∈ cs, c'.length = m := fun c' h => hl c' (List.mem_cons_of_mem _ h)
    simp only [List.map_cons, endJ]
    split at he
    · rename_i h
      have hj1 := (endJ_le cs (j + 1) k he).1
      rw [if_pos ⟨by rw [h.1, unit_take hk], by omega⟩]
      exact endJ_take hk cs (j + 1) hcs he hj1
    · split at he
      · rename_i h
        rw [if_neg, if_pos]
        · exact endJ_take hk cs j hcs he hj
        · rw [List.all_eq_true] at h ⊢
          intro x hx
          refine h x ?_
          rw [List.drop_take] at hx
          exact List.mem_of_mem_take hx
        · rintro ⟨h1, h2⟩
          have g := congrArg (fun l => l.getD j 0) h1
          have hcm : j < c.length := by rw [hl c (List.mem_cons_self ..)]; omega
          simp only [unit_get h2, if_true] at g
          rw [List.getD_eq_getElem?_getD, List.getElem?_take, if_pos h2, List.getElem?_eq_getElem hcm] at g
          rw [List.all_eq_true] at h
          have := h c[j] (List.mem_iff_getElem.mpr ⟨0, by rw [List.length_drop]; omega, by rw [List.getElem_drop]; simp⟩)
          simp only [Option.getD_some] at g
          rw [g] at this
          cases this
      · cases he
theorem stepN_len (F : NF) (p : Nat) (s : List (List Nat) × List Nat) : (stepN F p s).1.length = s.1.length := by
  unfold stepN
  split
  · rfl
  · simp
theorem fold_len (F : NF) : ∀ (l : List Nat) (s : List (List Nat) × List Nat), (l.foldl (fun s p => stepN F p s) s).1.length = s.1.length
  | [], _ => rfl
  | p :: l, s => by rw [List.foldl_cons, fold_len F l, stepN_len]
theorem RdI.all {F : NF} (L : F.Law) {n : Nat} {rows : List (List Nat)} (h : ∀ r ∈ rows, OkW F n r) : ∀ p, p ≤ n → RdI F n p ((List.range p).foldl (fun s p => stepN F p s) (rows, []))
  | 0, _ => ⟨h, Nat.zero_le _, rfl, fun c hc => by omega⟩
  | p + 1, hp => by
    rw [List.range_succ, List.foldl_append]
    exact (RdI.all L h p (by omega)).step L (by omega)
/-- the rows that reduced returns -/
def keptN (F : NF) (n : Nat) (rows : List (List Nat)) : List (List Nat) := (redN F n rows).1.take (redN F n rows).2.length
theorem kept_mem {F : NF} (L : F.Law) {n : Nat} {rows : List (List Nat)} (h : ∀ r ∈ rows, OkW F n r) (hl : rows.length ≤ 3) : keptN F n rows ∈ codesN F.q n := by
  have I := RdI.all L h n (Nat.le_refl _)
  have len : (redN F n rows).1.length = rows.length := fold_len F _ _
  change RdI F n n (redN F n rows) at I
  unfold keptN
  generalize redN F n rows = s at *
  have q0 : 0 < F.q := by have := L.q1; omega
  have hle := I.le
  refine List.mem_flatMap.mpr ⟨s.2.length, List.mem_range.mpr (by omega), List.mem_map.mpr ⟨((List.range n).map (colN s.1)).map fun c => c.take s.2.length, ?_, ?_⟩⟩
  · refine mem_gen n 0 _ (by simp) (fun c hc => ?_) (endJ_take hle _ 0 (fun c hc => ?_) I.cols (Nat.zero_le _))
    · obtain ⟨c', hc', rfl⟩ := List.mem_map.mp hc
      obtain ⟨p, hp, rfl⟩ := List.mem_map.mp hc'
      refine ⟨by rw [List.length_take, colN_len]; omega, fun a ha => ?_⟩
      have ha := List.mem_of_mem_take ha
      obtain ⟨r, hr, rfl⟩ := List.mem_map.mp ha
      exact okw_get (I.ok r hr) q0 p
    · obtain ⟨p, hp, rfl⟩ := List.mem_map.mp hc
      exact colN_len ..
  · unfold rowsOf
    refine List.ext_getElem (by simp; omega) fun i h1 h2 => ?_
    simp only [List.length_map, List.length_range] at h1
    have hi : i < s.1.length := by omega
    rw [List.getElem_map, List.getElem_range, List.getElem_take, List.map_map, List.map_map]
    have okr := I.ok _ (List.getElem_mem hi)
    refine List.ext_getElem (by simp [okr.1]) fun p h3 h4 => ?_
    rw [List.getElem_map, List.getElem_range]
    show ((colN s.1 p).take s.2.length).getD i 0 = _
    rw [List.getD_eq_getElem?_getD, List.getElem?_take, if_pos h1, ← List.getD_eq_getElem?_getD, colN_get]
    show (s.1.getD i []).getD p 0 = _
    rw [List.getD_eq_getElem?_getD (l := s.1), List.getElem?_eq_getElem hi]
    show (s.1[i]).getD p 0 = _
    rw [List.getD_eq_getElem?_getD, List.getElem?_eq_getElem h4]
    rfl
end SL
/-! zip of three tuples -/
namespace SL
open PySem PySem.Spec PyProof.Rows L2
def It3 (K : PySem.W.Frag) (a b c : Addr) : It :=
  ⟨fun i H => ∃ (as bs cs : List V) (p q r : V), SqT K H a as ∧ SqT K H b bs ∧ SqT K H c cs ∧ as[i]? = some p ∧ bs[i]? = some q ∧ cs[i]? = some r,
    fun i H v H' => ∃ T p q r, v = .ref T ∧ H T = none ∧ H' = upd H T (.tup [p, q, r]) ∧ (∀ as, SqT K H a as → as[i]? = some p) ∧ (∀ bs, SqT K H b bs → bs[i]? = some q) ∧ ∀ cs, SqT K H c cs → cs[i]? = some r,
    fun i H => ∃ as bs cs : List V, SqT K H a as ∧ SqT K H b bs ∧ SqT K H c cs ∧ i ≤ as.length ∧ i ≤ bs.length ∧ i ≤ cs.length ∧ (i = as.length ∨ i = bs.length ∨ i = cs.length)⟩
theorem sep3 {N a b c : Nat} (ha : a < N) (hb : b < N) (hc : c < N) : ZipSep3 (N + 5) (N + 3) (N + 4) N (N + 1) (N + 2) [N, a] [N + 1, b] [N + 2, c] := by
  have e : ∀ (x p q : Nat), x ≠ p → x ≠ q → x ∉ [p, q] := fun x p q h1 h2 h => by
    rcases List.mem_cons.mp h with h | h
    · exact h1 h
    · exact h2 (List.mem_singleton.mp h)
  constructor
  all_goals first | exact List.mem_cons_self .. | exact e _ _ _ (by omega) (by omega) | exact (show (_ : Nat) ≠ _ by omega)
def at3 (z TI TO i1 i2 i3 a b c : Addr) (i : Nat) (h : Heap) : Prop := IsZip h z TI TO .none ∧ IsTupOf3 h TI (.ref i1) (.ref i2) (.ref i3) ∧ (∃ x y v, IsTupOf3 h TO x y v) ∧ h.IsTupleIter i1 a i ∧ h.IsTupleIter i2 b i ∧ h.IsTupleIter i3 c i
theorem turn3 {P : Program} {w : World} {K : PySem.W.Frag} {elts : List Expr} {kk : Nat} {tpos : Pos} {z TI TO i1 i2 i3 a b c : Addr} (S : ZipSep3 z TI TO i1 i2 i3 [i1, a] [i2, b] [i3, c]) (n1 : a ≠ i1) (n2 : b ≠ i2) (n3 : c ≠ i3) :
    Turn P w K (.Tuple elts kk tpos) (It3 K a b c) [z, TI, TO, i1, i2, i3] z (at3 z TI TO i1 i2 i3 a b c) where
  mem := by simp
  obj := fun i h st e he => by
    obtain ⟨hz, hI, ⟨_, _, _, hO⟩, ⟨o1, e1, _, k1⟩, ⟨o2, e2, _, k2⟩, ⟨o3, e3, _, k3⟩⟩ := st
    simp only [List.mem_cons, List.not_mem_nil, or_false] at he
    rcases he with q | q | q | q | q | q <;> rw [q]
    · exact ⟨_, hz, nofun⟩
    · exact ⟨_, hI, nofun⟩
    · exact ⟨_, hO, nofun⟩
    · exact ⟨o1, e1, fun v u => by rw [k1] at u; cases u⟩
    · exact ⟨o2, e2, fun v u => by rw [k2] at u; cases u⟩
    · exact ⟨o3, e3, fun v u => by rw [k3] at u; cases u⟩
  keep := fun i h h' st k => by
    obtain ⟨hz, hI, ⟨x, y, v, hO⟩, j1, j2, j3⟩ := st
    exact ⟨k z (by simp) _ hz, k TI (by simp) _ hI, ⟨x, y, v, k TO (by simp) _ hO⟩, j1.at fun o q => k i1 (by simp) o q, j2.at fun o q => k i2 (by simp) o q, j3.at fun o q => k i3 (by simp) o q⟩
  item := by
    intro X eP ew eK hot i pins s σ H E I fp st g
    subst eP ew eK
    obtain ⟨hz, hI, ⟨x0, y0, v0, hO⟩, j1, j2, j3⟩ := st
    obtain ⟨as, bs, cs, p, q, r, qa, qb, qc, ga, gb, gc⟩ := g
    obtain ⟨ia, ra, pa, _⟩ := I.tuple qa
    obtain ⟨ib, rb, pb, _⟩ := I.tuple qb
    obtain ⟨ic, rc, pc, _⟩ := I.tuple qc
    obtain ⟨u1, g1, r1⟩ := ra.get ga
    obtain ⟨u2, g2, r2⟩ := rb.get gb
    obtain ⟨u3, g3, r3⟩ := rc.get gc
    have hd := I.ok.hd hot
    have lt1 : i < ia.toArray.size := by have := (List.getElem?_eq_some_iff.mp g1).1; simpa using this
    have lt2 : i < ib.toArray.size := by have := (List.getElem?_eq_some_iff.mp g2).1; simpa using this
    have lt3 : i < ic.toArray.size := by have := (List.getElem?_eq_some_iff.mp g3).1; simpa using this
    refine wpAny_pyNext_zipD3_item S (Draws.tuple (A := X.A.in1) hd i1 a n1 ia.toArray) (Draws.tuple (A := X.A.in1) hd i2 b n2 ib.toArray) (Draws.tuple (A := X.A.in1) hd i3 c n3 ic.toArray) hz hI hO ⟨j1, pa⟩ ⟨j2, pb⟩ ⟨j3, pc⟩ lt1 lt2 lt3 ?_
    intro x1 x2 x3 h1 tk y1 y2 y3 z1 o1 d1 d2 d3 new sz keep
    have hlt : z < s.heap.objs.size := Heap.lt_size hz
    refine ⟨_, rfl, wpAny_letOwnedTupleGo_zip (s := { s with heap := h1, toks := tk }) z1 fun h2 z2 same => ?_⟩
    have t2 : h2.get? s.heap.objs.size = some { cls := .type "tuple", data := .seq #[x1, x2, x3] } := (same.2 _ (Nat.ne_of_gt hlt)).trans new
    have e1 : x1 = u1 := by
      have q1 : ia.toArray[i]? = some x1 := y1
      rw [List.getElem?_toArray, g1] at q1
      exact (Option.some.inj q1).symm
    have e2 : x2 = u2 := by
      have q1 : ib.toArray[i]? = some x2 := y2
      rw [List.getElem?_toArray, g2] at q1
      exact (Option.some.inj q1).symm
    have e3 : x3 = u3 := by
      have q1 : ic.toArray[i]? = some x3 := y3
      rw [List.getElem?_toArray, g3] at q1
      exact (Option.some.inj q1).symm
    subst e1 e2 e3
    have ok : ObjOk X.prog X.w (upd H s.heap.objs.size (.tup [p, q, r])) h2 s.heap.objs.size (.tup [p, q, r]) :=
      ⟨by show 3 ≤ sizeLine; decide, [x1, x2, x3], .cons r1 (.cons r2 (.cons r3 .nil)), ⟨_, t2, rfl, _, rfl⟩⟩
    have go : ∀ e o, e ∉ [z, TI, TO, i1, i2, i3] → s.heap.get? e = some o → h2.get? e = some o := fun e o ne q => by
      simp only [List.mem_cons, List.not_mem_nil, or_false, not_or] at ne
      exact (same.2 e ne.1).trans (keep e o ne.1 ne.2.2.1 ne.2.2.2.1 ne.2.2.2.2.1 ne.2.2.2.2.2 q)
    have I2 : Inv X pins σ (upd H s.heap.objs.size (.tup [p, q, r])) { s with heap := h2, toks := tk } := I.turnedNew (t' := tk) (ch := [z, TI, TO, i1, i2, i3]) go fp (Nat.le_refl _) ok
    have hI2 : IsTupOf3 h2 TI (.ref i1) (.ref i2) (.ref i3) := (same.2 _ S.TIz).trans (keep _ _ S.TIz S.TITO S.TIi1 S.TIi2 S.TIi3 hI)
    have ne1 : i1 ≠ z := fun e => S.zi1 e.symm
    have ne2 : i2 ≠ z := fun e => S.zi2 e.symm
    have ne3 : i3 ≠ z := fun e => S.zi3 e.symm
    refine ⟨.ref s.heap.objs.size, _, I2, rfl, ⟨_, p, q, r, rfl, I.hok.fresh (Nat.le_refl _), rfl, fun l hl => by rw [I.tuple_inj hl qa]; exact ga, fun l hl => by rw [I.tuple_inj hl qb]; exact gb, fun l hl => by rw [I.tuple_inj hl qc]; exact gc⟩, ⟨z2, hI2, ⟨x1, x2, x3, (same.2 _ S.TOz).trans o1⟩, d1.1.at fun o e => (same.2 _ ne1).trans e, d2.1.at fun o e => (same.2 _ ne2).trans e, d3.1.at fun o e => (same.2 _ ne3).trans e⟩, fun e he => ?_⟩
    have old : e < s.heap.objs.size := by
      simp only [List.mem_cons, List.not_mem_nil, or_false] at he
      obtain ⟨_, w1, _⟩ := j1
      obtain ⟨_, w2, _⟩ := j2
      obtain ⟨_, w3, _⟩ := j3
      rcases he with q | q | q | q | q | q <;> rw [q]
      · exact hlt
      · exact Heap.lt_size hI
      · exact Heap.lt_size hO
      · exact Heap.lt_size w1
      · exact Heap.lt_size w2
      · exact Heap.lt_size w3
    rw [upd_ne (Nat.ne_of_lt old)]
    exact (fp e he).1
  done := by
    intro X eP ew eK hot i pins s σ H E I fp st g
    subst eP ew eK
    obtain ⟨hz, hI, ⟨x0, y0, v0, hO⟩, j1, j2, j3⟩ := st
    obtain ⟨as, bs, cs, qa, qb, qc, la, lb, lc, hend⟩ := g
    obtain ⟨ia, ra, pa, _⟩ := I.tuple qa
    obtain ⟨ib, rb, pb, _⟩ := I.tuple qb
    obtain ⟨ic, rc, pc, _⟩ := I.tuple qc
    have hd := I.ok.hd hot
    have sa : ia.toArray.size = as.length := by rw [List.size_toArray]; exact ra.length.symm
    have sb : ib.toArray.size = bs.length := by rw [List.size_toArray]; exact rb.length.symm
    have sc : ic.toArray.size = cs.length := by rw [List.size_toArray]; exact rc.length.symm
    refine wpAny_pyNext_zipD3_end S (Draws.tuple (A := X.A.in1) hd i1 a n1 ia.toArray) (Draws.tuple (A := X.A.in1) hd i2 b n2 ib.toArray) (Draws.tuple (A := X.A.in1) hd i3 c n3 ic.toArray) hz hI hO ⟨j1, pa⟩ ⟨j2, pb⟩ ⟨j3, pc⟩ (by omega) (by omega) (by omega) (by omega) fun h1 tk keep => ⟨rfl, I.turnedL (t' := tk) (ch := [z, TI, TO, i1, i2, i3]) (fun e o ne q => ?_) fp⟩
    simp only [List.mem_cons, List.not_mem_nil, or_false, not_or] at ne
    exact keep e o ne.1 ne.2.2.1 ne.2.2.2.1 ne.2.2.2.2.1 ne.2.2.2.2.2 q
  self := fun _ _ _ _ _ stand goal => wpAny_pyIter_zip stand.1 goal
def iZip3 (K : PySem.W.Frag) (ta : TA) : TI := fun σ H R => ta σ H fun vs H1 => ∃ a b c as bs cs, vs = [.ref a, .ref b, .ref c] ∧ SqT K H1 a as ∧ SqT K H1 b bs ∧ SqT K H1 c cs ∧ R (It3 K a b c) H1
theorem pi_zip3 {X : Cx} {e1 e2 e3 : Expr} {ta : TA} {p pos tpos : Pos} {elts : List Expr} {kk : Nat} (hg : Gl X "zip") (hm : X.mg "zip" = none) (ha : PA X [e1, e2, e3] ta)
    (hs : starEach [e1, e2, e3] X.env = (false, eval e1 X.env) :: starEach [e2, e3] X.env) (hpl : (backTo pos (starEach [e2, e3] X.env)).any (·.1) = false) :
    PI X (.Tuple elts kk tpos) (.Call (.Name "zip" p) [e1, e2, e3] [] pos) (iZip3 X.K ta) := by
  refine ⟨fun pins s σ H R I h => Call_ (ld_blt I hg hm PyProof.Rows.boot_zip (PyProof.Rows.callWith_type1 (thn (ha.run pos pins s σ H _ I h) fun us s1 ⟨vs, H1, I1, r1, q1⟩ => ?_) hs hpl))⟩
  obtain ⟨a, b, c, as, bs, cs, rfl, qa, qb, qc, q⟩ := q1
  cases r1 with
  | cons ra r1 => cases r1 with
    | cons rb r1 => cases r1 with
      | cons rc r1 =>
        cases r1
        cases ra
        cases rb
        cases rc
        obtain ⟨ia, va, pa, _⟩ := I1.tuple qa
        obtain ⟨ib, vb, pb, _⟩ := I1.tuple qb
        obtain ⟨ic, vc, pc, _⟩ := I1.tuple qc
        have la : a < s1.heap.objs.size := by obtain ⟨_, g, _⟩ := id pa; exact Heap.lt_size g
        have lb : b < s1.heap.objs.size := by obtain ⟨_, g, _⟩ := id pb; exact Heap.lt_size g
        have lc : c < s1.heap.objs.size := by obtain ⟨_, g, _⟩ := id pc; exact Heap.lt_size g
        refine zip_begins3 (begins_tuple a ia.toArray) (begins_tuple b ib.toArray) (begins_tuple c ic.toArray) pa pb pc fun h' hz hI hO j1 j2 j3 sz keep => wpAny_pyIter_zip hz ?_
        have I2 : Inv X pins σ H1 { s1 with heap := h' } := I1.kept (t' := s1.toks) keep
        have new : ∀ e, e ∈ [s1.heap.objs.size + 5, s1.heap.objs.size + 3, s1.heap.objs.size + 4, s1.heap.objs.size, s1.heap.objs.size + 1, s1.heap.objs.size + 2] → FpOk X pins H1 e := fun e he => by
          have le : s1.heap.objs.size ≤ e := by
            simp only [List.mem_cons, List.not_mem_nil, or_false] at he
            rcases he with q | q | q | q | q | q <;> rw [q] <;> first | exact Nat.le_refl _ | exact Nat.le_add_right _ _
          exact I1.fpOk le (I1.hok.fresh le)
        exact ⟨s1.heap.objs.size + 5, _, _, _, H1, rfl, I2, turn3 (sep3 la lb lc) (Nat.ne_of_lt la) (Nat.ne_of_lt (Nat.lt_succ_of_lt lb)) (Nat.ne_of_lt (Nat.lt_succ_of_lt (Nat.lt_succ_of_lt lc))), ⟨hz, hI, ⟨_, _, _, hO⟩, ⟨_, j1, rfl, rfl⟩, ⟨_, j2, rfl, rfl⟩, ⟨_, j3, rfl, rfl⟩⟩, new, q⟩
def zip3D : List D → List D → List D → List D
  | x :: xs, y :: ys, z :: zs => .tup [x, y, z] :: zip3D xs ys zs
  | _, _, _ => []
theorem zip3D_get : ∀ (xs ys zs : List D) (i : Nat) (d : D), (zip3D xs ys zs)[i]? = some d → ∃ a b c, xs[i]? = some a ∧ ys[i]? = some b ∧ zs[i]? = some c ∧ d = .tup [a, b, c]
  | [], _, _, i, d, h => by simp [zip3D] at h
  | _ :: _, [], _, i, d, h => by simp [zip3D] at h
  | _ :: _, _ :: _, [], i, d, h => by simp [zip3D] at h
  | x :: xs, y :: ys, z :: zs, 0, d, h => ⟨x, y, z, rfl, rfl, rfl, (Option.some.inj h).symm⟩
  | x :: xs, y :: ys, z :: zs, i + 1, d, h => zip3D_get xs ys zs i d h
theorem zip3D_len : ∀ xs ys zs : List D, (zip3D xs ys zs).length ≤ xs.length ∧ (zip3D xs ys zs).length ≤ ys.length ∧ (zip3D xs ys zs).length ≤ zs.length ∧ ((zip3D xs ys zs).length = xs.length ∨ (zip3D xs ys zs).length = ys.length ∨ (zip3D xs ys zs).length = zs.length)
  | [], _, _ => ⟨Nat.le_refl _, Nat.zero_le _, Nat.zero_le _, .inl rfl⟩
  | _ :: _, [], _ => ⟨Nat.zero_le _, Nat.le_refl _, Nat.zero_le _, .inr (.inl rfl)⟩
  | _ :: _, _ :: _, [] => ⟨Nat.zero_le _, Nat.zero_le _, Nat.le_refl _, .inr (.inr rfl)⟩
  | x :: xs, y :: ys, z :: zs => by
    have ih := zip3D_len xs ys zs
    simp only [zip3D, List.length_cons]
    omega
section
variable {R : RC} {F H : Hp} {a b c : Addr} {vs ws us : List V} {ds es fs : List D}
theorem ItE.zip3 (h : SqT R.K F a vs) (r : Reps R F ds vs) (h' : SqT R.K F b ws) (r' : Reps R F es ws) (h'' : SqT R.K F c us) (r'' : Reps R F fs us) : ItE R (It3 R.K a b c) F (zip3D ds es fs) where
  go := fun i H hi e => by
    have l := zip3D_len ds es fs
    rw [r.length, r'.length, r''.length] at l
    exact ⟨vs, ws, us, vs[i], ws[i], us[i], sqT_ex e h, sqT_ex e h', sqT_ex e h'', List.getElem?_eq_getElem (by omega), List.getElem?_eq_getElem (by omega), List.getElem?_eq_getElem (by omega)⟩
  stop := fun H e => by
    have l := zip3D_len ds es fs
    rw [r.length, r'.length, r''.length] at l
    exact ⟨vs, ws, us, sqT_ex e h, sqT_ex e h', sqT_ex e h'', l.1, l.2.1, l.2.2.1, l.2.2.2⟩
  yld := fun i H x H' F1 d hd e1 e2 y => by
    obtain ⟨T, x1, y1, z1, rfl, hT, rfl, q1, q2, q3⟩ := y
    obtain ⟨d1, d2, d3, g1, g2, g3, rfl⟩ := zip3D_get ds es fs i d hd
    obtain ⟨v, hv, rv⟩ := r.get g1
    obtain ⟨w, hw, rw_⟩ := r'.get g2
    obtain ⟨u, hu, ru⟩ := r''.get g3
    have p1 := q1 vs (sqT_ex (e1.trans e2) h)
    have p2 := q2 ws (sqT_ex (e1.trans e2) h')
    have p3 := q3 us (sqT_ex (e1.trans e2) h'')
    rw [hv] at p1
    rw [hw] at p2
    rw [hu] at p3
    cases p1
    cases p2
    cases p3
    have g : Gr0 F1 H (upd F1 T (.tup [x1, y1, z1])) (upd H T (.tup [x1, y1, z1])) := Gr0.new e2 hT
    exact ⟨_, g, .tup upd_same (.cons ((rv.mono e1).mono g.ff) (.cons ((rw_.mono e1).mono g.ff) (.cons ((ru.mono e1).mono g.ff) .nil)))⟩
end
def fZip3 {S : Type} (fr : Fn S (List D)) : Fn S (List D) := fun env s => match fr env s with
  | some ([.tup xs, .tup ys, .tup zs], s1) => some (zip3D xs ys zs, s1)
  | _ => none
theorem EVi.zip3 {S : Type} {R : RC} {Z : SK S} {m : Bool} {tr : TA} {fr : Fn S (List D)} (h : EVa R Z m tr fr) : EVi R Z m (iZip3 R.K tr) (fZip3 fr) := by
  intro σ env F H s ds s' K p e q
  unfold fZip3 at e
  split at e
  · rename_i xs ys zs s1 h1
    cases e
    refine h σ env F H s _ _ _ p h1 fun vs F1 H1 g1 k1 r1 => ?_
    cases r1 with
    | cons ra r1 => cases r1 with
      | cons rb r1 => cases r1 with
        | cons rc r1 =>
          cases r1
          cases ra with
          | tup ha ra => cases rb with
            | tup hb rb => cases rc with
              | tup hc rc => exact ⟨_, _, _, _, _, _, rfl, sqT_ex g1.fh (SqT.of ha), sqT_ex g1.fh (SqT.of hb), sqT_ex g1.fh (SqT.of hc), q _ F1 H1 g1 k1 (ItE.zip3 (SqT.of ha) ra (SqT.of hb) rb (SqT.of hc) rc)⟩
  · cases e
section
variable {S : Type} {T : CT} {Z : SK S} {m : Bool} {a b c : Expr} {fr : Fn S (List D)} {p pos : Pos}
theorem SW.zip3 {elts : List Expr} {kk : Nat} {tpos : Pos} (mx : T.mg (Str.ofString "zip") = none) (ha : SA T Z m [a, b, c] fr) (gx : List.lookup (Str.ofString "zip") T.sc.names = some NameKind.globalImplicit := by rfl) (hs : ∀ env, starEach [a, b, c] env = (false, eval a env) :: starEach [b, c] env := by exact fun _ => rfl) (hs2 : ∀ env, ((backTo pos (starEach [b, c] env)).any fun x => x.fst) = false := by exact fun _ => rfl) : SW T Z m (.Tuple elts kk tpos) (.Call (.Name (Str.ofString "zip") p) [a, b, c] [] pos) (fZip3 fr) := by
  obtain ⟨t, pA, eA⟩ := ha
  exact ⟨_, fun X h => by
    have := pi_zip3 (p := p) (pos := pos) (tpos := tpos) (elts := elts) (kk := kk) (by show List.lookup _ X.env.scope.names = _; rw [h.sc]; exact gx) (by rw [h.mg]; exact mx) (pA X h) (hs X.env) (hs2 X.env)
    rw [h.K] at this
    exact this, EVi.zip3 eA⟩
end
end SL
/-! tuple([x.pop(take(d, len(x))) for k in range(n)]), x an own list of ints: the list is a part of the state -/
namespace SL
open PySem L2
open Evl (Ex)
def Z3 (p q a : Addr) : SK (DS × List Int) where
  z := fun b => b = p ∨ b = q ∨ b = a
  ok := fun s H => (ZD p q).ok s.1 H ∧ a ≠ p ∧ a ≠ q ∧ H a = some (.lst (s.2.map V.int))
  keep := fun s H H' h k => ⟨(ZD p q).keep s.1 H H' h.1 fun b hb => k b (hb.elim .inl fun z => .inr (.inl z)), h.2.1, h.2.2.1, by rw [k a (.inr (.inr rfl))]; exact h.2.2.2⟩
  has := fun s H b h k => by
    rcases k with rfl | rfl | rfl
    · exact (ZD b q).has s.1 H b h.1 (.inl rfl)
    · exact (ZD p b).has s.1 H b h.1 (.inr rfl)
    · rw [h.2.2.2]; exact ⟨(fun z => nomatch z), fun _ z => nomatch z⟩
def R3 (R : RC) (a : Addr) : RC := ⟨R.K, R.cl, R.nm, fun i => match i with
  | 2 => a
  | i => R.tk i⟩
def popG (g : List D → DS → Option (D × DS)) (st : DS × List Int) : Option (D × DS × List Int) := match g [.tok 0, .int st.2.length] st.1 with
  | some (.int k, s1) => if 0 ≤ k ∧ st.2.length ≤ 100000 then match st.2[k.toNat]? with
    | some v => some (.int v, s1, st.2.eraseIdx k.toNat)
    | none => none else none
  | _ => none
def fPopS (g : List D → DS → Option (D × DS)) (i j : Nat) : Fn (DS × List Int) D := fun env st => if isTok2 env[i]? && isTok0 env[j]? then popG g st else none
theorem cut_map {α β : Type} (f : α → β) : ∀ (l : List α) (j : Nat), (l.map f).eraseIdx j = (l.eraseIdx j).map f
  | [], _ => rfl
  | _ :: _, 0 => rfl
  | x :: l, j + 1 => congrArg (List.cons (f x)) (cut_map f l j)
abbrev tePop (R : RC) (p q : Addr) (g : List D → DS → Option (D × DS)) (i j : Nat) : TE := tBM R.K "list" rPopAt (tVar i) (tCons (tCall (spS R (ZD p q) 2 g) [] E0 (tCons (tVar j) (tCons (tCB (rLenX R.K) (tCons (tVar i) tNil)) tNil))) tNil)
theorem EV.popS {R : RC} {p q a : Addr} {m : Bool} {i j : Nat} {g : List D → DS → Option (D × DS)} (h0 : R.tk 0 = p) : EV (R3 R a) (Z3 p q a) m (tePop R p q g i j) (fPopS g i j) := by
  intro σ env F H s d s' Q pr e qq
  unfold fPopS at e
  split at e
  case isFalse => cases e
  rename_i ht
  obtain ⟨ti, tj⟩ := (Bool.and_eq_true _ _).mp ht
  have ti := isTok2_eq ti
  have tj := isTok0_eq tj
  unfold popG at e
  split at e
  case h_2 => cases e
  rename_i k s1 e1
  split at e
  case isFalse => cases e
  rename_i hk
  split at e
  case h_2 => cases e
  rename_i v hv
  cases e
  obtain ⟨x, hx, rx⟩ := pr.sl.sh i _ rfl ti
  cases rx
  obtain ⟨y, hy, ry⟩ := pr.sl.sh j _ rfl tj
  cases ry
  have okd := pr.ok.1
  have hap := pr.ok.2.1
  have haq := pr.ok.2.2.1
  have ha : H a = some (.lst (s.2.map V.int)) := pr.ok.2.2.2
  have hlt : k.toNat < s.2.length := (List.getElem?_eq_some_iff.mp hv).1
  refine ⟨.ref a, hx, .inl ⟨rfl, _, .inl (.inl ha)⟩, ?_⟩
  refine ⟨.ref (R.tk 0), hy, ?_⟩
  refine ⟨.ref a, hx, .ref a, s.2.length, rfl, .inl ⟨_, SqL.of ha, by rw [List.length_map]⟩, ?_⟩
  refine ⟨F, [.tok 0, .int s.2.length], s.1, .int k, s1, rfl, pr.fh, fun b hb => pr.zf b (hb.elim .inl fun z => .inr (.inl z)), okd, .cons (.tok 0) (.cons (.int _) .nil), e1, fun w F1 H1 g1 k1 r1 => ?_⟩
  cases r1
  have za : ¬ (ZD p q).z a := fun z => z.elim hap haq
  have ha1 : H1 a = some (.lst (s.2.map V.int)) := g1.hh a _ za ha
  have hFa : F a = none := pr.zf a (.inr (.inr rfl))
  have hF1 : F1 a = none := by
    cases c : F1 a with
    | none => rfl
    | some o =>
      rcases g1.nw a o c with h | h | ⟨xs, _, h⟩
      · rw [hFa] at h; cases h
      · rw [ha] at h; cases h
      · rw [ha] at h; cases h; rename_i h; cases h
  refine ⟨a, s.2.map V.int, k, k.toNat, .int v, rfl, rfl, ha1, by omega, by omega, ?_, ?_, ?_⟩
  · rw [List.length_map]
    unfold seqIndex?
    have ek : (if k < 0 then k + ((s.2.length : Nat) : Int) else k) = k := if_neg (by omega)
    simp only [ek]
    rw [decide_eq_true hk.1, decide_eq_true (show k < ((s.2.length : Nat) : Int) by omega)]
    rfl
  · rw [List.getElem?_map, hv]
    rfl
  · refine qq (.int v) F1 _ ⟨fun b o hb hh => ?_, g1.ff, fun b o hh => ?_, g1.nw⟩ ⟨?_, hap, haq, ?_⟩ (.int v)
    · have hb1 : b ≠ a := fun z => hb (.inr (.inr z))
      rw [upd_ne hb1]
      exact g1.hh b o (fun z => hb (z.elim .inl fun z => .inr (.inl z))) hh
    · have hb1 : b ≠ a := fun z => by subst z; rw [hF1] at hh; cases hh
      rw [upd_ne hb1]
      exact g1.fh b o hh
    · exact (ZD p q).keep s1 H1 _ k1 fun b hb => upd_ne fun z => by subst z; exact za hb
    · rw [upd_same, cut_map]
theorem reps_js {R R' : RC} {F : Hp} : ∀ {js : List Int} {vs : List V}, Reps R F (js.map D.int) vs → Reps R' F (js.map D.int) vs ∧ vs = js.map V.int
  | [], _, r => by cases r; exact ⟨.nil, rfl⟩
  | j :: js, _, r => by
    cases r with
    | cons a r =>
      cases a
      have ih := reps_js (R' := R') r
      exact ⟨.cons (.int j) ih.1, congrArg (List.cons (V.int j)) ih.2⟩
theorem intsOf_eq : ∀ {ds : List D} {ns : List Int}, intsOf ds = some ns → ds = ns.map D.int
  | [], _, h => by cases h; rfl
  | d :: ds, ns, h => by
    cases d <;> simp only [intsOf] at h <;> try (cases h; done)
    split at h
    · rename_i ms e
      cases h
      rw [intsOf_eq e]
      rfl
    · cases h
/-- return e, e a reading that eats the own list of slot 2 -/
def sShuf (fe : Fn (DS × List Int) D) : Stm DS := fun env s => match env with
  | [some (.tok 0), some (.int m), some (.own ds), _] => match intsOf ds with
    | some ns => match fe [some (.tok 0), some (.int m), some (.tok 2), none] (s, ns) with
      | some (.tup vs, s1) => match intsOf vs with
        | some js => some (.rt (.tup (js.map D.int)), s1.1)
        | none => none
      | _ => none
    | none => none
  | _ => none
def tShuf (T : CT) (e : Expr) : TS := fun D σ H => ∃ te, (∀ X, Is T X → PE X e te) ∧ tRet te D σ H
theorem ST.shuf {T : CT} {p q : Addr} {e : Expr} {fe : Fn (DS × List Int) D} (h0 : T.R.tk 0 = p) (h : ∀ a, SE ⟨T.P, T.w, R3 T.R a, T.mg, T.base, T.N, T.sc, T.fn, T.k⟩ (Z3 p q a) false e fe) : ST T.R (ZD p q) (tShuf T e) (sShuf fe) := fun F0 H0 σ env F H s o s' D pr ev post => by
  unfold sShuf at ev
  split at ev
  case h_2 => cases ev
  rename_i m ds x
  split at ev
  case h_2 => cases ev
  rename_i ns en
  split at ev
  case h_2 => cases ev
  rename_i vs s1 er
  split at ev
  case h_2 => cases ev
  rename_i js ej
  cases ev
  obtain ⟨a, ws, c2, c3, c4, c5, c6⟩ := pr.owL 2 _ rfl
  have dn := intsOf_eq en
  subst dn
  have wn := (reps_js (R' := T.R) c6).2
  subst wn
  have vj := intsOf_eq ej
  subst vj
  have hap : a ≠ p := fun z => pr.z0 p (.inl rfl) (by rw [← z]; exact c5)
  have haq : a ≠ q := fun z => pr.z0 q (.inr rfl) (by rw [← z]; exact c5)
  obtain ⟨te, pe, eV⟩ := h a
  refine ⟨te, fun X i => pe X ⟨i.prog, i.w, i.K, i.mg, i.base, i.N, i.sc, i.fn, i.calm, i.room, i.nd, i.own⟩, ?_⟩
  obtain ⟨v0, d0, r0⟩ := pr.sh 0 (.tok 0) rfl rfl
  obtain ⟨v1, d1, r1⟩ := pr.sh 1 (.int m) rfl rfl
  cases r0
  cases r1
  have sl3 : ∀ (i : Nat) (d : SL.D), d.isOwn = false → ([some (.tok 0), some (.int m), some (.tok 2), none] : Env)[i]? = some (some d) → ∃ v, σ[i]? = some (some v) ∧ Rep (R3 T.R a) F d v := fun i d hd he => by
    match i, he with
    | 0, he => cases he; exact ⟨_, d0, .tok 0⟩
    | 1, he => cases he; exact ⟨_, d1, .int m⟩
    | 2, he => cases he; exact ⟨_, c2, .tok 2⟩
    | 3, he => cases he
    | i + 4, he => cases he
  have pre : Pre (R3 T.R a) (Z3 p q a) false σ [some (.tok 0), some (.int m), some (.tok 2), none] F H (s, ns) := {
    fh := pr.gr.fh
    zf := fun b hb => by
      rcases hb with hb | hb | hb
      · exact pr.zf b (.inl hb)
      · exact pr.zf b (.inr hb)
      · rw [hb]; exact c4
    ok := ⟨pr.ok, hap, haq, c3⟩
    sl := ⟨sl3, nofun⟩
    len := pr.len }
  refine eV σ _ F H (s, ns) _ _ _ pre er fun v F' H' g1 k1 r => ?_
  have up : Grow (Z3 p q a).z F0 H0 F H := ⟨fun b o hb hh => pr.gr.hh b o (fun z => hb (z.elim .inl fun z => .inr (.inl z))) hh, pr.gr.ff, pr.gr.fh, pr.gr.nw⟩
  have g := up.trans g1 pre.hz
  refine post v F' H' ⟨fun b o hb hh => g.hh b o (fun z => ?_) hh, g.ff, g.fh, g.nw⟩ k1.1 ?_
  · rcases z with z | z | z
    · exact hb (.inl z)
    · exact hb (.inr z)
    · rw [z, c5] at hh; cases hh
  · cases r with
    | tup ha rs => exact .tup ha (reps_js rs).1
theorem SE.popS {T : CT} {R : RC} {p q a : Addr} {m : Bool} {i j k : Nat} {f : Addr} {fd : FuncData} {ps : List Str} {g : List D → DS → Option (D × DS)} {x yr yd : Str} {p1 p2 p3 p4 p5 apos cpos pos2 pos4 : Pos} (hR : T.R = R3 R a) (h0 : R.tk 0 = p) (G : FnOk T.P T.w R.K T.mg T.base CX0 k f fd ps (spS R (ZD p q) 2 g)) (hk : k ≤ T.k) (mx : T.mg x = some (.ref f)) (kp : PySem.W.keepIn R.K (.ref f) = true) (b : Binds R.K fd ps []) (ml : T.mg (Str.ofString "len") = none)
    (hx : T.N[i]? = some yr := by rfl) (hv : Vis T.sc yr := by first | exact .inl rfl | exact .inr (.inl rfl) | exact .inr (.inr rfl)) (h1 : (yr == Str.ofString "__debug__") = false := by rfl) (h2 : (yr == Str.ofString "__classdict__") = false := by rfl)
    (hxd : T.N[j]? = some yd := by rfl) (hvd : Vis T.sc yd := by first | exact .inl rfl | exact .inr (.inl rfl) | exact .inr (.inr rfl)) (h3 : (yd == Str.ofString "__debug__") = false := by rfl) (h4 : (yd == Str.ofString "__classdict__") = false := by rfl)
    (gx : List.lookup x T.sc.names = some NameKind.globalImplicit := by rfl) (gl : List.lookup (Str.ofString "len") T.sc.names = some NameKind.globalImplicit := by rfl) (n2 : (x == Str.ofString "__debug__") = false := by rfl)
    (hs1 : ∀ env, starEach [Expr.Name yr p5] env = (false, eval (.Name yr p5) env) :: starEach [] env := by exact fun _ => rfl)
    (hs2 : ∀ env, starEach [Expr.Name yd p3, .Call (.Name (Str.ofString "len") p4) [.Name yr p5] [] pos4] env = (false, eval (.Name yd p3) env) :: starEach [.Call (.Name (Str.ofString "len") p4) [.Name yr p5] [] pos4] env := by exact fun _ => rfl)
    (hs3 : ∀ env, ((backTo pos2 (starEach [Expr.Call (.Name (Str.ofString "len") p4) [.Name yr p5] [] pos4] env)).any fun x => x.fst) = false := by exact fun _ => rfl)
    (hs4 : ∀ env, starEach [Expr.Call (.Name (Str.ofString "len") p4) [.Name yr p5] [] pos4] env = (false, eval (.Call (.Name (Str.ofString "len") p4) [.Name yr p5] [] pos4) env) :: starEach [] env := by exact fun _ => rfl)
    (hb : BmOk (.Name yr p1) (.Call (.Name x p2) [.Name yd p3, .Call (.Name (Str.ofString "len") p4) [.Name yr p5] [] pos4] [] pos2) [] (Str.ofString "pop") apos cpos := by exact fun _ => ⟨rfl, rfl, rfl, rfl⟩) (hl : (apos.endLine == cpos.line) = true := by rfl) :
    SE T (Z3 p q a) m (.Call (.Attribute (.Name yr p1) (Str.ofString "pop") apos) [.Call (.Name x p2) [.Name yd p3, .Call (.Name (Str.ofString "len") p4) [.Name yr p5] [] pos4] [] pos2] [] cpos) (fPopS g i j) :=
  ⟨tePop R p q g i j, fun X h => by
    have hK : X.K = R.K := by rw [h.K, hR]; rfl
    have vr : ∀ pos, PE X (.Name yr pos) (tVar i) := fun pos => pv i (by rw [h.N]; exact hx) (by rw [h.sc]; exact hv) h1 h2
    have vd : PE X (.Name yd p3) (tVar j) := pv j (by rw [h.N]; exact hxd) (by rw [h.sc]; exact hvd) h3 h4
    have ln : PE X (.Call (.Name (Str.ofString "len") p4) [.Name yr p5] [] pos4) (tCB (rLenX R.K) (tCons (tVar i) tNil)) := pe_callB (by rw [← hK]; exact call_lenX) (by show List.lookup _ X.env.scope.names = _; rw [h.sc]; exact gl) (by rw [h.mg]; exact ml) (by rfl) (pa_cons (vr p5) pa_nil (hs1 X.env)) (by decide) (by rfl) (hs1 X.env) rfl
    have G' : FnOk X.prog X.w X.K X.mg X.base CX0 k f fd ps (spS R (ZD p q) 2 g) := by rw [h.prog, h.w, hK, h.mg, h.base]; exact G
    have cl : PE X (.Call (.Name x p2) [.Name yd p3, .Call (.Name (Str.ofString "len") p4) [.Name yr p5] [] pos4] [] pos2) (tCall (spS R (ZD p q) 2 g) [] E0 (tCons (tVar j) (tCons (tCB (rLenX R.K) (tCons (tVar i) tNil)) tNil))) := pe_call G' (h.room.mono hk) (by show List.lookup x X.env.scope.names = _; rw [h.sc]; exact gx) (by rw [h.mg]; exact mx) (by rw [hK]; exact kp) (by rw [hK]; exact b) .nil pass0 (pa_cons vd (pa_cons ln pa_nil (hs4 X.env)) (hs2 X.env)) n2 (hs2 X.env) (hs3 X.env)
    have := pe_bmQ (cpos := cpos) PySem.F.plainAttrs_list PySem.F.slot_list_pop PySem.F.type_list_pop mt_popAt (vr p1) (pa_cons cl pa_nil (hb X.env).2.2.1) hb hl
    rw [hK] at this
    exact this, by rw [hR]; exact EV.popS h0⟩
theorem SS.shuf {T : CT} {p q : Addr} {e : Expr} {fe : Fn (DS × List Int) D} {pos : Pos} (h0 : T.R.tk 0 = p) (h : ∀ a, SE ⟨T.P, T.w, R3 T.R a, T.mg, T.base, T.N, T.sc, T.fn, T.k⟩ (Z3 p q a) false e fe) : SS T (ZD p q) (.Return (some e) pos) (sShuf fe) :=
  ⟨tShuf T e, fun X i => ⟨fun pins s σ H D I ⟨te, pe, hh⟩ => (ps_ret (pe X i)).run pins s σ H D I hh⟩, ST.shuf h0 h⟩
end SL
/-! sorted(x), x a tuple or a list of alike data -/
namespace SL
open PySem PySem.Spec PyProof.Rows L2
open Evl (Ex)
section
variable {prog : Program} {w : World} {A : Around} {E : Value → Shared → Prop} {st : Shared}
theorem collect_tup {t : Addr} {us : List Value} {K : List Value → Shared → Prop} (tp : st.heap.IsTuple t us.toArray) (len : us.length ≤ sizeLine)
    (fin : K us { st with heap := (st.heap.push (seqObj "list" #[] 0)).update st.heap.objs.size (Obj.mapSeq (· ++ us.toArray)) }) : wpAny (model prog w) A (collect (.ref t)) K E st := by
  obtain ⟨ob, at0, isT, ep, dat⟩ := id tp
  unfold collect
  refine wpAny_bind (wpAny_runValue (codeAny_builtin entry_proto_collect' ?_))
  show wpAny _ _ (do again (.builtin "list.__iadd__" ⟨[← newList [], .ref t], []⟩)) _ _ st
  refine wpAny_bind (wpAny_newList (wpAny_pure ⟨Code.quiet_builtin _ (by decide +kernel), codeAny_builtin entry_list_iadd' ?_⟩))
  show wpAny _ _ (Builtin.List.listExtendWith (.ref st.heap.objs.size) (.ref t) (.ref st.heap.objs.size)) _ _ { st with heap := st.heap.push (seqObj "list" #[] 0) }
  unfold Builtin.List.listExtendWith
  have at1 : (st.heap.push (seqObj "list" #[] 0)).get? t = some ob := Heap.get?_push_of_some _ at0
  refine wpAny_bind (wpAny_typeOf (T := "tuple") ⟨ob, at1, isT⟩ ?_)
  have yes : (Value.type "tuple" == Value.type "tuple") = true := by rfl
  rw [if_pos (by rw [yes]; simp)]
  refine wpAny_bind (listItems_at at1 dat ?_)
  refine wpAny_bind (listItems_at (xs := #[]) (n := 0) (Heap.get?_push_size _ rfl) rfl ?_)
  rw [if_neg (by simp)]
  refine wpAny_bind (listUpdate_at (xs := #[]) (n := 0) (Heap.get?_push_size _ rfl) rfl ?_ (Nat.zero_le _) (by show (#[] ++ us.toArray).size ≤ sizeLine + 1; simp only [Array.size_append, List.size_toArray, List.length_nil]; omega))
  refine wpAny_pure ?_
  refine wpAny_bind (wpAny_load (get?_update_seq (Heap.get?_push_size _ rfl) _) ?_)
  show wpAny _ _ (pure ((#[] : Array Value) ++ us.toArray).toList) K E _
  rw [show ((#[] : Array Value) ++ us.toArray).toList = us by simp]
  exact wpAny_pure fin
theorem sorted_tup {t : Addr} {us : List Value} {K : Value → Shared → Prop} (tp : st.heap.IsTuple t us.toArray) (len : us.length ≤ sizeLine)
    (sorts : ∀ E' : Value → Shared → Prop, wpAny (model prog w) A.in1.in1 (Builtin.«list.sort» ⟨[.ref (st.heap.objs.size + 1)], []⟩) (fun f s' => f = .done (.ret .none) ∧ K (.ref (st.heap.objs.size + 1)) s') E' { st with heap := PySem.W.copyHeap st.heap us }) :
    wpAny (model prog w) A (call (.builtin "sorted") [.ref t]) K E st := by
  refine Calls.call_function_entry kind_sorted plain_sorted entry_sorted (args_sorted1 _) ?_
  unfold Builtin.«sorted»
  refine wpAny_bind (m := checkCount "sorted" 1 1 _) (wpAny_pure ?_)
  refine wpAny_bind (collect_tup tp len ?_)
  refine wpAny_bind (wpAny_newList ?_ len)
  have sz : ((st.heap.push (seqObj "list" #[] 0)).update st.heap.objs.size (Obj.mapSeq (· ++ us.toArray))).objs.size = st.heap.objs.size + 1 := by
    rw [Heap.size_update, PyProof.Rows.size_push']
  show wpAny _ _ _ _ _ { st with heap := PySem.W.copyHeap st.heap us }
  rw [sz]
  refine wpAny_bind (wpAny_holding (wpAny_call_entry slot_list_sort ⟨_, PySem.W.copyHeap_at st.heap us, rfl⟩ entry_list_sort ?body (args_list_sort _)))
  case body =>
    show wpAny (model prog w) A.in1.in1 (Builtin.«list.sort» ⟨[.ref (st.heap.objs.size + 1)], []⟩) _ _ _
    refine wpAny_mono (sorts _) (fun f s' hf => ?_) fun _ _ e => e
    obtain ⟨rfl, hq⟩ := hf
    exact ⟨_, rfl, wpAny_pure ⟨_, rfl, hq⟩⟩
open PySem.W in
theorem sorted_tupD {β : Type} {t : Addr} {us : List Value} {bs : List β} {enc : β → PyData} {R : Value → β → Prop} {K : Value → Shared → Prop} (tp : st.heap.IsTuple t us.toArray) (e : EachIs R us bs) (er : EachIs (fun v b => ∃ as, Reads st.heap v (enc b) as) us bs) (al : AllAlike (bs.map enc)) (so : Sortable (bs.map enc)) (len : bs.length ≤ sizeLine)
    (dp : ∀ b, b ∈ bs → A.units + 2 + (enc b).depth < cLine) (fin : ∀ out, out.length = bs.length → EachIs R out (bs.mergeSort (dataLe false enc)) → K (.ref (st.heap.objs.size + 1)) { st with heap := sortedAll st.heap us (List.toArray out) }) :
    wpAny (model prog w) A (call (.builtin "sorted") [.ref t]) K E st := by
  have after : EachIs (fun v b => ∃ as, Reads (sortingHeap (copyHeap st.heap us) (st.heap.objs.size + 1) us) v (enc b) as) us bs := er.mono fun _ _ ⟨as, r⟩ => ⟨as, PyProof.Rows.Reads.keeps (fun _ _ => sorting_copy_old) r⟩
  have le : us.length ≤ sizeLine := by rw [e.length]; exact len
  refine sorted_tup tp le fun E' => list_sort_vals (s := { st with heap := copyHeap st.heap us }) (copyHeap_at st.heap us) (SortsAt.data (s := { st with heap := sortingHeap (copyHeap st.heap us) (st.heap.objs.size + 1) us }) (each_map (R := fun v d => ∃ as, Reads (sortingHeap (copyHeap st.heap us) (st.heap.objs.size + 1) us) v d as) enc after) al so (bound_map dp)) le ⟨rfl, ?_⟩
  exact fin _ (by rw [sortVals_length false rfl]; exact e.length) (sortVals_data false e after al)
end
def rSortA (R : RC) : List V → Hp → VK → Prop := fun vs H Q => ∃ (a : Addr) (us : List V) (ds : List D) (F : Hp), vs = [.ref a] ∧ (SqL R.K H a us ∨ SqT R.K H a us) ∧ Ex F H ∧ Reps R F ds us ∧ sortOk ds = true ∧
  ∀ us' p, Reps R F (sortD ds) us' → H p = none → Q (.ref p) (upd H p (.lst us'))
theorem cr_sortA {X : Cx} {R : RC} (hK : X.K = R.K) (hu : X.A.units + 64 < cLine) : CallR X (.builtin "sorted") (rSortA R) := by
  intro pins s σ H vs us Q I r h
  obtain ⟨a, ws, ds, F, rfl, hs, hF, rr, ok, q⟩ := h
  rcases hs with hs | hs
  · exact cr_sortD hK hu pins s σ H _ us Q I r ⟨a, ws, ds, F, rfl, hs, hF, rr, ok, q⟩
  rw [← hK] at hs
  obtain ⟨its, rv, tp, hz⟩ := I.tuple hs
  rw [Vals.ref1 r]
  obtain ⟨k1, k2, k3⟩ := sortOk_ok ok
  have e := reads_each I hK hF rr k1 rv
  have hlen : ds.length = ws.length := rr.length
  refine sorted_tupD (enc := D.p) tp e (e.mono fun _ _ h => h.1) (fun u hu1 v hv1 => ?_) k3 (by rw [hlen]; exact hz) (fun d hd => ?_) fun out ho eo => ?_
  · obtain ⟨x, hx, rfl⟩ := List.mem_map.mp hu1
    obtain ⟨y, hy, rfl⟩ := List.mem_map.mp hv1
    exact (alikeD_p x y (k2 x hx y hy)).1
  · have := (okd_plain 40 d (k1 d hd)).2
    omega
  · rw [show ds.mergeSort (PySem.W.dataLe false D.p) = sortD ds from sortD_eq 40 ds k1 k2] at eo
    obtain ⟨us', c1, c2⟩ := each_back eo
    obtain ⟨ep, he'⟩ := PyProof.Rows.sortedAll_at s.heap its out.toArray
    have hlen' : us'.length ≤ sizeLine := by
      rw [← c2.length, sortD_length, hlen]
      exact hz
    exact ⟨.ref _, upd H (s.heap.objs.size + 1) (.lst us'), I.laid (t' := s.toks) (fun _ _ => PyProof.Rows.sortedAll_old) (Nat.le_succ _) ⟨hlen', out, ep, c1, he'⟩, rfl, q us' _ c2 (I.hok.fresh (Nat.le_succ _))⟩
def fSortA {S : Type} (fa : Fn S D) : Fn S (List D) := fun env s => match fa env s with
  | some (.lst ds, s1) => if sortOk ds then some (sortD ds, s1) else none
  | some (.tup ds, s1) => if sortOk ds then some (sortD ds, s1) else none
  | _ => none
section
variable {S : Type} {R : RC} {Z : SK S} {m : Bool} {ta : TE} {fa : Fn S D} {T : CT} {a : Expr} {p pos : Pos}
theorem EVl.sortA (h : EV R Z m ta fa) : EVl R Z m (tCB (rSortA R) (tCons ta tNil)) (fSortA fa) := by
  refine EVl.new fun σ env F H s ds s' Q p e q => ?_
  unfold fSortA at e
  split at e
  case h_3 => cases e
  all_goals
    rename_i ds1 s1 e1
    split at e
    case isFalse => cases e
    rename_i ok
    cases e
    refine h σ env F H s _ _ _ p e1 fun v F1 H1 g1 k1 r1 => ?_
    have p1 := p.next g1 k1
  · cases r1 with
    | lst h1 rs => exact ⟨_, _, ds1, F1, rfl, .inl (SqL.of (p1.fh _ _ h1)), p1.fh, rs, ok, fun us' a r ha => q F1 H1 us' g1 k1 r a ha⟩
  · cases r1 with
    | tup h1 rs => exact ⟨_, _, ds1, F1, rfl, .inr (SqT.of (p1.fh _ _ h1)), p1.fh, rs, ok, fun us' a r ha => q F1 H1 us' g1 k1 r a ha⟩
theorem SN.sortA (m1 : T.mg (Str.ofString "sorted") = none) (ha : SE T Z m a fa) (g1 : GlB T "sorted" := by rfl) (hs : ∀ env, starEach [a] env = (false, eval a env) :: starEach [] env := by exact fun _ => rfl) : SN T Z m (.Call (.Name (Str.ofString "sorted") p) [a] [] pos) (fSortA fa) := by
  obtain ⟨t, pA, eA⟩ := ha
  exact ⟨_, fun X h => by
    have h2 := pe_callB (p := p) (pos := pos) (cr_sortA (R := T.R) h.K h.hu) (by show List.lookup _ X.env.scope.names = _; rw [h.sc]; exact g1) (by rw [h.mg]; exact m1) (by rfl) (pa_cons (pA X h) pa_nil (hs X.env)) (by decide) (by rfl) (hs X.env) (by rfl)
    exact h2, EVl.sortA eA⟩
end
end SL
namespace Lawk57
open PySem PySem.Spec PyProof.Rows L2 SL
def topS (i : Nat) : Stmt := PySem.Challenge.pw_codehall_k57_whole_columns_that_share_li.main.body.getD i (.Pass ⟨0, 0, 0, 0⟩)
abbrev s__law_take : Stmt := topS 39
def N__law_take : List Str := [Str.ofString "d", Str.ofString "many", Str.ofString "small", Str.ofString "digit"]
def P__law_take : List Str := [Str.ofString "d", Str.ofString "many"]
theorem sc__law_take : FnScope N__law_take P__law_take (defScope s__law_take) := ⟨rfl, rfl, rfl, by decide +kernel, rfl, by decide +kernel, by decide +kernel⟩
abbrev s__law_shuffled : Stmt := topS 40
def N__law_shuffled : List Str := [Str.ofString "d", Str.ofString "n", Str.ofString "rest", Str.ofString "k"]
def P__law_shuffled : List Str := [Str.ofString "d", Str.ofString "n"]
theorem sc__law_shuffled : FnScope N__law_shuffled P__law_shuffled (defScope s__law_shuffled) := ⟨rfl, rfl, rfl, by decide +kernel, rfl, by decide +kernel, by decide +kernel⟩
abbrev s_columns : Stmt := topS 18
def N_columns : List Str := [Str.ofString "many", Str.ofString "tests", Str.ofString "item", Str.ofString "at", Str.ofString "test"]
def P_columns : List Str := [Str.ofString "many", Str.ofString "tests"]
theorem sc_columns : FnScope N_columns P_columns (defScope s_columns) := ⟨rfl, rfl, rfl, by decide +kernel, rfl, by decide +kernel, by decide +kernel⟩
abbrev s_is_integer : Stmt := topS 7
def N_is_integer : List Str := [Str.ofString "value"]
def P_is_integer : List Str := [Str.ofString "value"]
theorem sc_is_integer : FnScope N_is_integer P_is_integer (defScope s_is_integer) := ⟨rfl, rfl, rfl, by decide +kernel, rfl, by decide +kernel, by decide +kernel⟩
abbrev s_is_part : Stmt := topS 16
def N_is_part : List Str := [Str.ofString "value", Str.ofString "many", Str.ofString "each", Str.ofString "one", Str.ofString "other"]
def P_is_part : List Str := [Str.ofString "value", Str.ofString "many"]
theorem sc_is_part : FnScope N_is_part P_is_part (defScope s_is_part) := ⟨rfl, rfl, rfl, by decide +kernel, rfl, by decide +kernel, by decide +kernel⟩
abbrev s_check_tests : Stmt := topS 15
def N_check_tests : List Str := [Str.ofString "many", Str.ofString "tests", Str.ofString "test"]
def P_check_tests : List Str := [Str.ofString "many", Str.ofString "tests"]
theorem sc_check_tests : FnScope N_check_tests P_check_tests (defScope s_check_tests) := ⟨rfl, rfl, rfl, by decide +kernel, rfl, by decide +kernel, by decide +kernel⟩
abbrev s_parts : Stmt := topS 19
def N_parts : List Str := [Str.ofString "items", Str.ofString "most", Str.ofString "found", Str.ofString "layer", Str.ofString "turn", Str.ofString "row", Str.ofString "item"]
def P_parts : List Str := [Str.ofString "items", Str.ofString "most"]
theorem sc_parts : FnScope N_parts P_parts (defScope s_parts) := ⟨rfl, rfl, rfl, by decide +kernel, rfl, by decide +kernel, by decide +kernel⟩
abbrev s_cover_paper : Stmt := topS 20
def N_cover_paper : List Str := [Str.ofString "many", Str.ofString "tests", Str.ofString "most", Str.ofString "rows", Str.ofString "item", Str.ofString "part", Str.ofString "other", Str.ofString "at"]
def P_cover_paper : List Str := [Str.ofString "many", Str.ofString "tests", Str.ofString "most"]
theorem sc_cover_paper : FnScope N_cover_paper P_cover_paper (defScope s_cover_paper) := ⟨rfl, rfl, rfl, by decide +kernel, rfl, by decide +kernel, by decide +kernel⟩
abbrev s_outcome : Stmt := topS 17
def N_outcome : List Str := [Str.ofString "tests", Str.ofString "bad", Str.ofString "test", Str.ofString "item"]
def P_outcome : List Str := [Str.ofString "tests", Str.ofString "bad"]
theorem sc_outcome : FnScope N_outcome P_outcome (defScope s_outcome) := ⟨rfl, rfl, rfl, by decide +kernel, rfl, by decide +kernel, by decide +kernel⟩
abbrev s_same_paper : Stmt := topS 22
def N_same_paper : List Str := [Str.ofString "many", Str.ofString "tests", Str.ofString "most", Str.ofString "seen", Str.ofString "part", Str.ofString "key"]
def P_same_paper : List Str := [Str.ofString "many", Str.ofString "tests", Str.ofString "most"]
theorem sc_same_paper : FnScope N_same_paper P_same_paper (defScope s_same_paper) := ⟨rfl, rfl, rfl, by decide +kernel, rfl, by decide +kernel, by decide +kernel⟩
abbrev s__law_pick : Stmt := topS 41
def N__law_pick : List Str := [Str.ofString "d", Str.ofString "menu"]
def P__law_pick : List Str := [Str.ofString "d", Str.ofString "menu"]
theorem sc__law_pick : FnScope N__law_pick P__law_pick (defScope s__law_pick) := ⟨rfl, rfl, rfl, by decide +kernel, rfl, by decide +kernel, by decide +kernel⟩
abbrev s_digits_of : Stmt := topS 8
def N_digits_of : List Str := [Str.ofString "number", Str.ofString "base", Str.ofString "many", Str.ofString "found", Str.ofString "turn"]
def P_digits_of : List Str := [Str.ofString "number", Str.ofString "base", Str.ofString "many"]
theorem sc_digits_of : FnScope N_digits_of P_digits_of (defScope s_digits_of) := ⟨rfl, rfl, rfl, by decide +kernel, rfl, by decide +kernel, by decide +kernel⟩
abbrev s_number_of : Stmt := topS 9
def N_number_of : List Str := [Str.ofString "digits", Str.ofString "base", Str.ofString "found", Str.ofString "digit"]
def P_number_of : List Str := [Str.ofString "digits", Str.ofString "base"]
theorem sc_number_of : FnScope N_number_of P_number_of (defScope s_number_of) := ⟨rfl, rfl, rfl, by decide +kernel, rfl, by decide +kernel, by decide +kernel⟩
abbrev s_Field_sum_of : Stmt := (clsBody (topS 10)).getD 1 (.Pass ⟨0, 0, 0, 0⟩)
def N_Field_sum_of : List Str := [Str.ofString "self", Str.ofString "one", Str.ofString "other", Str.ofString "left", Str.ofString "right"]
def P_Field_sum_of : List Str := [Str.ofString "self", Str.ofString "one", Str.ofString "other"]
theorem sc_Field_sum_of : FnScope N_Field_sum_of P_Field_sum_of (defScope s_Field_sum_of) := ⟨rfl, rfl, rfl, by decide +kernel, rfl, by decide +kernel, by decide +kernel⟩
abbrev s_Field_product_of : Stmt := (clsBody (topS 10)).getD 2 (.Pass ⟨0, 0, 0, 0⟩)
def N_Field_product_of : List Str := [Str.ofString "self", Str.ofString "one", Str.ofString "other", Str.ofString "made", Str.ofString "at", Str.ofString "left", Str.ofString "to", Str.ofString "right", Str.ofString "value", Str.ofString "number"]
def P_Field_product_of : List Str := [Str.ofString "self", Str.ofString "one", Str.ofString "other"]
theorem sc_Field_product_of : FnScope N_Field_product_of P_Field_product_of (defScope s_Field_product_of) := ⟨rfl, rfl, rfl, by decide +kernel, rfl, by decide +kernel, by decide +kernel⟩
abbrev s_Field___init__ : Stmt := (clsBody (topS 10)).getD 0 (.Pass ⟨0, 0, 0, 0⟩)
def N_Field___init__ : List Str := [Str.ofString "self", Str.ofString "size", Str.ofString "rows", Str.ofString "member", Str.ofString "one", Str.ofString "other"]
def P_Field___init__ : List Str := [Str.ofString "self", Str.ofString "size"]
theorem sc_Field___init__ : FnScope N_Field___init__ P_Field___init__ (defScope s_Field___init__) := ⟨rfl, rfl, rfl, by decide +kernel, rfl, by decide +kernel, by decide +kernel⟩
abbrev s_Field_check : Stmt := (clsBody (topS 10)).getD 3 (.Pass ⟨0, 0, 0, 0⟩)
def N_Field_check : List Str := [Str.ofString "self", Str.ofString "member"]
def P_Field_check : List Str := [Str.ofString "self", Str.ofString "member"]
theorem sc_Field_check : FnScope N_Field_check P_Field_check (defScope s_Field_check) := ⟨rfl, rfl, rfl, by decide +kernel, rfl, by decide +kernel, by decide +kernel⟩
abbrev s_Field_times : Stmt := (clsBody (topS 10)).getD 6 (.Pass ⟨0, 0, 0, 0⟩)
def N_Field_times : List Str := [Str.ofString "self", Str.ofString "one", Str.ofString "other"]
def P_Field_times : List Str := [Str.ofString "self", Str.ofString "one", Str.ofString "other"]
theorem sc_Field_times : FnScope N_Field_times P_Field_times (defScope s_Field_times) := ⟨rfl, rfl, rfl, by decide +kernel, rfl, by decide +kernel, by decide +kernel⟩
abbrev s_Field_plus : Stmt := (clsBody (topS 10)).getD 4 (.Pass ⟨0, 0, 0, 0⟩)
def N_Field_plus : List Str := [Str.ofString "self", Str.ofString "one", Str.ofString "other"]
def P_Field_plus : List Str := [Str.ofString "self", Str.ofString "one", Str.ofString "other"]
theorem sc_Field_plus : FnScope N_Field_plus P_Field_plus (defScope s_Field_plus) := ⟨rfl, rfl, rfl, by decide +kernel, rfl, by decide +kernel, by decide +kernel⟩
abbrev s_Field_value : Stmt := (clsBody (topS 10)).getD 14 (.Pass ⟨0, 0, 0, 0⟩)
def N_Field_value : List Str := [Str.ofString "self", Str.ofString "row", Str.ofString "point", Str.ofString "found", Str.ofString "number"]
def P_Field_value : List Str := [Str.ofString "self", Str.ofString "row", Str.ofString "point"]
theorem sc_Field_value : FnScope N_Field_value P_Field_value (defScope s_Field_value) := ⟨rfl, rfl, rfl, by decide +kernel, rfl, by decide +kernel, by decide +kernel⟩
abbrev s_square_tests : Stmt := topS 23
def N_square_tests : List Str := [Str.ofString "field", Str.ofString "many", Str.ofString "rows", Str.ofString "turn", Str.ofString "tests", Str.ofString "point", Str.ofString "value", Str.ofString "row", Str.ofString "at"]
def P_square_tests : List Str := [Str.ofString "field", Str.ofString "many"]
theorem sc_square_tests : FnScope N_square_tests P_square_tests (defScope s_square_tests) := ⟨rfl, rfl, rfl, by decide +kernel, rfl, by decide +kernel, by decide +kernel⟩
abbrev s_Field_inverse : Stmt := (clsBody (topS 10)).getD 7 (.Pass ⟨0, 0, 0, 0⟩)
def N_Field_inverse : List Str := [Str.ofString "self", Str.ofString "one"]
def P_Field_inverse : List Str := [Str.ofString "self", Str.ofString "one"]
theorem sc_Field_inverse : FnScope N_Field_inverse P_Field_inverse (defScope s_Field_inverse) := ⟨rfl, rfl, rfl, by decide +kernel, rfl, by decide +kernel, by decide +kernel⟩
abbrev s_bits_down : Stmt := topS 11
def N_bits_down : List Str := [Str.ofString "number", Str.ofString "found"]
def P_bits_down : List Str := [Str.ofString "number"]
theorem sc_bits_down : FnScope N_bits_down P_bits_down (defScope s_bits_down) := ⟨rfl, rfl, rfl, by decide +kernel, rfl, by decide +kernel, by decide +kernel⟩
abbrev s_Field_power : Stmt := (clsBody (topS 10)).getD 8 (.Pass ⟨0, 0, 0, 0⟩)
def N_Field_power : List Str := [Str.ofString "self", Str.ofString "one", Str.ofString "exponent", Str.ofString "found", Str.ofString "bit"]
def P_Field_power : List Str := [Str.ofString "self", Str.ofString "one", Str.ofString "exponent"]
theorem sc_Field_power : FnScope N_Field_power P_Field_power (defScope s_Field_power) := ⟨rfl, rfl, rfl, by decide +kernel, rfl, by decide +kernel, by decide +kernel⟩
abbrev s_reed_solomon : Stmt := topS 36
def N_reed_solomon : List Str := [Str.ofString "size", Str.ofString "many", Str.ofString "field", Str.ofString "rows", Str.ofString "exponent", Str.ofString "point"]
def P_reed_solomon : List Str := [Str.ofString "size", Str.ofString "many"]
theorem sc_reed_solomon : FnScope N_reed_solomon P_reed_solomon (defScope s_reed_solomon) := ⟨rfl, rfl, rfl, by decide +kernel, rfl, by decide +kernel, by decide +kernel⟩
abbrev s_is_word : Stmt := topS 28
def N_is_word : List Str := [Str.ofString "field", Str.ofString "length", Str.ofString "word", Str.ofString "each"]
def P_is_word : List Str := [Str.ofString "field", Str.ofString "length", Str.ofString "word"]
theorem sc_is_word : FnScope N_is_word P_is_word (defScope s_is_word) := ⟨rfl, rfl, rfl, by decide +kernel, rfl, by decide +kernel, by decide +kernel⟩
abbrev s_check_rows : Stmt := topS 27
def N_check_rows : List Str := [Str.ofString "field", Str.ofString "length", Str.ofString "rows", Str.ofString "row"]
def P_check_rows : List Str := [Str.ofString "field", Str.ofString "length", Str.ofString "rows"]
theorem sc_check_rows : FnScope N_check_rows P_check_rows (defScope s_check_rows) := ⟨rfl, rfl, rfl, by decide +kernel, rfl, by decide +kernel, by decide +kernel⟩
abbrev s_scaled : Stmt := topS 29
def N_scaled : List Str := [Str.ofString "field", Str.ofString "word", Str.ofString "factor", Str.ofString "each"]
def P_scaled : List Str := [Str.ofString "field", Str.ofString "word", Str.ofString "factor"]
theorem sc_scaled : FnScope N_scaled P_scaled (defScope s_scaled) := ⟨rfl, rfl, rfl, by decide +kernel, rfl, by decide +kernel, by decide +kernel⟩
abbrev s_Field_minus : Stmt := (clsBody (topS 10)).getD 5 (.Pass ⟨0, 0, 0, 0⟩)
def N_Field_minus : List Str := [Str.ofString "self", Str.ofString "one"]
def P_Field_minus : List Str := [Str.ofString "self", Str.ofString "one"]
theorem sc_Field_minus : FnScope N_Field_minus P_Field_minus (defScope s_Field_minus) := ⟨rfl, rfl, rfl, by decide +kernel, rfl, by decide +kernel, by decide +kernel⟩
abbrev s_sum_of : Stmt := topS 30
def N_sum_of : List Str := [Str.ofString "field", Str.ofString "one", Str.ofString "other", Str.ofString "left", Str.ofString "right"]
def P_sum_of : List Str := [Str.ofString "field", Str.ofString "one", Str.ofString "other"]
theorem sc_sum_of : FnScope N_sum_of P_sum_of (defScope s_sum_of) := ⟨rfl, rfl, rfl, by decide +kernel, rfl, by decide +kernel, by decide +kernel⟩
abbrev s_less : Stmt := topS 31
def N_less : List Str := [Str.ofString "field", Str.ofString "one", Str.ofString "other", Str.ofString "factor"]
def P_less : List Str := [Str.ofString "field", Str.ofString "one", Str.ofString "other", Str.ofString "factor"]
theorem sc_less : FnScope N_less P_less (defScope s_less) := ⟨rfl, rfl, rfl, by decide +kernel, rfl, by decide +kernel, by decide +kernel⟩
abbrev s_reduced : Stmt := topS 32
def N_reduced : List Str := [Str.ofString "field", Str.ofString "length", Str.ofString "rows", Str.ofString "made", Str.ofString "places", Str.ofString "place", Str.ofString "able", Str.ofString "top", Str.ofString "row", Str.ofString "at"]
def P_reduced : List Str := [Str.ofString "field", Str.ofString "length", Str.ofString "rows"]
theorem sc_reduced : FnScope N_reduced P_reduced (defScope s_reduced) := ⟨rfl, rfl, rfl, by decide +kernel, rfl, by decide +kernel, by decide +kernel⟩
abbrev s_words : Stmt := topS 33
def N_words : List Str := [Str.ofString "field", Str.ofString "length", Str.ofString "rows", Str.ofString "kept", Str.ofString "places", Str.ofString "many", Str.ofString "row", Str.ofString "found", Str.ofString "word", Str.ofString "factor"]
def P_words : List Str := [Str.ofString "field", Str.ofString "length", Str.ofString "rows"]
theorem sc_words : FnScope N_words P_words (defScope s_words) := ⟨rfl, rfl, rfl, by decide +kernel, rfl, by decide +kernel, by decide +kernel⟩
abbrev s_weight : Stmt := topS 34
def N_weight : List Str := [Str.ofString "word", Str.ofString "each"]
def P_weight : List Str := [Str.ofString "word"]
theorem sc_weight : FnScope N_weight P_weight (defScope s_weight) := ⟨rfl, rfl, rfl, by decide +kernel, rfl, by decide +kernel, by decide +kernel⟩
abbrev s_distance_paper : Stmt := topS 35
def N_distance_paper : List Str := [Str.ofString "field", Str.ofString "length", Str.ofString "rows", Str.ofString "best", Str.ofString "word", Str.ofString "size"]
def P_distance_paper : List Str := [Str.ofString "field", Str.ofString "length", Str.ofString "rows"]
theorem sc_distance_paper : FnScope N_distance_paper P_distance_paper (defScope s_distance_paper) := ⟨rfl, rfl, rfl, by decide +kernel, rfl, by decide +kernel, by decide +kernel⟩
abbrev s_told_by : Stmt := topS 21
def N_told_by : List Str := [Str.ofString "many", Str.ofString "tests", Str.ofString "results", Str.ofString "clear", Str.ofString "test", Str.ofString "result", Str.ofString "item"]
def P_told_by : List Str := [Str.ofString "many", Str.ofString "tests", Str.ofString "results"]
theorem sc_told_by : FnScope N_told_by P_told_by (defScope s_told_by) := ⟨rfl, rfl, rfl, by decide +kernel, rfl, by decide +kernel, by decide +kernel⟩
abbrev s__law_begin : Stmt := topS 38
def N__law_begin : List Str := [Str.ofString "script", Str.ofString "seed", Str.ofString "cell"]
def P__law_begin : List Str := [Str.ofString "script"]
theorem sc__law_begin : FnScope N__law_begin P__law_begin (defScope s__law_begin) := ⟨rfl, rfl, rfl, by decide +kernel, rfl, by decide +kernel, by decide +kernel⟩
abbrev s_law : Stmt := topS 42
def N_law : List Str := [Str.ofString "script", Str.ofString "d", Str.ofString "many", Str.ofString "high", Str.ofString "tall", Str.ofString "rows", Str.ofString "k", Str.ofString "tests", Str.ofString "shared", Str.ofString "most", Str.ofString "size", Str.ofString "numbers", Str.ofString "field", Str.ofString "n", Str.ofString "length", Str.ofString "code", Str.ofString "far", Str.ofString "made", Str.ofString "agree", Str.ofString "bad", Str.ofString "t", Str.ofString "j", Str.ofString "column"]
def P_law : List Str := [Str.ofString "script"]
theorem sc_law : FnScope N_law P_law (defScope s_law) := ⟨rfl, rfl, rfl, by decide +kernel, rfl, by decide +kernel, by decide +kernel⟩
def L_Field : List (Int × Int × List Int) := [(2, 2, [0, 1]), (3, 3, [0, 1]), (4, 2, [1, 1, 1])]
structure Tx (K : PySem.W.Frag) (mg : Str → Option Value) where
  f__law_take : Addr
  fd__law_take : FuncData
  F__law_take : Fun K (Str.ofString "_law_take") (Str.ofString "_law_take") s__law_take f__law_take fd__law_take
  b__law_take : Binds K fd__law_take P__law_take []
  m__law_take : mg (Str.ofString "_law_take") = some (.ref f__law_take)
  f__law_shuffled : Addr
  fd__law_shuffled : FuncData
  F__law_shuffled : Fun K (Str.ofString "_law_shuffled") (Str.ofString "_law_shuffled") s__law_shuffled f__law_shuffled fd__law_shuffled
  b__law_shuffled : Binds K fd__law_shuffled P__law_shuffled []
  m__law_shuffled : mg (Str.ofString "_law_shuffled") = some (.ref f__law_shuffled)
  f_columns : Addr
  fd_columns : FuncData
  F_columns : Fun K (Str.ofString "columns") (Str.ofString "columns") s_columns f_columns fd_columns
  b_columns : Binds K fd_columns P_columns []
  m_columns : mg (Str.ofString "columns") = some (.ref f_columns)
  f_is_integer : Addr
  fd_is_integer : FuncData
  F_is_integer : Fun K (Str.ofString "is_integer") (Str.ofString "is_integer") s_is_integer f_is_integer fd_is_integer
  b_is_integer : Binds K fd_is_integer P_is_integer []
  m_is_integer : mg (Str.ofString "is_integer") = some (.ref f_is_integer)
  f_is_part : Addr
  fd_is_part : FuncData
  F_is_part : Fun K (Str.ofString "is_part") (Str.ofString "is_part") s_is_part f_is_part fd_is_part
  b_is_part : Binds K fd_is_part P_is_part []
  m_is_part : mg (Str.ofString "is_part") = some (.ref f_is_part)
  f_check_tests : Addr
  fd_check_tests : FuncData
  F_check_tests : Fun K (Str.ofString "check_tests") (Str.ofString "check_tests") s_check_tests f_check_tests fd_check_tests
  b_check_tests : Binds K fd_check_tests P_check_tests []
  m_check_tests : mg (Str.ofString "check_tests") = some (.ref f_check_tests)
  f_parts : Addr
  fd_parts : FuncData
  F_parts : Fun K (Str.ofString "parts") (Str.ofString "parts") s_parts f_parts fd_parts
  b_parts : Binds K fd_parts P_parts []
  m_parts : mg (Str.ofString "parts") = some (.ref f_parts)
  f_cover_paper : Addr
  fd_cover_paper : FuncData
  F_cover_paper : Fun K (Str.ofString "cover_paper") (Str.ofString "cover_paper") s_cover_paper f_cover_paper fd_cover_paper
  b_cover_paper : Binds K fd_cover_paper P_cover_paper []
  m_cover_paper : mg (Str.ofString "cover_paper") = some (.ref f_cover_paper)
  f_outcome : Addr
  fd_outcome : FuncData
  F_outcome : Fun K (Str.ofString "outcome") (Str.ofString "outcome") s_outcome f_outcome fd_outcome
  b_outcome : Binds K fd_outcome P_outcome []
  m_outcome : mg (Str.ofString "outcome") = some (.ref f_outcome)
  f_same_paper : Addr
  fd_same_paper : FuncData
  F_same_paper : Fun K (Str.ofString "same_paper") (Str.ofString "same_paper") s_same_paper f_same_paper fd_same_paper
  b_same_paper : Binds K fd_same_paper P_same_paper []
  m_same_paper : mg (Str.ofString "same_paper") = some (.ref f_same_paper)
  f__law_pick : Addr
  fd__law_pick : FuncData
  F__law_pick : Fun K (Str.ofString "_law_pick") (Str.ofString "_law_pick") s__law_pick f__law_pick fd__law_pick
  b__law_pick : Binds K fd__law_pick P__law_pick []
  m__law_pick : mg (Str.ofString "_law_pick") = some (.ref f__law_pick)
  f_digits_of : Addr
  fd_digits_of : FuncData
  F_digits_of : Fun K (Str.ofString "digits_of") (Str.ofString "digits_of") s_digits_of f_digits_of fd_digits_of
  b_digits_of : Binds K fd_digits_of P_digits_of []
  m_digits_of : mg (Str.ofString "digits_of") = some (.ref f_digits_of)
  f_number_of : Addr
  fd_number_of : FuncData
  F_number_of : Fun K (Str.ofString "number_of") (Str.ofString "number_of") s_number_of f_number_of fd_number_of
  b_number_of : Binds K fd_number_of P_number_of []
  m_number_of : mg (Str.ofString "number_of") = some (.ref f_number_of)
  f_Field_sum_of : Addr
  fd_Field_sum_of : FuncData
  F_Field_sum_of : Fun K (Str.ofString "sum_of") (Str.ofString "Field.sum_of") s_Field_sum_of f_Field_sum_of fd_Field_sum_of
  b_Field_sum_of : Binds K fd_Field_sum_of P_Field_sum_of []
  f_Field_product_of : Addr
  fd_Field_product_of : FuncData
  F_Field_product_of : Fun K (Str.ofString "product_of") (Str.ofString "Field.product_of") s_Field_product_of f_Field_product_of fd_Field_product_of
  b_Field_product_of : Binds K fd_Field_product_of P_Field_product_of []
  f_Field___init__ : Addr
  fd_Field___init__ : FuncData
  F_Field___init__ : Fun K (Str.ofString "__init__") (Str.ofString "Field.__init__") s_Field___init__ f_Field___init__ fd_Field___init__
  b_Field___init__ : Binds K fd_Field___init__ P_Field___init__ []
  f_Field_check : Addr
  fd_Field_check : FuncData
  F_Field_check : Fun K (Str.ofString "check") (Str.ofString "Field.check") s_Field_check f_Field_check fd_Field_check
  b_Field_check : Binds K fd_Field_check P_Field_check []
  f_Field_times : Addr
  fd_Field_times : FuncData
  F_Field_times : Fun K (Str.ofString "times") (Str.ofString "Field.times") s_Field_times f_Field_times fd_Field_times
  b_Field_times : Binds K fd_Field_times P_Field_times []
  f_Field_plus : Addr
  fd_Field_plus : FuncData
  F_Field_plus : Fun K (Str.ofString "plus") (Str.ofString "Field.plus") s_Field_plus f_Field_plus fd_Field_plus
  b_Field_plus : Binds K fd_Field_plus P_Field_plus []
  f_Field_value : Addr
  fd_Field_value : FuncData
  F_Field_value : Fun K (Str.ofString "value") (Str.ofString "Field.value") s_Field_value f_Field_value fd_Field_value
  b_Field_value : Binds K fd_Field_value P_Field_value []
  f_square_tests : Addr
  fd_square_tests : FuncData
  F_square_tests : Fun K (Str.ofString "square_tests") (Str.ofString "square_tests") s_square_tests f_square_tests fd_square_tests
  b_square_tests : Binds K fd_square_tests P_square_tests []
  m_square_tests : mg (Str.ofString "square_tests") = some (.ref f_square_tests)
  f_Field_inverse : Addr
  fd_Field_inverse : FuncData
  F_Field_inverse : Fun K (Str.ofString "inverse") (Str.ofString "Field.inverse") s_Field_inverse f_Field_inverse fd_Field_inverse
  b_Field_inverse : Binds K fd_Field_inverse P_Field_inverse []
  f_bits_down : Addr
  fd_bits_down : FuncData
  F_bits_down : Fun K (Str.ofString "bits_down") (Str.ofString "bits_down") s_bits_down f_bits_down fd_bits_down
  b_bits_down : Binds K fd_bits_down P_bits_down []
  m_bits_down : mg (Str.ofString "bits_down") = some (.ref f_bits_down)
  f_Field_power : Addr
  fd_Field_power : FuncData
  F_Field_power : Fun K (Str.ofString "power") (Str.ofString "Field.power") s_Field_power f_Field_power fd_Field_power
  b_Field_power : Binds K fd_Field_power P_Field_power []
  f_reed_solomon : Addr
  fd_reed_solomon : FuncData
  F_reed_solomon : Fun K (Str.ofString "reed_solomon") (Str.ofString "reed_solomon") s_reed_solomon f_reed_solomon fd_reed_solomon
  b_reed_solomon : Binds K fd_reed_solomon P_reed_solomon []
  m_reed_solomon : mg (Str.ofString "reed_solomon") = some (.ref f_reed_solomon)
  f_is_word : Addr
  fd_is_word : FuncData
  F_is_word : Fun K (Str.ofString "is_word") (Str.ofString "is_word") s_is_word f_is_word fd_is_word
  b_is_word : Binds K fd_is_word P_is_word []
  m_is_word : mg (Str.ofString "is_word") = some (.ref f_is_word)
  f_check_rows : Addr
  fd_check_rows : FuncData
  F_check_rows : Fun K (Str.ofString "check_rows") (Str.ofString "check_rows") s_check_rows f_check_rows fd_check_rows
  b_check_rows : Binds K fd_check_rows P_check_rows []
  m_check_rows : mg (Str.ofString "check_rows") = some (.ref f_check_rows)
  f_scaled : Addr
  fd_scaled : FuncData
  F_scaled : Fun K (Str.ofString "scaled") (Str.ofString "scaled") s_scaled f_scaled fd_scaled
  b_scaled : Binds K fd_scaled P_scaled []
  m_scaled : mg (Str.ofString "scaled") = some (.ref f_scaled)
  f_Field_minus : Addr
  fd_Field_minus : FuncData
  F_Field_minus : Fun K (Str.ofString "minus") (Str.ofString "Field.minus") s_Field_minus f_Field_minus fd_Field_minus
  b_Field_minus : Binds K fd_Field_minus P_Field_minus []
  f_sum_of : Addr
  fd_sum_of : FuncData
  F_sum_of : Fun K (Str.ofString "sum_of") (Str.ofString "sum_of") s_sum_of f_sum_of fd_sum_of
  b_sum_of : Binds K fd_sum_of P_sum_of []
  m_sum_of : mg (Str.ofString "sum_of") = some (.ref f_sum_of)
  f_less : Addr
  fd_less : FuncData
  F_less : Fun K (Str.ofString "less") (Str.ofString "less") s_less f_less fd_less
  b_less : Binds K fd_less P_less []
  m_less : mg (Str.ofString "less") = some (.ref f_less)
  f_reduced : Addr
  fd_reduced : FuncData
  F_reduced : Fun K (Str.ofString "reduced") (Str.ofString "reduced") s_reduced f_reduced fd_reduced
  b_reduced : Binds K fd_reduced P_reduced []
  m_reduced : mg (Str.ofString "reduced") = some (.ref f_reduced)
  f_words : Addr
  fd_words : FuncData
  F_words : Fun K (Str.ofString "words") (Str.ofString "words") s_words f_words fd_words
  b_words : Binds K fd_words P_words []
  m_words : mg (Str.ofString "words") = some (.ref f_words)
  f_weight : Addr
  fd_weight : FuncData
  F_weight : Fun K (Str.ofString "weight") (Str.ofString "weight") s_weight f_weight fd_weight
  b_weight : Binds K fd_weight P_weight []
  m_weight : mg (Str.ofString "weight") = some (.ref f_weight)
  f_distance_paper : Addr
  fd_distance_paper : FuncData
  F_distance_paper : Fun K (Str.ofString "distance_paper") (Str.ofString "distance_paper") s_distance_paper f_distance_paper fd_distance_paper
  b_distance_paper : Binds K fd_distance_paper P_distance_paper []
  m_distance_paper : mg (Str.ofString "distance_paper") = some (.ref f_distance_paper)
  f_told_by : Addr
  fd_told_by : FuncData
  F_told_by : Fun K (Str.ofString "told_by") (Str.ofString "told_by") s_told_by f_told_by fd_told_by
  b_told_by : Binds K fd_told_by P_told_by []
  m_told_by : mg (Str.ofString "told_by") = some (.ref f_told_by)
  f__law_begin : Addr
  fd__law_begin : FuncData
  F__law_begin : Fun K (Str.ofString "_law_begin") (Str.ofString "_law_begin") s__law_begin f__law_begin fd__law_begin
  b__law_begin : Binds K fd__law_begin P__law_begin []
  m__law_begin : mg (Str.ofString "_law_begin") = some (.ref f__law_begin)
  f_law : Addr
  fd_law : FuncData
  F_law : Fun K (Str.ofString "law") (Str.ofString "law") s_law f_law fd_law
  b_law : Binds K fd_law P_law []
  m_law : mg (Str.ofString "law") = some (.ref f_law)
  z_abs : mg (Str.ofString "abs") = none
  z_all : mg (Str.ofString "all") = none
  z_any : mg (Str.ofString "any") = none
  z_bool : mg (Str.ofString "bool") = none
  z_enumerate : mg (Str.ofString "enumerate") = none
  z_int : mg (Str.ofString "int") = none
  z_isinstance : mg (Str.ofString "isinstance") = none
  z_len : mg (Str.ofString "len") = none
  z_list : mg (Str.ofString "list") = none
  z_max : mg (Str.ofString "max") = none
  z_range : mg (Str.ofString "range") = none
  z_reversed : mg (Str.ofString "reversed") = none
  z_set : mg (Str.ofString "set") = none
  z_sorted : mg (Str.ofString "sorted") = none
  z_tuple : mg (Str.ofString "tuple") = none
  z_zip : mg (Str.ofString "zip") = none
  k_MOST_ITEMS : (∃ tok, mg (Str.ofString "MOST_ITEMS") = some (.int 16 tok))
  k_MOST_LENGTH : (∃ tok, mg (Str.ofString "MOST_LENGTH") = some (.int 24 tok))
  k_MOST_TESTS : (∃ tok, mg (Str.ofString "MOST_TESTS") = some (.int 16 tok))
  k_MOST_WORDS : (∃ tok, mg (Str.ofString "MOST_WORDS") = some (.int 5000 tok))
  cF : Addr
  c0_cls : Cls K cF
  c0_na_size : NoAttr K cF (Str.ofString "size")
  c0_na_prime : NoAttr K cF (Str.ofString "prime")
  c0_na_modulus : NoAttr K cF (Str.ofString "modulus")
  c0_na_degree : NoAttr K cF (Str.ofString "degree")
  c0_na_sums : NoAttr K cF (Str.ofString "sums")
  c0_na_products : NoAttr K cF (Str.ofString "products")
  me_Field_sum_of : Meth K cF (Str.ofString "sum_of") f_Field_sum_of
  me_Field_product_of : Meth K cF (Str.ofString "product_of") f_Field_product_of
  me_Field_check : Meth K cF (Str.ofString "check") f_Field_check
  me_Field_times : Meth K cF (Str.ofString "times") f_Field_times
  me_Field_plus : Meth K cF (Str.ofString "plus") f_Field_plus
  me_Field_value : Meth K cF (Str.ofString "value") f_Field_value
  me_Field_inverse : Meth K cF (Str.ofString "inverse") f_Field_inverse
  me_Field_power : Meth K cF (Str.ofString "power") f_Field_power
  me_Field_minus : Meth K cF (Str.ofString "minus") f_Field_minus
  mk_Field : Mk K cF f_Field___init__
  m_Field : mg (Str.ofString "Field") = some (.ref cF)
  a_SH : Addr
  fvS : Int → Option V
  kd_SH : KInt K a_SH fvS
  m_SHAPES : mg (Str.ofString "SHAPES") = some (.ref a_SH)
  U : List Shp
  sh_ok : ∀ s ∈ U, s.ok K fvS
  hU : U.map Shp.pl = L_Field
section
variable {P : Program} {w : World} {K : PySem.W.Frag} {mg : Str → Option Value} {base : Heap} (t : Tx K mg) (tk : Nat → Addr)
abbrev Tx.R (t : Tx K mg) (tk : Nat → Addr) : RC := ⟨K, fun _ => t.cF, fieldNm, tk⟩
def b__law_take : Stm DS := (sSeq (sIf (fAnd (fTest (fOp gEq (fSt 0 2) (fC (.int 0)))) (fTest (fOp gLt (fSt 0 1) (fStL (fSt 0 0))))) (sSeq (sStSet 0 2 (fCall gAbs (fCons (fCall gInt (fCons (fStX (fSt 0 0) (fSt 0 1)) fNil)) fNil)))
    (sSeq (sStSet 0 1 (fOp gAdd (fSt 0 1) (fC (.int 1))))
    (sIf (fTest (fOp gLt (fSt 0 2) (fOp gPow (fC (.int 10)) (fC (.int 18))))) (sSeq (sAsg (fCall gInt (fCons (fSt 0 2) fNil)) (bName 2))
    (sSeq (sStSet 0 2 (fC (.int 0)))
    (sRet (fOp gMod (fVar 2) (fVar 1)))))
    sNext)))
    sNext)
    (sSeq (sIf (fTest (fOp gGt (fSt 0 2) (fC (.int 0)))) (sSeq (sAsg (fOp gMod (fCall gInt (fCons (fSt 0 2) fNil)) (fVar 1)) (bName 3))
    (sSeq (sStSet 0 2 (fOp gDiv (fCall gInt (fCons (fSt 0 2) fNil)) (fVar 1)))
    (sRet (fVar 3))))
    sNext)
    (sSeq (sStSet 0 3 (fOp gMod (fCall gInt (fCons (fOp gAdd (fOp gMulX (fSt 0 3) (fC (.int 69621))) (fC (.int 7))) fNil)) (fC (.int 2147483647))))
    (sRet (fOp gMod (fCall gInt (fCons (fOp gDiv (fSt 0 3) (fC (.int 5))) fNil)) (fVar 1))))))
def g__law_take : List D → DS → Option (D × DS) := runS N__law_take.length b__law_take
theorem ok__law_take (p q : Addr) : FnOk P w K mg base CX0 1 t.f__law_take t.fd__law_take P__law_take (spS (t.R (tkk p q)) (ZD p q) 2 g__law_take) := by
  have h : SB ⟨P, w, t.R (tkk p q), mg, base, N__law_take, defScope s__law_take, fun _ => true, 0⟩ (ZD p q) (defBody s__law_take) b__law_take := (SB.cons (SS.ite (XQ.mA (SQ.and (SQ.ord .eq (SE.st 0 2) SE.int) (SQ.and1 (SQ.ord .lt (SE.st 0 1) (SE.stl t.z_len (SE.st 0 0)))))) (SB.cons (SS.stset 0 2 (XE.mA (SE.abs t.z_abs (SA.cons (SE.toInt t.z_int (SA.cons (SE.stx (SE.st 0 0) (SE.st 0 1)) SA.nil)) SA.nil))))
    (SB.cons (SS.stset 0 1 (XE.mA (SE.add (SE.st 0 1) SE.int)))
    (SB.one (SS.ite (XQ.mA (SQ.ord .lt (SE.st 0 2) (SE.pow SE.int SE.int))) (SB.cons (SS.set 2 (XE.mA (SE.toInt t.z_int (SA.cons (SE.st 0 2) SA.nil))))
    (SB.cons (SS.stset 0 2 (XE.mA SE.int))
    (SB.one (SS.ret (XE.mA (SE.mod (SE.var 2) (SE.var 1)))))))
    SB.nil))))
    SB.nil)
    (SB.cons (SS.ite (XQ.mA (SQ.ord .gt (SE.st 0 2) SE.int)) (SB.cons (SS.set 3 (XE.mA (SE.mod (SE.toInt t.z_int (SA.cons (SE.st 0 2) SA.nil)) (SE.var 1))))
    (SB.cons (SS.stset 0 2 (XE.mA (SE.div (SE.toInt t.z_int (SA.cons (SE.st 0 2) SA.nil)) (SE.var 1))))
    (SB.one (SS.ret (XE.mA (SE.var 3))))))
    SB.nil)
    (SB.cons (SS.stset 0 3 (XE.mA (SE.mod (SE.toInt t.z_int (SA.cons (SE.add (SE.mulA (SE.st 0 3) SE.int) SE.int) SA.nil)) SE.int)))
    (SB.one (SS.ret (XE.mA (SE.mod (SE.toInt t.z_int (SA.cons (SE.div (SE.st 0 3) SE.int) SA.nil)) (SE.var 1))))))))
  exact defS (R := t.R (tkk p q)) t.F__law_take sc__law_take h (by decide)
def b__law_shuffled : Stm DS := (sSeq (sOwn 2 (fRgv1 (fVar 1)))
    (sShuf (fCall gTuple (fCons (fL (fLc (fRng1 (fCons (fVar 1) fNil)) (bName 3) fYes (fPopS g__law_take 2 0) [3])) fNil))))
def g__law_shuffled : List D → DS → Option (D × DS) := runS N__law_shuffled.length b__law_shuffled
theorem ok__law_shuffled (p q : Addr) : FnOk P w K mg base CX0 2 t.f__law_shuffled t.fd__law_shuffled P__law_shuffled (spS (t.R (tkk p q)) (ZD p q) 2 g__law_shuffled) := by
  have h : SB ⟨P, w, t.R (tkk p q), mg, base, N__law_shuffled, defScope s__law_shuffled, fun _ => true, 1⟩ (ZD p q) (defBody s__law_shuffled) b__law_shuffled := (SB.cons (SS.own 2 (XN.mA (SN.rgv1 t.z_range t.z_list (SE.var 1))))
    (SB.one (SS.shuf rfl fun _ => SE.tuple t.z_tuple (SA.cons (SN.ev (SN.lc (own := [((Str.ofString "k"), 3)]) (SW.rng1 t.z_range (SA.cons (SE.var 1) SA.nil)) (blkOk_by (N := N__law_shuffled) (sc := (defScope s__law_shuffled)) (own := [((Str.ofString "k"), 3)]) (by decide +kernel)) (SG.name 3) SQs.nil (SE.popS (R := t.R (tkk p q)) rfl rfl (ok__law_take t p q) (Nat.le_of_ble_eq_true rfl) t.m__law_take t.F__law_take.kp t.b__law_take t.z_len))) SA.nil))))
  exact defS (R := t.R (tkk p q)) t.F__law_shuffled sc__law_shuffled h (by decide)
def b_columns : Stm Unit := (sRet (fCall gTuple (fCons (fL (fLc (fRng1 (fCons (fVar 0) fNil)) (bName 2) fYes (fCall gTuple (fCons (fL (fLc (fEnumA (fCons (fVar 1) fNil)) (bTup (bsCons (bName 3) (bsCons (bName 4) bsNil))) (fTest (fOp gIn (fVar 2) (fVar 4))) (fVar 3) [3, 4])) fNil)) [2])) fNil)))
def g_columns : List D → Option D := runP N_columns.length b_columns
theorem ok_columns : FnOk P w K mg base CX0 1 t.f_columns t.fd_columns P_columns (spP (t.R tk) 2 g_columns) := by
  have h : SB ⟨P, w, t.R tk, mg, base, N_columns, defScope s_columns, fun _ => true, 0⟩ sk0 (defBody s_columns) b_columns := (SB.one (SS.ret (XE.mA (SE.tuple t.z_tuple (SA.cons (SN.ev (SN.lc (own := [((Str.ofString "item"), 2)]) (SW.rng1 t.z_range (SA.cons (SE.var 0) SA.nil)) (blkOk_by (N := N_columns) (sc := (defScope s_columns)) (own := [((Str.ofString "item"), 2)]) (by decide +kernel)) (SG.name 2) SQs.nil (SE.tuple t.z_tuple (SA.cons (SN.ev (SN.lc (own := [((Str.ofString "at"), 3), ((Str.ofString "test"), 4)]) (SW.enumA t.z_enumerate (SA.cons (SE.var 1) SA.nil)) (blkOk_by (N := N_columns) (sc := (rl _ (defScope s_columns))) (own := [((Str.ofString "at"), 3), ((Str.ofString "test"), 4)]) (by decide +kernel)) (SG.tup 2 (SGs.cons (SG.name 3) (SGs.cons (SG.name 4) SGs.nil)) (bsCons_len (bsCons_len (fun _ _ _ => bsNil_len)))) (SQs.one (SQ.in_ (SE.var 2) (SE.var 4))) (SE.var 3))) SA.nil)))) SA.nil)))))
  exact defP (R := t.R tk) t.F_columns sc_columns h (by decide)
def b_is_integer : Stm Unit := (sRet (fAndV (fUn gIsiInt (fVar 0)) (fNotV (fUn gIsiBool (fVar 0)))))
def g_is_integer : List D → Option D := runP N_is_integer.length b_is_integer
theorem ok_is_integer : FnOk P w K mg base CX0 1 t.f_is_integer t.fd_is_integer P_is_integer (spP (t.R tk) 1 g_is_integer) := by
  have h : SB ⟨P, w, t.R tk, mg, base, N_is_integer, defScope s_is_integer, fun _ => true, 0⟩ sk0 (defBody s_is_integer) b_is_integer := (SB.one (SS.ret (XE.mA (SE.and (SE.isInt t.z_isinstance t.z_int (SE.var 0)) (SE.one (SE.not (SE.isBool t.z_isinstance t.z_bool (SE.var 0))))))))
  exact defP (R := t.R tk) t.F_is_integer sc_is_integer h (by decide)
def b_is_part : Stm Unit := (sSeq (sIf (fOr (fNot (fTest (fUn gIsiTuple (fVar 0)))) (fTest (fCall gAny (fCons (fL (fLc (fList (fVar 0)) (bName 2) fYes (fOrV (fNotV (fCall (lenG 1 g_is_integer) (fCons (fVar 2) fNil))) (fNotV (fChain gLe gLt (fC (.int 0)) (fVar 2) (fVar 1)))) [2])) fNil)))) (sRet (fC (.bl false)))
    sNext)
    (sRet (fCall gAll (fCons (fL (fLc (fZip (fCons (fVar 0) (fCons (fSl (fVar 0) (fPart (fC (.int 1))) fNoPart) fNil))) (bTup (bsCons (bName 3) (bsCons (bName 4) bsNil))) fYes (fOp gLt (fVar 3) (fVar 4)) [3, 4])) fNil))))
def g_is_part : List D → Option D := runP N_is_part.length b_is_part
theorem ok_is_part : FnOk P w K mg base CX0 2 t.f_is_part t.fd_is_part P_is_part (spP (t.R tk) 2 g_is_part) := by
  have h : SB ⟨P, w, t.R tk, mg, base, N_is_part, defScope s_is_part, fun _ => true, 1⟩ sk0 (defBody s_is_part) b_is_part := (SB.cons (SS.ite (XQ.mA (SQ.or (SQ.not (SQ.v (SE.isTuple t.z_isinstance t.z_tuple (SE.var 0)))) (SQ.or1 (SQ.v (SE.any t.z_any (SA.cons (SN.ev (SN.lc (own := [((Str.ofString "each"), 2)]) (SW.seq (SE.var 0)) (blkOk_by (N := N_is_part) (sc := (defScope s_is_part)) (own := [((Str.ofString "each"), 2)]) (by decide +kernel)) (SG.name 2) SQs.nil (SE.or (SE.not (SE.call (ok_is_integer t tk) (Nat.le_of_ble_eq_true rfl) t.m_is_integer t.F_is_integer.kp t.b_is_integer (SA.cons (SE.var 2) SA.nil))) (SE.one (SE.not (SE.chain .le .lt SE.int (SE.var 2) (SE.var 1))))))) SA.nil)))))) (SB.one (SS.ret (XE.mA SE.bl)))
    SB.nil)
    (SB.one (SS.ret (XE.mA (SE.all t.z_all (SA.cons (SN.ev (SN.lc (own := [((Str.ofString "one"), 3), ((Str.ofString "other"), 4)]) (SW.zip t.z_zip (SA.cons (SE.var 0) (SA.cons (SE.sl (SE.var 0) (SO.some SE.int) SO.non) SA.nil))) (blkOk_by (N := N_is_part) (sc := (defScope s_is_part)) (own := [((Str.ofString "one"), 3), ((Str.ofString "other"), 4)]) (by decide +kernel)) (SG.tup 2 (SGs.cons (SG.name 3) (SGs.cons (SG.name 4) SGs.nil)) (bsCons_len (bsCons_len (fun _ _ _ => bsNil_len)))) SQs.nil (SE.lt (SE.var 3) (SE.var 4)))) SA.nil))))))
  exact defP (R := t.R tk) t.F_is_part sc_is_part h (by decide)
def b_check_tests : Stm Unit := (sSeq (sIf (fOr (fNot (fTest (fCall (lenG 1 g_is_integer) (fCons (fVar 0) fNil)))) (fNot (fTest (fChain gLe gLe (fC (.int 0)) (fVar 0) (fC (.int 16)))))) sNever
    sNext)
    (sIf (fOr (fNot (fTest (fUn gIsiTuple (fVar 1)))) (fOr (fTest (fOp gGt (fCall gLen (fCons (fVar 1) fNil)) (fC (.int 16)))) (fTest (fCall gAny (fCons (fL (fLc (fList (fVar 1)) (bName 2) fYes (fNotV (fCall (lenG 2 g_is_part) (fCons (fVar 2) (fCons (fVar 0) fNil)))) [2])) fNil))))) sNever
    sNext))
def g_check_tests : List D → Option D := runP N_check_tests.length b_check_tests
theorem ok_check_tests : FnOk P w K mg base CX0 3 t.f_check_tests t.fd_check_tests P_check_tests (spP (t.R tk) 2 g_check_tests) := by
  have h : SB ⟨P, w, t.R tk, mg, base, N_check_tests, defScope s_check_tests, fun _ => true, 2⟩ sk0 (defBody s_check_tests) b_check_tests := (SB.cons (SS.ite (XQ.mA (SQ.or (SQ.not (SQ.v (SE.call (ok_is_integer t tk) (Nat.le_of_ble_eq_true rfl) t.m_is_integer t.F_is_integer.kp t.b_is_integer (SA.cons (SE.var 0) SA.nil)))) (SQ.or1 (SQ.not (SQ.chain .le .le SE.int (SE.var 0) (SE.glob (v := .int 16) (Classical.choose_spec t.k_MOST_ITEMS) ⟨_, rfl⟩ fun _ => .int _)))))) (SB.one SS.never)
    SB.nil)
    (SB.one (SS.ite (XQ.mA (SQ.or (SQ.not (SQ.v (SE.isTuple t.z_isinstance t.z_tuple (SE.var 1)))) (SQ.or (SQ.ord .gt (SE.len t.z_len (SA.cons (SE.var 1) SA.nil)) (SE.glob (v := .int 16) (Classical.choose_spec t.k_MOST_TESTS) ⟨_, rfl⟩ fun _ => .int _)) (SQ.or1 (SQ.v (SE.any t.z_any (SA.cons (SN.ev (SN.lc (own := [((Str.ofString "test"), 2)]) (SW.seq (SE.var 1)) (blkOk_by (N := N_check_tests) (sc := (defScope s_check_tests)) (own := [((Str.ofString "test"), 2)]) (by decide +kernel)) (SG.name 2) SQs.nil (SE.not (SE.call (ok_is_part t tk) (Nat.le_of_ble_eq_true rfl) t.m_is_part t.F_is_part.kp t.b_is_part (SA.cons (SE.var 2) (SA.cons (SE.var 0) SA.nil)))))) SA.nil))))))) (SB.one SS.never)
    SB.nil)))
  exact defP (R := t.R tk) t.F_check_tests sc_check_tests h (by decide)
def b_parts : Stm Unit := (sSeq (sAsg (fL (fLst (fCons (fTup fNil) fNil))) (bName 2))
    (sSeq (sAsg (fL (fLst (fCons (fTup fNil) fNil))) (bName 3))
    (sSeq (sFor (fRng1 (fCons (fVar 1) fNil)) (bName 4) (sSeq (sAsg (fL (fLc2 (fList (fVar 3)) (bName 5) fYes (fList (fVar 0)) (bName 6) (fOr (fNot (fTru (fVar 5))) (fTest (fOp gGt (fVar 6) (fOp gIx (fVar 5) (fUn gNeg (fC (.int 1))))))) (fOp gAdd (fVar 5) (fTup (fCons (fVar 6) fNil))) [5, 6] [6])) (bName 3))
    (sAsg (fL (fCatL (fVar 2) (fVar 3))) (bName 2))))
    (sRet (fVar 2)))))
def g_parts : List D → Option D := runP N_parts.length b_parts
theorem ok_parts : FnOk P w K mg base CX0 1 t.f_parts t.fd_parts P_parts (spP (t.R tk) 2 g_parts) := by
  have h : SB ⟨P, w, t.R tk, mg, base, N_parts, defScope s_parts, fun _ => true, 0⟩ sk0 (defBody s_parts) b_parts := (SB.cons (SS.set 2 (XE.mA (SN.ev (SN.lst (SA.cons (SE.tup SA.nil) SA.nil)))))
    (SB.cons (SS.set 3 (XE.mA (SN.ev (SN.lst (SA.cons (SE.tup SA.nil) SA.nil)))))
    (SB.cons (SS.for (XW.mA (SW.rng1 t.z_range (SA.cons (SE.var 1) SA.nil))) (SG.name 4) (SB.cons (SS.lc2S 3 (own := [((Str.ofString "row"), 5), ((Str.ofString "item"), 6)]) (SW.seq (SE.var 3)) (blkOk_by (N := N_parts) (sc := (defScope s_parts)) (own := [((Str.ofString "row"), 5), ((Str.ofString "item"), 6)]) (by decide +kernel)) (by decide) (SG.name 5) SQs.nil (SW.seq (SE.var 0)) (SG.name 6) (SQs.one (SQ.or (SQ.not (SQ.tru (SE.var 5))) (SQ.or1 (SQ.ord .gt (SE.var 6) (SE.ix (SE.var 5) (SE.neg SE.int)))))) (SE.add (SE.var 5) (SE.tup (SA.cons (SE.var 6) SA.nil))))
    (SB.one (SS.set 2 (XE.mA (SN.ev (SN.cat (SE.var 2) (SE.var 3))))))))
    (SB.one (SS.ret (XE.mA (SE.var 2)))))))
  exact defP (R := t.R tk) t.F_parts sc_parts h (by decide)
def b_cover_paper : Stm Unit := (sSeq (sDrop (fCall (lenG 2 g_check_tests) (fCons (fVar 0) (fCons (fVar 1) fNil))))
    (sSeq (sIf (fOr (fNot (fTest (fCall (lenG 1 g_is_integer) (fCons (fVar 2) fNil)))) (fNot (fTest (fChain gLe gLe (fC (.int 0)) (fVar 2) (fC (.int 3)))))) sNever
    sNext)
    (sSeq (sAsg (fCall (lenG 2 g_columns) (fCons (fVar 0) (fCons (fVar 1) fNil))) (bName 3))
    (sSeq (sFor (fRng1 (fCons (fVar 0) fNil)) (bName 4) (sFor (fList (fCall (lenG 2 g_parts) (fCons (fL (fLc (fRng1 (fCons (fVar 0) fNil)) (bName 6) (fTest (fOp gNe (fVar 6) (fVar 4))) (fVar 6) [6])) (fCons (fVar 2) fNil)))) (bName 5) (sIf (fTest (fCall gAll (fCons (fL (fLc (fList (fOp gIx (fVar 3) (fVar 4))) (bName 7) fYes (fCall gAny (fCons (fL (fLc (fList (fVar 5)) (bName 6) fYes (fOp gIn (fVar 7) (fOp gIx (fVar 3) (fVar 6))) [6])) fNil)) [7])) fNil))) (sRet (fTup (fCons (fC (.str (Str.ofString "covered"))) (fCons (fVar 4) (fCons (fVar 5) fNil)))))
    sNext)))
    (sRet (fTup (fCons (fC (.str (Str.ofString "apart"))) fNil)))))))
def g_cover_paper : List D → Option D := runP N_cover_paper.length b_cover_paper
theorem ok_cover_paper : FnOk P w K mg base CX0 4 t.f_cover_paper t.fd_cover_paper P_cover_paper (spP (t.R tk) 3 g_cover_paper) := by
  have h : SB ⟨P, w, t.R tk, mg, base, N_cover_paper, defScope s_cover_paper, fun _ => true, 3⟩ sk0 (defBody s_cover_paper) b_cover_paper := (SB.cons (SS.drop (XE.mA (SE.call (ok_check_tests t tk) (Nat.le_of_ble_eq_true rfl) t.m_check_tests t.F_check_tests.kp t.b_check_tests (SA.cons (SE.var 0) (SA.cons (SE.var 1) SA.nil)))))
    (SB.cons (SS.ite (XQ.mA (SQ.or (SQ.not (SQ.v (SE.call (ok_is_integer t tk) (Nat.le_of_ble_eq_true rfl) t.m_is_integer t.F_is_integer.kp t.b_is_integer (SA.cons (SE.var 2) SA.nil)))) (SQ.or1 (SQ.not (SQ.chain .le .le SE.int (SE.var 2) SE.int))))) (SB.one SS.never)
    SB.nil)
    (SB.cons (SS.set 3 (XE.mA (SE.call (ok_columns t tk) (Nat.le_of_ble_eq_true rfl) t.m_columns t.F_columns.kp t.b_columns (SA.cons (SE.var 0) (SA.cons (SE.var 1) SA.nil)))))
    (SB.cons (SS.for (XW.mA (SW.rng1 t.z_range (SA.cons (SE.var 0) SA.nil))) (SG.name 4) (SB.one (SS.for (XW.mA (SW.seq (SE.call (ok_parts t tk) (Nat.le_of_ble_eq_true rfl) t.m_parts t.F_parts.kp t.b_parts (SA.cons (SN.ev (SN.lc (own := [((Str.ofString "other"), 6)]) (SW.rng1 t.z_range (SA.cons (SE.var 0) SA.nil)) (blkOk_by (N := N_cover_paper) (sc := (defScope s_cover_paper)) (own := [((Str.ofString "other"), 6)]) (by decide +kernel)) (SG.name 6) (SQs.one (SQ.ord .ne (SE.var 6) (SE.var 4))) (SE.var 6))) (SA.cons (SE.var 2) SA.nil))))) (SG.name 5) (SB.one (SS.ite (XQ.mA (SQ.v (SE.all t.z_all (SA.cons (SN.ev (SN.lc (own := [((Str.ofString "at"), 7)]) (SW.seq (SE.ix (SE.var 3) (SE.var 4))) (blkOk_by (N := N_cover_paper) (sc := (defScope s_cover_paper)) (own := [((Str.ofString "at"), 7)]) (by decide +kernel)) (SG.name 7) SQs.nil (SE.any t.z_any (SA.cons (SN.ev (SN.lc (own := [((Str.ofString "other"), 6)]) (SW.seq (SE.var 5)) (blkOk_by (N := N_cover_paper) (sc := (rl _ (defScope s_cover_paper))) (own := [((Str.ofString "other"), 6)]) (by decide +kernel)) (SG.name 6) SQs.nil (SE.in_ (SE.var 7) (SE.ix (SE.var 3) (SE.var 6))))) SA.nil)))) SA.nil)))) (SB.one (SS.ret (XE.mA (SE.tup (SA.cons SE.str (SA.cons (SE.var 4) (SA.cons (SE.var 5) SA.nil)))))))
    SB.nil)))))
    (SB.one (SS.ret (XE.mA (SE.tup (SA.cons SE.str SA.nil)))))))))
  exact defP (R := t.R tk) t.F_cover_paper sc_cover_paper h (by decide)
def b_outcome : Stm Unit := (sRet (fCall gTuple (fCons (fL (fLc (fList (fVar 0)) (bName 2) fYes (fIf (fTest (fCall gAny (fCons (fL (fLc (fList (fVar 1)) (bName 3) fYes (fOp gIn (fVar 3) (fVar 2)) [3])) fNil))) (fC (.int 1)) (fC (.int 0))) [2])) fNil)))
def g_outcome : List D → Option D := runP N_outcome.length b_outcome
theorem ok_outcome : FnOk P w K mg base CX0 1 t.f_outcome t.fd_outcome P_outcome (spP (t.R tk) 2 g_outcome) := by
  have h : SB ⟨P, w, t.R tk, mg, base, N_outcome, defScope s_outcome, fun _ => true, 0⟩ sk0 (defBody s_outcome) b_outcome := (SB.one (SS.ret (XE.mA (SE.tuple t.z_tuple (SA.cons (SN.ev (SN.lc (own := [((Str.ofString "test"), 2)]) (SW.seq (SE.var 0)) (blkOk_by (N := N_outcome) (sc := (defScope s_outcome)) (own := [((Str.ofString "test"), 2)]) (by decide +kernel)) (SG.name 2) SQs.nil (SE.ite (SQ.v (SE.any t.z_any (SA.cons (SN.ev (SN.lc (own := [((Str.ofString "item"), 3)]) (SW.seq (SE.var 1)) (blkOk_by (N := N_outcome) (sc := (rl _ (defScope s_outcome))) (own := [((Str.ofString "item"), 3)]) (by decide +kernel)) (SG.name 3) SQs.nil (SE.in_ (SE.var 3) (SE.var 2)))) SA.nil))) SE.int SE.int))) SA.nil)))))
  exact defP (R := t.R tk) t.F_outcome sc_outcome h (by decide)
def b_same_paper : Stm Unit := (sSeq (sDrop (fCall (lenG 2 g_check_tests) (fCons (fVar 0) (fCons (fVar 1) fNil))))
    (sSeq (sIf (fOr (fNot (fTest (fCall (lenG 1 g_is_integer) (fCons (fVar 2) fNil)))) (fNot (fTest (fChain gLe gLe (fC (.int 0)) (fVar 2) (fC (.int 3)))))) sNever
    sNext)
    (sSeq (sDNew 3 true)
    (sSeq (sFor (fList (fCall (lenG 2 g_parts) (fCons (fL (fRgv1 (fVar 0))) (fCons (fVar 2) fNil)))) (bName 4) (sSeq (sAsg (fCall (lenG 2 g_outcome) (fCons (fVar 1) (fCons (fVar 4) fNil))) (bName 5))
    (sSeq (sIf (fTest (fDIn false (fVar 5) (fVarB 3))) (sLock 3 (sRet (fTup (fCons (fC (.str (Str.ofString "same"))) (fCons (fDGet (fVar 3) (fVar 5)) (fCons (fVar 4) fNil))))))
    sNext)
    (sDPutS 3 (fVar 5) (fVar 4)))))
    (sRet (fTup (fCons (fC (.str (Str.ofString "told"))) fNil)))))))
def g_same_paper : List D → Option D := runP N_same_paper.length b_same_paper
theorem ok_same_paper : FnOk P w K mg base CX0 4 t.f_same_paper t.fd_same_paper P_same_paper (spP (t.R tk) 3 g_same_paper) := by
  have h : SB ⟨P, w, t.R tk, mg, base, N_same_paper, defScope s_same_paper, fun _ => true, 3⟩ sk0 (defBody s_same_paper) b_same_paper := (SB.cons (SS.drop (XE.mA (SE.call (ok_check_tests t tk) (Nat.le_of_ble_eq_true rfl) t.m_check_tests t.F_check_tests.kp t.b_check_tests (SA.cons (SE.var 0) (SA.cons (SE.var 1) SA.nil)))))
    (SB.cons (SS.ite (XQ.mA (SQ.or (SQ.not (SQ.v (SE.call (ok_is_integer t tk) (Nat.le_of_ble_eq_true rfl) t.m_is_integer t.F_is_integer.kp t.b_is_integer (SA.cons (SE.var 2) SA.nil)))) (SQ.or1 (SQ.not (SQ.chain .le .le SE.int (SE.var 2) SE.int))))) (SB.one SS.never)
    SB.nil)
    (SB.cons (SS.dNew 3 true)
    (SB.cons (SS.for (XW.mA (SW.seq (SE.call (ok_parts t tk) (Nat.le_of_ble_eq_true rfl) t.m_parts t.F_parts.kp t.b_parts (SA.cons (SN.ev (SN.rgv1 t.z_range t.z_list (SE.var 0))) (SA.cons (SE.var 2) SA.nil))))) (SG.name 4) (SB.cons (SS.set 5 (XE.mA (SE.call (ok_outcome t tk) (Nat.le_of_ble_eq_true rfl) t.m_outcome t.F_outcome.kp t.b_outcome (SA.cons (SE.var 1) (SA.cons (SE.var 4) SA.nil)))))
    (SB.cons (SS.ite (XQ.mB (SQ.dIn (SE.var 5) (SE.varB 3))) (SB.lock (j := 3) (SB.one (SS.ret (XE.mA (SE.tup (SA.cons SE.str (SA.cons (SE.dGet (SE.var 3) (SE.var 5)) (SA.cons (SE.var 4) SA.nil))))))))
    SB.nil)
    (SB.one (SS.dPut 3 (XE.mA (SE.var 4)) (XE.mA (SE.var 5)))))))
    (SB.one (SS.ret (XE.mA (SE.tup (SA.cons SE.str SA.nil)))))))))
  exact defP (R := t.R tk) t.F_same_paper sc_same_paper h (by decide)
def b__law_pick : Stm DS := (sRet (fOp gIx (fVar 1) (fCallS (lenGS 2 g__law_take) (fCons (fVar 0) (fCons (fCall gLen (fCons (fVar 1) fNil)) fNil)))))
def g__law_pick : List D → DS → Option (D × DS) := runS N__law_pick.length b__law_pick
theorem ok__law_pick (p q : Addr) : FnOk P w K mg base CX0 2 t.f__law_pick t.fd__law_pick P__law_pick (spS (t.R (tkk p q)) (ZD p q) 2 g__law_pick) := by
  have h : SB ⟨P, w, t.R (tkk p q), mg, base, N__law_pick, defScope s__law_pick, fun _ => true, 1⟩ (ZD p q) (defBody s__law_pick) b__law_pick := (SB.one (SS.ret (XE.mA (SE.ix (SE.var 1) (SE.callS (ok__law_take t p q) (Nat.le_of_ble_eq_true rfl) t.m__law_take t.F__law_take.kp t.b__law_take (SA.cons (SE.var 0) (SA.cons (SE.len t.z_len (SA.cons (SE.var 1) SA.nil)) SA.nil)))))))
  exact defS (R := t.R (tkk p q)) t.F__law_pick sc__law_pick h (by decide)
def b_digits_of : Stm Unit := (sSeq (sOwn 3 (fLst fNil))
    (sSeq (sFor (fRng1 (fCons (fVar 2) fNil)) (bName 4) (sSeq (sApp 3 (fOp gMod (fVar 0) (fVar 1)))
    (sAsg (fOp gDiv (fVar 0) (fVar 1)) (bName 0))))
    (sRetO 3)))
def g_digits_of : List D → Option D := runP N_digits_of.length b_digits_of
theorem ok_digits_of : FnOk P w K mg base CX0 1 t.f_digits_of t.fd_digits_of P_digits_of (spP (t.R tk) 3 g_digits_of) := by
  have h : SB ⟨P, w, t.R tk, mg, base, N_digits_of, defScope s_digits_of, fun _ => true, 0⟩ sk0 (defBody s_digits_of) b_digits_of := (SB.cons (SS.own 3 (XN.mA (SN.lst SA.nil)))
    (SB.cons (SS.for (XW.mA (SW.rng1 t.z_range (SA.cons (SE.var 2) SA.nil))) (SG.name 4) (SB.cons (SS.app 3 (XE.mA (SE.mod (SE.var 0) (SE.var 1))))
    (SB.one (SS.set 0 (XE.mA (SE.div (SE.var 0) (SE.var 1)))))))
    (SB.one (SS.retO 3))))
  exact defP (R := t.R tk) t.F_digits_of sc_digits_of h (by decide)
def b_number_of : Stm Unit := (sSeq (sAsg (fC (.int 0)) (bName 2))
    (sSeq (sFor (fRev (fVar 0)) (bName 3) (sAsg (fOp gAdd (fOp gMulX (fVar 2) (fVar 1)) (fVar 3)) (bName 2)))
    (sRet (fVar 2))))
def g_number_of : List D → Option D := runP N_number_of.length b_number_of
theorem ok_number_of : FnOk P w K mg base CX0 1 t.f_number_of t.fd_number_of P_number_of (spP (t.R tk) 2 g_number_of) := by
  have h : SB ⟨P, w, t.R tk, mg, base, N_number_of, defScope s_number_of, fun _ => true, 0⟩ sk0 (defBody s_number_of) b_number_of := (SB.cons (SS.set 2 (XE.mA SE.int))
    (SB.cons (SS.for (XW.mA (SW.rev t.z_reversed (SE.var 0))) (SG.name 3) (SB.one (SS.set 2 (XE.mA (SE.add (SE.mulA (SE.var 2) (SE.var 1)) (SE.var 3))))))
    (SB.one (SS.ret (XE.mA (SE.var 2))))))
  exact defP (R := t.R tk) t.F_number_of sc_number_of h (by decide)
def b_Field_sum_of : Stm Unit := (sRet (fCall (lenG 2 g_number_of) (fCons (fL (fLc (fZip (fCons (fVar 1) (fCons (fVar 2) fNil))) (bTup (bsCons (bName 3) (bsCons (bName 4) bsNil))) fYes (fOp gMod (fOp gAdd (fVar 3) (fVar 4)) (fUn (gFld 1 1) (fVar 0))) [3, 4])) (fCons (fUn (gFld 1 1) (fVar 0)) fNil))))
def g_Field_sum_of : List D → Option D := runP N_Field_sum_of.length b_Field_sum_of
theorem ok_Field_sum_of : FnOk P w K mg base CX0 2 t.f_Field_sum_of t.fd_Field_sum_of P_Field_sum_of (spP (t.R tk) 3 g_Field_sum_of) := by
  have h : SB ⟨P, w, t.R tk, mg, base, N_Field_sum_of, defScope s_Field_sum_of, fun _ => true, 1⟩ sk0 (defBody s_Field_sum_of) b_Field_sum_of := (SB.one (SS.ret (XE.mA (SE.call (ok_number_of t tk) (Nat.le_of_ble_eq_true rfl) t.m_number_of t.F_number_of.kp t.b_number_of (SA.cons (SN.ev (SN.lc (own := [((Str.ofString "left"), 3), ((Str.ofString "right"), 4)]) (SW.zip t.z_zip (SA.cons (SE.var 1) (SA.cons (SE.var 2) SA.nil))) (blkOk_by (N := N_Field_sum_of) (sc := (defScope s_Field_sum_of)) (own := [((Str.ofString "left"), 3), ((Str.ofString "right"), 4)]) (by decide +kernel)) (SG.tup 2 (SGs.cons (SG.name 3) (SGs.cons (SG.name 4) SGs.nil)) (bsCons_len (bsCons_len (fun _ _ _ => bsNil_len)))) SQs.nil (SE.mod (SE.add (SE.var 3) (SE.var 4)) (SE.fld (ci := 1) (k := 1) (SE.var 0) t.c0_cls t.c0_na_prime rfl (fieldNm_nd 1))))) (SA.cons (SE.fld (ci := 1) (k := 1) (SE.var 0) t.c0_cls t.c0_na_prime rfl (fieldNm_nd 1)) SA.nil))))))
  exact defP (R := t.R tk) t.F_Field_sum_of sc_Field_sum_of h (by decide)
def b_Field_product_of : Stm Unit := (sSeq (sOwn 3 (fRepL (fLst (fCons (fC (.int 0)) fNil)) (fOp gMulX (fC (.int 2)) (fUn (gFld 1 3) (fVar 0)))))
    (sSeq (sFor (fEnumA (fCons (fVar 1) fNil)) (bTup (bsCons (bName 4) (bsCons (bName 5) bsNil))) (sFor (fEnumA (fCons (fVar 2) fNil)) (bTup (bsCons (bName 6) (bsCons (bName 7) bsNil))) (sAugS gAddI 3 (fOp gAdd (fVar 4) (fVar 6)) (fOp gMulX (fVar 5) (fVar 7)))))
    (sSeq (sFor (fRng3 (fCons (fOp gSub (fOp gMulX (fC (.int 2)) (fUn (gFld 1 3) (fVar 0))) (fC (.int 1))) (fCons (fOp gSub (fUn (gFld 1 3) (fVar 0)) (fC (.int 1))) (fCons (fUn gNeg (fC (.int 1))) fNil)))) (bName 4) (sSeq (sAsg (fFlat (fOp gMod (fOp gIx (fVarB 3) (fVar 4)) (fUn (gFld 1 1) (fVar 0)))) (bName 8))
    (sFor (fEnumA (fCons (fUn (gFld 1 2) (fVar 0)) fNil)) (bTup (bsCons (bName 6) (bsCons (bName 9) bsNil))) (sAugS gSub 3 (fOp gAdd (fOp gSub (fVar 4) (fUn (gFld 1 3) (fVar 0))) (fVar 6)) (fOp gMulX (fVar 8) (fVar 9))))))
    (freeze 3 (sRet (fCall (lenG 2 g_number_of) (fCons (fL (fLc (fList (fSl (fVar 3) fNoPart (fPart (fUn (gFld 1 3) (fVar 0))))) (bName 8) fYes (fOp gMod (fVar 8) (fUn (gFld 1 1) (fVar 0))) [8])) (fCons (fUn (gFld 1 1) (fVar 0)) fNil))))))))
def g_Field_product_of : List D → Option D := runP N_Field_product_of.length b_Field_product_of
theorem ok_Field_product_of : FnOk P w K mg base CX0 2 t.f_Field_product_of t.fd_Field_product_of P_Field_product_of (spP (t.R tk) 3 g_Field_product_of) := by
  have h : SB ⟨P, w, t.R tk, mg, base, N_Field_product_of, defScope s_Field_product_of, fun _ => true, 1⟩ sk0 (defBody s_Field_product_of) b_Field_product_of := (SB.cons (SS.own 3 (XN.mA (SN.rep (SN.lst (SA.cons SE.int SA.nil)) (SE.mulA SE.int (SE.fld (ci := 1) (k := 3) (SE.var 0) t.c0_cls t.c0_na_degree rfl (fieldNm_nd 1))))))
    (SB.cons (SS.for (XW.mA (SW.enumA t.z_enumerate (SA.cons (SE.var 1) SA.nil))) (SG.tup 2 (SGs.cons (SG.name 4) (SGs.cons (SG.name 5) SGs.nil)) (bsCons_len (bsCons_len (fun _ _ _ => bsNil_len)))) (SB.one (SS.for (XW.mA (SW.enumA t.z_enumerate (SA.cons (SE.var 2) SA.nil))) (SG.tup 2 (SGs.cons (SG.name 6) (SGs.cons (SG.name 7) SGs.nil)) (bsCons_len (bsCons_len (fun _ _ _ => bsNil_len)))) (SB.one (SS.augS 3 (fun _ => ip_add) ipe_add (XE.mA (SE.add (SE.var 4) (SE.var 6))) (XE.mA (SE.mulA (SE.var 5) (SE.var 7))))))))
    (SB.cons (SS.for (XW.mA (SW.rng3 t.z_range (SA.cons (SE.sub (SE.mulA SE.int (SE.fld (ci := 1) (k := 3) (SE.var 0) t.c0_cls t.c0_na_degree rfl (fieldNm_nd 1))) SE.int) (SA.cons (SE.sub (SE.fld (ci := 1) (k := 3) (SE.var 0) t.c0_cls t.c0_na_degree rfl (fieldNm_nd 1)) SE.int) (SA.cons (SE.neg SE.int) SA.nil))))) (SG.name 4) (SB.cons (SS.set 8 (XE.mB (SE.mod (SE.ix (SE.varB 3) (SE.var 4)) (SE.fld (ci := 1) (k := 1) (SE.var 0) t.c0_cls t.c0_na_prime rfl (fieldNm_nd 1)))))
    (SB.one (SS.for (XW.mA (SW.enumA t.z_enumerate (SA.cons (SE.fld (ci := 1) (k := 2) (SE.var 0) t.c0_cls t.c0_na_modulus rfl (fieldNm_nd 1)) SA.nil))) (SG.tup 2 (SGs.cons (SG.name 6) (SGs.cons (SG.name 9) SGs.nil)) (bsCons_len (bsCons_len (fun _ _ _ => bsNil_len)))) (SB.one (SS.augS 3 (fun _ => ip_sub) ipe_sub (XE.mA (SE.add (SE.sub (SE.var 4) (SE.fld (ci := 1) (k := 3) (SE.var 0) t.c0_cls t.c0_na_degree rfl (fieldNm_nd 1))) (SE.var 6))) (XE.mA (SE.mulA (SE.var 8) (SE.var 9)))))))))
    (SB.freeze (j := 3) (SB.one (SS.ret (XE.mA (SE.call (ok_number_of t tk) (Nat.le_of_ble_eq_true rfl) t.m_number_of t.F_number_of.kp t.b_number_of (SA.cons (SN.ev (SN.lc (own := [((Str.ofString "value"), 8)]) (SW.seq (SE.sl (SE.var 3) SO.non (SO.some (SE.fld (ci := 1) (k := 3) (SE.var 0) t.c0_cls t.c0_na_degree rfl (fieldNm_nd 1))))) (blkOk_by (N := N_Field_product_of) (sc := (defScope s_Field_product_of)) (own := [((Str.ofString "value"), 8)]) (by decide +kernel)) (SG.name 8) SQs.nil (SE.mod (SE.var 8) (SE.fld (ci := 1) (k := 1) (SE.var 0) t.c0_cls t.c0_na_prime rfl (fieldNm_nd 1))))) (SA.cons (SE.fld (ci := 1) (k := 1) (SE.var 0) t.c0_cls t.c0_na_prime rfl (fieldNm_nd 1)) SA.nil))))))))))
  exact defP (R := t.R tk) t.F_Field_product_of sc_Field_product_of h (by decide)
def i1 (L : List (Int × Int × List Int)) : Stm Raw := (sIf (fOr (fNot (fTest (fCall (lenG 1 g_is_integer) (fCons (fVar 1) fNil)))) (fTest (fUn (gNotKI (fbP L)) (fVar 1)))) sNever
    sNext)
def i2 (L : List (Int × Int × List Int)) : Stm Raw := (sFldZ 0 (Str.ofString "size") (fVar 1))
def i3 (L : List (Int × Int × List Int)) : Stm Raw := (sShapeP L 0 (fVar 1))
def i4 (L : List (Int × Int × List Int)) : Stm Raw := (sFldZ 0 (Str.ofString "degree") (fOp gSub (fCall gLen (fCons (fFldZ 0 (Str.ofString "modulus")) fNil)) (fC (.int 1))))
def i5 (L : List (Int × Int × List Int)) : Stm Raw := (sAsg (fL (fLc (fRng1 (fCons (fVar 1) fNil)) (bName 3) fYes (fCall (lenG 3 g_digits_of) (fCons (fVar 3) (fCons (fFldZ 0 (Str.ofString "prime")) (fCons (fFldZ 0 (Str.ofString "degree")) fNil)))) [3])) (bName 2))
def i6 : Fn Raw D := (fL (fLc (fList (fVar 2)) (bName 4) fYes (fL (fLc (fList (fVar 2)) (bName 5) fYes (fMethZ fieldN4 1 3 g_Field_sum_of (Str.ofString "sum_of") 0 (fCons (fVar 4) (fCons (fVar 5) fNil))) [5])) [4]))
def i7 : Fn Raw D := (fL (fLc (fList (fVar 2)) (bName 4) fYes (fL (fLc (fList (fVar 2)) (bName 5) fYes (fMethZ fieldN4 1 3 g_Field_product_of (Str.ofString "product_of") 0 (fCons (fVar 4) (fCons (fVar 5) fNil))) [5])) [4]))
abbrev FR_Field (L : List (Int × Int × List Int)) : Int → List D → Prop := FRun N_Field___init__.length (i1 L) (i2 L) (i3 L) (i4 L) (i5 L) i6 i7
theorem ok_Field___init__ : FnOk P w K mg base CX0 3 t.f_Field___init__ t.fd_Field___init__ P_Field___init__ (spInit K t.cF (t.R tk) (FR_Field (t.U.map Shp.pl))) :=
  init_ok (R0 := t.R tk) (k := 2) t.F_Field___init__ sc_Field___init__ rfl (by decide) rfl t.c0_cls t.c0_na_sums t.c0_na_products rfl
    (h1 := fun p dx vv => (show SS ⟨P, w, (t.R tk).tkd fun _ => p, mg, base, N_Field___init__, defScope s_Field___init__, fun _ => true, 2⟩ (ZI ((t.R tk).tkd fun _ => p) p dx t.cF vv) _ (i1 (t.U.map Shp.pl)) from (SS.ite (XQ.mA (SQ.or (SQ.not (SQ.v (SE.call (ok_is_integer t (fun _ => p)) (Nat.le_of_ble_eq_true rfl) t.m_is_integer t.F_is_integer.kp t.b_is_integer (SA.cons (SE.var 1) SA.nil)))) (SQ.or1 (SQ.notInKI t.kd_SH t.m_SHAPES (fbP_ok (K := K) t.sh_ok) (SE.var 1))))) (SB.one SS.never)
    SB.nil)))
    (h2 := fun p dx vv => (show SS ⟨P, w, (t.R tk).tkd fun _ => p, mg, base, N_Field___init__, defScope s_Field___init__, fun _ => true, 2⟩ (ZI ((t.R tk).tkd fun _ => p) p dx t.cF vv) _ (i2 (t.U.map Shp.pl)) from (SS.fldZ 0 rfl t.c0_cls t.c0_na_size (XE.mA (SE.var 1)))))
    (h3 := fun p dx vv => (show SS ⟨P, w, (t.R tk).tkd fun _ => p, mg, base, N_Field___init__, defScope s_Field___init__, fun _ => true, 2⟩ (ZI ((t.R tk).tkd fun _ => p) p dx t.cF vv) _ (i3 (t.U.map Shp.pl)) from (SS.shape 0 rfl t.kd_SH t.m_SHAPES t.sh_ok t.c0_cls t.c0_na_prime t.c0_na_modulus (XE.mA (SE.var 1)))))
    (h4 := fun p dx vv => (show SS ⟨P, w, (t.R tk).tkd fun _ => p, mg, base, N_Field___init__, defScope s_Field___init__, fun _ => true, 2⟩ (ZI ((t.R tk).tkd fun _ => p) p dx t.cF vv) _ (i4 (t.U.map Shp.pl)) from (SS.fldZ 0 rfl t.c0_cls t.c0_na_degree (XE.mA (SE.sub (SE.len t.z_len (SA.cons (SE.fldZ 0 rfl t.c0_cls t.c0_na_modulus) SA.nil)) SE.int)))))
    (h5 := fun p dx vv => (show SS ⟨P, w, (t.R tk).tkd fun _ => p, mg, base, N_Field___init__, defScope s_Field___init__, fun _ => true, 2⟩ (ZI ((t.R tk).tkd fun _ => p) p dx t.cF vv) _ (i5 (t.U.map Shp.pl)) from (SS.set 2 (XE.mA (SN.ev (SN.lc (own := [((Str.ofString "member"), 3)]) (SW.rng1 t.z_range (SA.cons (SE.var 1) SA.nil)) (blkOk_by (N := N_Field___init__) (sc := (defScope s_Field___init__)) (own := [((Str.ofString "member"), 3)]) (by decide +kernel)) (SG.name 3) SQs.nil (SE.call (ok_digits_of t (fun _ => p)) (Nat.le_of_ble_eq_true rfl) t.m_digits_of t.F_digits_of.kp t.b_digits_of (SA.cons (SE.var 3) (SA.cons (SE.fldZ 0 rfl t.c0_cls t.c0_na_prime) (SA.cons (SE.fldZ 0 rfl t.c0_cls t.c0_na_degree) SA.nil))))))))))
    (h6 := fun p dx vv => (show SFz ⟨P, w, (t.R tk).tkd fun _ => p, mg, base, N_Field___init__, defScope s_Field___init__, fun _ => true, 2⟩ (ZI ((t.R tk).tkd fun _ => p) p dx t.cF vv) _ 0 _ i6 from SFz.mk 0 (XE.mA (SN.ev (SN.lc (own := [((Str.ofString "one"), 4)]) (SW.seq (SE.var 2)) (blkOk_by (N := N_Field___init__) (sc := (defScope s_Field___init__)) (own := [((Str.ofString "one"), 4)]) (by decide +kernel)) (SG.name 4) SQs.nil (SN.ev (SN.lc (own := [((Str.ofString "other"), 5)]) (SW.seq (SE.var 2)) (blkOk_by (N := N_Field___init__) (sc := (rl _ (defScope s_Field___init__))) (own := [((Str.ofString "other"), 5)]) (by decide +kernel)) (SG.name 5) SQs.nil (SE.methZ 0 1 rfl rfl t.c0_cls t.me_Field_sum_of (ok_Field_sum_of t (fun _ => p)) (Nat.le_of_ble_eq_true rfl) t.b_Field_sum_of (SA.cons (SE.var 4) (SA.cons (SE.var 5) SA.nil))))))))))
    (h7 := fun p dx vv => (show SFz ⟨P, w, (t.R tk).tkd fun _ => p, mg, base, N_Field___init__, defScope s_Field___init__, fun _ => true, 2⟩ (ZI ((t.R tk).tkd fun _ => p) p dx t.cF vv) _ 0 _ i7 from SFz.mk 0 (XE.mA (SN.ev (SN.lc (own := [((Str.ofString "one"), 4)]) (SW.seq (SE.var 2)) (blkOk_by (N := N_Field___init__) (sc := (defScope s_Field___init__)) (own := [((Str.ofString "one"), 4)]) (by decide +kernel)) (SG.name 4) SQs.nil (SN.ev (SN.lc (own := [((Str.ofString "other"), 5)]) (SW.seq (SE.var 2)) (blkOk_by (N := N_Field___init__) (sc := (rl _ (defScope s_Field___init__))) (own := [((Str.ofString "other"), 5)]) (by decide +kernel)) (SG.name 5) SQs.nil (SE.methZ 0 1 rfl rfl t.c0_cls t.me_Field_product_of (ok_Field_product_of t (fun _ => p)) (Nat.le_of_ble_eq_true rfl) t.b_Field_product_of (SA.cons (SE.var 4) (SA.cons (SE.var 5) SA.nil))))))))))
def F2ds : List D := [.int 2, .int 2, .ktup [.int 0, .int 1], .int 1, .lst [.lst [.int 0, .int 1], .lst [.int 1, .int 0]], .lst [.lst [.int 0, .int 0], .lst [.int 0, .int 1]]]
def F3ds : List D := [.int 3, .int 3, .ktup [.int 0, .int 1], .int 1, .lst [.lst [.int 0, .int 1, .int 2], .lst [.int 1, .int 2, .int 0], .lst [.int 2, .int 0, .int 1]], .lst [.lst [.int 0, .int 0, .int 0], .lst [.int 0, .int 1, .int 2], .lst [.int 0, .int 2, .int 1]]]
def F4ds : List D := [.int 4, .int 2, .ktup [.int 1, .int 1, .int 1], .int 2, .lst [.lst [.int 0, .int 1, .int 2, .int 3], .lst [.int 1, .int 0, .int 3, .int 2], .lst [.int 2, .int 3, .int 0, .int 1], .lst [.int 3, .int 2, .int 1, .int 0]], .lst [.lst [.int 0, .int 0, .int 0, .int 0], .lst [.int 0, .int 1, .int 2, .int 3], .lst [.int 0, .int 2, .int 3, .int 1], .lst [.int 0, .int 3, .int 1, .int 2]]]
def g_Field (q : Int) : Option (List D) := if q = 2 then some F2ds else if q = 3 then some F3ds else if q = 4 then some F4ds else none
theorem run_F2 : FR_Field L_Field 2 F2ds := by
  have h : (match fieldRun N_Field___init__.length (i1 L_Field) (i2 L_Field) (i3 L_Field) (i4 L_Field) (i5 L_Field) i6 i7 2 with | some x => D.sames x F2ds | none => false) = true := by decide +kernel
  split at h
  · rename_i e
    rw [← D.sames_eq h]
    exact fieldRun_ok e
  · cases h
theorem run_F3 : FR_Field L_Field 3 F3ds := by
  have h : (match fieldRun N_Field___init__.length (i1 L_Field) (i2 L_Field) (i3 L_Field) (i4 L_Field) (i5 L_Field) i6 i7 3 with | some x => D.sames x F3ds | none => false) = true := by decide +kernel
  split at h
  · rename_i e
    rw [← D.sames_eq h]
    exact fieldRun_ok e
  · cases h
theorem run_F4 : FR_Field L_Field 4 F4ds := by
  have h : (match fieldRun N_Field___init__.length (i1 L_Field) (i2 L_Field) (i3 L_Field) (i4 L_Field) (i5 L_Field) i6 i7 4 with | some x => D.sames x F4ds | none => false) = true := by decide +kernel
  split at h
  · rename_i e
    rw [← D.sames_eq h]
    exact fieldRun_ok e
  · cases h
theorem run_Field (q : Int) (ds : List D) (h : g_Field q = some ds) : FR_Field (t.U.map Shp.pl) q ds := by
  rw [t.hU]
  unfold g_Field at h
  split at h
  · rename_i e
    subst e
    cases h
    exact run_F2
  split at h
  · rename_i e
    subst e
    cases h
    exact run_F3
  split at h
  · rename_i e
    subst e
    cases h
    exact run_F4
  cases h
def b_Field_check : Stm Unit := (sIf (fOr (fNot (fTest (fCall (lenG 1 g_is_integer) (fCons (fVar 1) fNil)))) (fNot (fTest (fChain gLe gLt (fC (.int 0)) (fVar 1) (fUn (gFld 0 0) (fVar 0)))))) sNever
    sNext)
def g_Field_check : List D → Option D := runP N_Field_check.length b_Field_check
theorem ok_Field_check : FnOk P w K mg base CX0 2 t.f_Field_check t.fd_Field_check P_Field_check (spP (t.R tk) 2 g_Field_check) := by
  have h : SB ⟨P, w, t.R tk, mg, base, N_Field_check, defScope s_Field_check, fun _ => true, 1⟩ sk0 (defBody s_Field_check) b_Field_check := (SB.one (SS.ite (XQ.mA (SQ.or (SQ.not (SQ.v (SE.call (ok_is_integer t tk) (Nat.le_of_ble_eq_true rfl) t.m_is_integer t.F_is_integer.kp t.b_is_integer (SA.cons (SE.var 1) SA.nil)))) (SQ.or1 (SQ.not (SQ.chain .le .lt SE.int (SE.var 1) (SE.fld (ci := 0) (k := 0) (SE.var 0) t.c0_cls t.c0_na_size rfl (fieldNm_nd 0))))))) (SB.one SS.never)
    SB.nil))
  exact defP (R := t.R tk) t.F_Field_check sc_Field_check h (by decide)
def b_Field_times : Stm Unit := (sSeq (sDrop (fMeth 0 2 g_Field_check (fVar 0) (fCons (fVar 1) fNil)))
    (sSeq (sDrop (fMeth 0 2 g_Field_check (fVar 0) (fCons (fVar 2) fNil)))
    (sRet (fOp gIx (fOp gIx (fUn (gFld 0 5) (fVar 0)) (fVar 1)) (fVar 2)))))
def g_Field_times : List D → Option D := runP N_Field_times.length b_Field_times
theorem ok_Field_times : FnOk P w K mg base CX0 3 t.f_Field_times t.fd_Field_times P_Field_times (spP (t.R tk) 3 g_Field_times) := by
  have h : SB ⟨P, w, t.R tk, mg, base, N_Field_times, defScope s_Field_times, fun _ => true, 2⟩ sk0 (defBody s_Field_times) b_Field_times := (SB.cons (SS.drop (XE.mA (SE.meth (ci := 0) (SE.var 0) t.c0_cls t.me_Field_check (show Str.ofString "check" ∉ nSums :: fieldNm 0 by decide) (ok_Field_check t tk) (Nat.le_of_ble_eq_true rfl) t.b_Field_check (SA.cons (SE.var 1) SA.nil))))
    (SB.cons (SS.drop (XE.mA (SE.meth (ci := 0) (SE.var 0) t.c0_cls t.me_Field_check (show Str.ofString "check" ∉ nSums :: fieldNm 0 by decide) (ok_Field_check t tk) (Nat.le_of_ble_eq_true rfl) t.b_Field_check (SA.cons (SE.var 2) SA.nil))))
    (SB.one (SS.ret (XE.mA (SE.ix (SE.ix (SE.fld (ci := 0) (k := 5) (SE.var 0) t.c0_cls t.c0_na_products rfl (fieldNm_nd 0)) (SE.var 1)) (SE.var 2)))))))
  exact defP (R := t.R tk) t.F_Field_times sc_Field_times h (by decide)
def b_Field_plus : Stm Unit := (sSeq (sDrop (fMeth 0 2 g_Field_check (fVar 0) (fCons (fVar 1) fNil)))
    (sSeq (sDrop (fMeth 0 2 g_Field_check (fVar 0) (fCons (fVar 2) fNil)))
    (sRet (fOp gIx (fOp gIx (fUn (gFld 0 4) (fVar 0)) (fVar 1)) (fVar 2)))))
def g_Field_plus : List D → Option D := runP N_Field_plus.length b_Field_plus
theorem ok_Field_plus : FnOk P w K mg base CX0 3 t.f_Field_plus t.fd_Field_plus P_Field_plus (spP (t.R tk) 3 g_Field_plus) := by
  have h : SB ⟨P, w, t.R tk, mg, base, N_Field_plus, defScope s_Field_plus, fun _ => true, 2⟩ sk0 (defBody s_Field_plus) b_Field_plus := (SB.cons (SS.drop (XE.mA (SE.meth (ci := 0) (SE.var 0) t.c0_cls t.me_Field_check (show Str.ofString "check" ∉ nSums :: fieldNm 0 by decide) (ok_Field_check t tk) (Nat.le_of_ble_eq_true rfl) t.b_Field_check (SA.cons (SE.var 1) SA.nil))))
    (SB.cons (SS.drop (XE.mA (SE.meth (ci := 0) (SE.var 0) t.c0_cls t.me_Field_check (show Str.ofString "check" ∉ nSums :: fieldNm 0 by decide) (ok_Field_check t tk) (Nat.le_of_ble_eq_true rfl) t.b_Field_check (SA.cons (SE.var 2) SA.nil))))
    (SB.one (SS.ret (XE.mA (SE.ix (SE.ix (SE.fld (ci := 0) (k := 4) (SE.var 0) t.c0_cls t.c0_na_sums rfl (fieldNm_nd 0)) (SE.var 1)) (SE.var 2)))))))
  exact defP (R := t.R tk) t.F_Field_plus sc_Field_plus h (by decide)
def b_Field_value : Stm Unit := (sSeq (sAsg (fC (.int 0)) (bName 3))
    (sSeq (sFor (fRev (fVar 1)) (bName 4) (sAsg (fMeth 0 3 g_Field_plus (fVar 0) (fCons (fMeth 0 3 g_Field_times (fVar 0) (fCons (fVar 3) (fCons (fVar 2) fNil))) (fCons (fVar 4) fNil))) (bName 3)))
    (sRet (fVar 3))))
def g_Field_value : List D → Option D := runP N_Field_value.length b_Field_value
theorem ok_Field_value : FnOk P w K mg base CX0 4 t.f_Field_value t.fd_Field_value P_Field_value (spP (t.R tk) 3 g_Field_value) := by
  have h : SB ⟨P, w, t.R tk, mg, base, N_Field_value, defScope s_Field_value, fun _ => true, 3⟩ sk0 (defBody s_Field_value) b_Field_value := (SB.cons (SS.set 3 (XE.mA SE.int))
    (SB.cons (SS.for (XW.mA (SW.rev t.z_reversed (SE.var 1))) (SG.name 4) (SB.one (SS.set 3 (XE.mA (SE.meth (ci := 0) (SE.var 0) t.c0_cls t.me_Field_plus (show Str.ofString "plus" ∉ nSums :: fieldNm 0 by decide) (ok_Field_plus t tk) (Nat.le_of_ble_eq_true rfl) t.b_Field_plus (SA.cons (SE.meth (ci := 0) (SE.var 0) t.c0_cls t.me_Field_times (show Str.ofString "times" ∉ nSums :: fieldNm 0 by decide) (ok_Field_times t tk) (Nat.le_of_ble_eq_true rfl) t.b_Field_times (SA.cons (SE.var 3) (SA.cons (SE.var 2) SA.nil))) (SA.cons (SE.var 4) SA.nil)))))))
    (SB.one (SS.ret (XE.mA (SE.var 3))))))
  exact defP (R := t.R tk) t.F_Field_value sc_Field_value h (by decide)
def b_square_tests : Stm Unit := (sSeq (sAsg (fL (fLst (fCons (fTup fNil) fNil))) (bName 2))
    (sSeq (sFor (fRng1 (fCons (fVar 1) fNil)) (bName 3) (sAsg (fL (fLc2 (fList (fVar 2)) (bName 7) fYes (fRng1 (fCons (fUn (gFld 0 0) (fVar 0)) fNil)) (bName 6) fYes (fOp gAdd (fVar 7) (fTup (fCons (fVar 6) fNil))) [7, 6] [6])) (bName 2)))
    (sSeq (sIf (fOr (fTest (fOp gLt (fVar 1) (fC (.int 1)))) (fTest (fOp gGt (fCall gLen (fCons (fVar 2) fNil)) (fC (.int 16))))) sNever
    sNext)
    (sSeq (sOwn 4 (fLst fNil))
    (sSeq (sFor (fRng1 (fCons (fUn (gFld 0 0) (fVar 0)) fNil)) (bName 5) (sFor (fRng1 (fCons (fUn (gFld 0 0) (fVar 0)) fNil)) (bName 6) (sApp 4 (fCall gTuple (fCons (fL (fLc (fEnumA (fCons (fVar 2) fNil)) (bTup (bsCons (bName 8) (bsCons (bName 7) bsNil))) (fTest (fOp gEq (fMeth 0 3 g_Field_value (fVar 0) (fCons (fVar 7) (fCons (fVar 5) fNil))) (fVar 6))) (fVar 8) [8, 7])) fNil)))))
    (freeze 4 (sRet (fTup (fCons (fCall gLen (fCons (fVar 2) fNil)) (fCons (fCall gTuple (fCons (fVar 4) fNil)) fNil))))))))))
def g_square_tests : List D → Option D := runP N_square_tests.length b_square_tests
theorem ok_square_tests : FnOk P w K mg base CX0 5 t.f_square_tests t.fd_square_tests P_square_tests (spP (t.R tk) 2 g_square_tests) := by
  have h : SB ⟨P, w, t.R tk, mg, base, N_square_tests, defScope s_square_tests, fun _ => true, 4⟩ sk0 (defBody s_square_tests) b_square_tests := (SB.cons (SS.set 2 (XE.mA (SN.ev (SN.lst (SA.cons (SE.tup SA.nil) SA.nil)))))
    (SB.cons (SS.for (XW.mA (SW.rng1 t.z_range (SA.cons (SE.var 1) SA.nil))) (SG.name 3) (SB.one (SS.lc2S 2 (own := [((Str.ofString "row"), 7), ((Str.ofString "value"), 6)]) (SW.seq (SE.var 2)) (blkOk_by (N := N_square_tests) (sc := (defScope s_square_tests)) (own := [((Str.ofString "row"), 7), ((Str.ofString "value"), 6)]) (by decide +kernel)) (by decide) (SG.name 7) SQs.nil (SW.rng1 t.z_range (SA.cons (SE.fld (ci := 0) (k := 0) (SE.var 0) t.c0_cls t.c0_na_size rfl (fieldNm_nd 0)) SA.nil)) (SG.name 6) SQs.nil (SE.add (SE.var 7) (SE.tup (SA.cons (SE.var 6) SA.nil))))))
    (SB.cons (SS.ite (XQ.mA (SQ.or (SQ.ord .lt (SE.var 1) SE.int) (SQ.or1 (SQ.ord .gt (SE.len t.z_len (SA.cons (SE.var 2) SA.nil)) (SE.glob (v := .int 16) (Classical.choose_spec t.k_MOST_ITEMS) ⟨_, rfl⟩ fun _ => .int _))))) (SB.one SS.never)
    SB.nil)
    (SB.cons (SS.own 4 (XN.mA (SN.lst SA.nil)))
    (SB.cons (SS.for (XW.mA (SW.rng1 t.z_range (SA.cons (SE.fld (ci := 0) (k := 0) (SE.var 0) t.c0_cls t.c0_na_size rfl (fieldNm_nd 0)) SA.nil))) (SG.name 5) (SB.one (SS.for (XW.mA (SW.rng1 t.z_range (SA.cons (SE.fld (ci := 0) (k := 0) (SE.var 0) t.c0_cls t.c0_na_size rfl (fieldNm_nd 0)) SA.nil))) (SG.name 6) (SB.one (SS.app 4 (XE.mA (SE.tuple t.z_tuple (SA.cons (SN.ev (SN.lc (own := [((Str.ofString "at"), 8), ((Str.ofString "row"), 7)]) (SW.enumA t.z_enumerate (SA.cons (SE.var 2) SA.nil)) (blkOk_by (N := N_square_tests) (sc := (defScope s_square_tests)) (own := [((Str.ofString "at"), 8), ((Str.ofString "row"), 7)]) (by decide +kernel)) (SG.tup 2 (SGs.cons (SG.name 8) (SGs.cons (SG.name 7) SGs.nil)) (bsCons_len (bsCons_len (fun _ _ _ => bsNil_len)))) (SQs.one (SQ.ord .eq (SE.meth (ci := 0) (SE.var 0) t.c0_cls t.me_Field_value (show Str.ofString "value" ∉ nSums :: fieldNm 0 by decide) (ok_Field_value t tk) (Nat.le_of_ble_eq_true rfl) t.b_Field_value (SA.cons (SE.var 7) (SA.cons (SE.var 5) SA.nil))) (SE.var 6))) (SE.var 8))) SA.nil))))))))
    (SB.freeze (j := 4) (SB.one (SS.ret (XE.mA (SE.tup (SA.cons (SE.len t.z_len (SA.cons (SE.var 2) SA.nil)) (SA.cons (SE.tuple t.z_tuple (SA.cons (SE.var 4) SA.nil)) SA.nil))))))))))))
  exact defP (R := t.R tk) t.F_square_tests sc_square_tests h (by decide)
def b_Field_inverse : Stm Unit := (sSeq (sDrop (fMeth 0 2 g_Field_check (fVar 0) (fCons (fVar 1) fNil)))
    (sSeq (sIf (fTest (fOp gEq (fVar 1) (fC (.int 0)))) sNever
    sNext)
    (sRet (fIdx (fOp gIx (fUn (gFld 0 5) (fVar 0)) (fVar 1)) (fC (.int 1))))))
def g_Field_inverse : List D → Option D := runP N_Field_inverse.length b_Field_inverse
theorem ok_Field_inverse : FnOk P w K mg base CX0 3 t.f_Field_inverse t.fd_Field_inverse P_Field_inverse (spP (t.R tk) 2 g_Field_inverse) := by
  have h : SB ⟨P, w, t.R tk, mg, base, N_Field_inverse, defScope s_Field_inverse, fun _ => true, 2⟩ sk0 (defBody s_Field_inverse) b_Field_inverse := (SB.cons (SS.drop (XE.mA (SE.meth (ci := 0) (SE.var 0) t.c0_cls t.me_Field_check (show Str.ofString "check" ∉ nSums :: fieldNm 0 by decide) (ok_Field_check t tk) (Nat.le_of_ble_eq_true rfl) t.b_Field_check (SA.cons (SE.var 1) SA.nil))))
    (SB.cons (SS.ite (XQ.mA (SQ.ord .eq (SE.var 1) SE.int)) (SB.one SS.never)
    SB.nil)
    (SB.one (SS.ret (XE.mA (SE.idx (SE.ix (SE.fld (ci := 0) (k := 5) (SE.var 0) t.c0_cls t.c0_na_products rfl (fieldNm_nd 0)) (SE.var 1)) SE.int))))))
  exact defP (R := t.R tk) t.F_Field_inverse sc_Field_inverse h (by decide)
def b_bits_down : Stm Unit := (sSeq (sOwn 1 (fLst fNil))
    (sSeq (sWhile (fTest (fOp gGt (fVar 0) (fC (.int 0)))) (sSeq (sApp 1 (fOp gMod (fVar 0) (fC (.int 2))))
    (sAsg (fOp gDiv (fVar 0) (fC (.int 2))) (bName 0))) 200)
    (freeze 1 (sRet (fL (fRevL (fVar 1)))))))
def g_bits_down : List D → Option D := runP N_bits_down.length b_bits_down
theorem ok_bits_down : FnOk P w K mg base CX0 1 t.f_bits_down t.fd_bits_down P_bits_down (spP (t.R tk) 1 g_bits_down) := by
  have h : SB ⟨P, w, t.R tk, mg, base, N_bits_down, defScope s_bits_down, fun _ => true, 0⟩ sk0 (defBody s_bits_down) b_bits_down := (SB.cons (SS.own 1 (XN.mA (SN.lst SA.nil)))
    (SB.cons (SS.while 200 (XQ.mA (SQ.ord .gt (SE.var 0) SE.int)) (SB.cons (SS.app 1 (XE.mA (SE.mod (SE.var 0) SE.int)))
    (SB.one (SS.set 0 (XE.mA (SE.div (SE.var 0) SE.int))))))
    (SB.freeze (j := 1) (SB.one (SS.ret (XE.mA (SN.ev (SN.revL (SE.var 1)))))))))
  exact defP (R := t.R tk) t.F_bits_down sc_bits_down h (by decide)
def b_Field_power : Stm Unit := (sSeq (sDrop (fMeth 0 2 g_Field_check (fVar 0) (fCons (fVar 1) fNil)))
    (sSeq (sIf (fTest (fOp gLt (fVar 2) (fC (.int 0)))) (sPar 1 2 (fCons (fMeth 0 2 g_Field_inverse (fVar 0) (fCons (fVar 1) fNil)) (fCons (fUn gNeg (fVar 2)) fNil)))
    sNext)
    (sSeq (sAsg (fC (.int 1)) (bName 3))
    (sSeq (sFor (fList (fCall (lenG 1 g_bits_down) (fCons (fVar 2) fNil))) (bName 4) (sSeq (sAsg (fOp gIx (fOp gIx (fUn (gFld 0 5) (fVar 0)) (fVar 3)) (fVar 3)) (bName 3))
    (sIf (fTest (fOp gEq (fVar 4) (fC (.int 1)))) (sAsg (fOp gIx (fOp gIx (fUn (gFld 0 5) (fVar 0)) (fVar 3)) (fVar 1)) (bName 3))
    sNext)))
    (sRet (fVar 3))))))
def g_Field_power : List D → Option D := runP N_Field_power.length b_Field_power
theorem ok_Field_power : FnOk P w K mg base CX0 4 t.f_Field_power t.fd_Field_power P_Field_power (spP (t.R tk) 3 g_Field_power) := by
  have h : SB ⟨P, w, t.R tk, mg, base, N_Field_power, defScope s_Field_power, fun _ => true, 3⟩ sk0 (defBody s_Field_power) b_Field_power := (SB.cons (SS.drop (XE.mA (SE.meth (ci := 0) (SE.var 0) t.c0_cls t.me_Field_check (show Str.ofString "check" ∉ nSums :: fieldNm 0 by decide) (ok_Field_check t tk) (Nat.le_of_ble_eq_true rfl) t.b_Field_check (SA.cons (SE.var 1) SA.nil))))
    (SB.cons (SS.ite (XQ.mA (SQ.ord .lt (SE.var 2) SE.int)) (SB.one (SS.par 1 2 (XA.mA (SA.cons (SE.meth (ci := 0) (SE.var 0) t.c0_cls t.me_Field_inverse (show Str.ofString "inverse" ∉ nSums :: fieldNm 0 by decide) (ok_Field_inverse t tk) (Nat.le_of_ble_eq_true rfl) t.b_Field_inverse (SA.cons (SE.var 1) SA.nil)) (SA.cons (SE.neg (SE.var 2)) SA.nil)))))
    SB.nil)
    (SB.cons (SS.set 3 (XE.mA SE.int))
    (SB.cons (SS.for (XW.mA (SW.seq (SE.call (ok_bits_down t tk) (Nat.le_of_ble_eq_true rfl) t.m_bits_down t.F_bits_down.kp t.b_bits_down (SA.cons (SE.var 2) SA.nil)))) (SG.name 4) (SB.cons (SS.set 3 (XE.mA (SE.ix (SE.ix (SE.fld (ci := 0) (k := 5) (SE.var 0) t.c0_cls t.c0_na_products rfl (fieldNm_nd 0)) (SE.var 3)) (SE.var 3))))
    (SB.one (SS.ite (XQ.mA (SQ.ord .eq (SE.var 4) SE.int)) (SB.one (SS.set 3 (XE.mA (SE.ix (SE.ix (SE.fld (ci := 0) (k := 5) (SE.var 0) t.c0_cls t.c0_na_products rfl (fieldNm_nd 0)) (SE.var 3)) (SE.var 1)))))
    SB.nil))))
    (SB.one (SS.ret (XE.mA (SE.var 3))))))))
  exact defP (R := t.R tk) t.F_Field_power sc_Field_power h (by decide)
def b_reed_solomon : Stm Unit := (sSeq (sAsg (fMk g_Field (fCons (fVar 0) fNil)) (bName 2))
    (sSeq (sIf (fOr (fTest (fOp gGt (fVar 0) (fC (.int 9)))) (fOr (fNot (fTest (fCall (lenG 1 g_is_integer) (fCons (fVar 1) fNil)))) (fNot (fTest (fChain gLe gLe (fC (.int 1)) (fVar 1) (fVar 0)))))) sNever
    sNext)
    (sSeq (sAsg (fL (fLc (fRng1 (fCons (fVar 1) fNil)) (bName 4) fYes (fCall gTuple (fCons (fL (fLc (fRng1 (fCons (fVar 0) fNil)) (bName 5) fYes (fMeth 0 3 g_Field_power (fVar 2) (fCons (fVar 5) (fCons (fVar 4) fNil))) [5])) fNil)) [4])) (bName 3))
    (sRet (fTup (fCons (fVar 0) (fCons (fCall gTuple (fCons (fVar 3) fNil)) fNil)))))))
def g_reed_solomon : List D → Option D := runP N_reed_solomon.length b_reed_solomon
theorem ok_reed_solomon : FnOk P w K mg base CX0 5 t.f_reed_solomon t.fd_reed_solomon P_reed_solomon (spP (t.R tk) 2 g_reed_solomon) := by
  have h : SB ⟨P, w, t.R tk, mg, base, N_reed_solomon, defScope s_reed_solomon, fun _ => true, 4⟩ sk0 (defBody s_reed_solomon) b_reed_solomon := (SB.cons (SS.set 2 (XE.mA (SE.make t.mk_Field (ok_Field___init__ t tk) (Nat.le_of_ble_eq_true rfl) t.m_Field t.b_Field___init__ (run_Field t) rfl rfl (SA.cons (SE.var 0) SA.nil))))
    (SB.cons (SS.ite (XQ.mA (SQ.or (SQ.ord .gt (SE.var 0) SE.int) (SQ.or (SQ.not (SQ.v (SE.call (ok_is_integer t tk) (Nat.le_of_ble_eq_true rfl) t.m_is_integer t.F_is_integer.kp t.b_is_integer (SA.cons (SE.var 1) SA.nil)))) (SQ.or1 (SQ.not (SQ.chain .le .le SE.int (SE.var 1) (SE.var 0))))))) (SB.one SS.never)
    SB.nil)
    (SB.cons (SS.lcS 3 (own := [((Str.ofString "exponent"), 4)]) (SW.rng1 t.z_range (SA.cons (SE.var 1) SA.nil)) (blkOk_by (N := N_reed_solomon) (sc := (defScope s_reed_solomon)) (own := [((Str.ofString "exponent"), 4)]) (by decide +kernel)) (SG.name 4) SQs.nil (SE.tuple t.z_tuple (SA.cons (SN.ev (SN.lc (own := [((Str.ofString "point"), 5)]) (SW.rng1 t.z_range (SA.cons (SE.var 0) SA.nil)) (blkOk_by (N := N_reed_solomon) (sc := (rl _ (defScope s_reed_solomon))) (own := [((Str.ofString "point"), 5)]) (by decide +kernel)) (SG.name 5) SQs.nil (SE.meth (ci := 0) (SE.var 2) t.c0_cls t.me_Field_power (show Str.ofString "power" ∉ nSums :: fieldNm 0 by decide) (ok_Field_power t tk) (Nat.le_of_ble_eq_true rfl) t.b_Field_power (SA.cons (SE.var 5) (SA.cons (SE.var 4) SA.nil))))) SA.nil)))
    (SB.one (SS.ret (XE.mA (SE.tup (SA.cons (SE.var 0) (SA.cons (SE.tuple t.z_tuple (SA.cons (SE.var 3) SA.nil)) SA.nil)))))))))
  exact defP (R := t.R tk) t.F_reed_solomon sc_reed_solomon h (by decide)
def b_is_word : Stm Unit := (sSeq (sIf (fOr (fNot (fTest (fUn gIsiTuple (fVar 2)))) (fTest (fOp gNe (fCall gLen (fCons (fVar 2) fNil)) (fVar 1)))) (sRet (fC (.bl false)))
    sNext)
    (sRet (fCall gAll (fCons (fL (fLc (fList (fVar 2)) (bName 3) fYes (fAndV (fCall (lenG 1 g_is_integer) (fCons (fVar 3) fNil)) (fChain gLe gLt (fC (.int 0)) (fVar 3) (fUn (gFld 0 0) (fVar 0)))) [3])) fNil))))
def g_is_word : List D → Option D := runP N_is_word.length b_is_word
theorem ok_is_word : FnOk P w K mg base CX0 2 t.f_is_word t.fd_is_word P_is_word (spP (t.R tk) 3 g_is_word) := by
  have h : SB ⟨P, w, t.R tk, mg, base, N_is_word, defScope s_is_word, fun _ => true, 1⟩ sk0 (defBody s_is_word) b_is_word := (SB.cons (SS.ite (XQ.mA (SQ.or (SQ.not (SQ.v (SE.isTuple t.z_isinstance t.z_tuple (SE.var 2)))) (SQ.or1 (SQ.ord .ne (SE.len t.z_len (SA.cons (SE.var 2) SA.nil)) (SE.var 1))))) (SB.one (SS.ret (XE.mA SE.bl)))
    SB.nil)
    (SB.one (SS.ret (XE.mA (SE.all t.z_all (SA.cons (SN.ev (SN.lc (own := [((Str.ofString "each"), 3)]) (SW.seq (SE.var 2)) (blkOk_by (N := N_is_word) (sc := (defScope s_is_word)) (own := [((Str.ofString "each"), 3)]) (by decide +kernel)) (SG.name 3) SQs.nil (SE.and (SE.call (ok_is_integer t tk) (Nat.le_of_ble_eq_true rfl) t.m_is_integer t.F_is_integer.kp t.b_is_integer (SA.cons (SE.var 3) SA.nil)) (SE.one (SE.chain .le .lt SE.int (SE.var 3) (SE.fld (ci := 0) (k := 0) (SE.var 0) t.c0_cls t.c0_na_size rfl (fieldNm_nd 0))))))) SA.nil))))))
  exact defP (R := t.R tk) t.F_is_word sc_is_word h (by decide)
def b_check_rows : Stm Unit := (sSeq (sIf (fTest (fOp gGt (fUn (gFld 0 0) (fVar 0)) (fC (.int 9)))) sNever
    sNext)
    (sSeq (sIf (fOr (fNot (fTest (fCall (lenG 1 g_is_integer) (fCons (fVar 1) fNil)))) (fNot (fTest (fChain gLe gLe (fC (.int 1)) (fVar 1) (fC (.int 24)))))) sNever
    sNext)
    (sIf (fOr (fNot (fTest (fUn gIsiTuple (fVar 2)))) (fTest (fCall gAny (fCons (fL (fLc (fList (fVar 2)) (bName 3) fYes (fNotV (fCall (lenG 3 g_is_word) (fCons (fVar 0) (fCons (fVar 1) (fCons (fVar 3) fNil))))) [3])) fNil)))) sNever
    sNext)))
def g_check_rows : List D → Option D := runP N_check_rows.length b_check_rows
theorem ok_check_rows : FnOk P w K mg base CX0 3 t.f_check_rows t.fd_check_rows P_check_rows (spP (t.R tk) 3 g_check_rows) := by
  have h : SB ⟨P, w, t.R tk, mg, base, N_check_rows, defScope s_check_rows, fun _ => true, 2⟩ sk0 (defBody s_check_rows) b_check_rows := (SB.cons (SS.ite (XQ.mA (SQ.ord .gt (SE.fld (ci := 0) (k := 0) (SE.var 0) t.c0_cls t.c0_na_size rfl (fieldNm_nd 0)) SE.int)) (SB.one SS.never)
    SB.nil)
    (SB.cons (SS.ite (XQ.mA (SQ.or (SQ.not (SQ.v (SE.call (ok_is_integer t tk) (Nat.le_of_ble_eq_true rfl) t.m_is_integer t.F_is_integer.kp t.b_is_integer (SA.cons (SE.var 1) SA.nil)))) (SQ.or1 (SQ.not (SQ.chain .le .le SE.int (SE.var 1) (SE.glob (v := .int 24) (Classical.choose_spec t.k_MOST_LENGTH) ⟨_, rfl⟩ fun _ => .int _)))))) (SB.one SS.never)
    SB.nil)
    (SB.one (SS.ite (XQ.mA (SQ.or (SQ.not (SQ.v (SE.isTuple t.z_isinstance t.z_tuple (SE.var 2)))) (SQ.or1 (SQ.v (SE.any t.z_any (SA.cons (SN.ev (SN.lc (own := [((Str.ofString "row"), 3)]) (SW.seq (SE.var 2)) (blkOk_by (N := N_check_rows) (sc := (defScope s_check_rows)) (own := [((Str.ofString "row"), 3)]) (by decide +kernel)) (SG.name 3) SQs.nil (SE.not (SE.call (ok_is_word t tk) (Nat.le_of_ble_eq_true rfl) t.m_is_word t.F_is_word.kp t.b_is_word (SA.cons (SE.var 0) (SA.cons (SE.var 1) (SA.cons (SE.var 3) SA.nil))))))) SA.nil)))))) (SB.one SS.never)
    SB.nil))))
  exact defP (R := t.R tk) t.F_check_rows sc_check_rows h (by decide)
def b_scaled : Stm Unit := (sRet (fCall gTuple (fCons (fL (fLc (fList (fVar 1)) (bName 3) fYes (fMeth 0 3 g_Field_times (fVar 0) (fCons (fVar 2) (fCons (fVar 3) fNil))) [3])) fNil)))
def g_scaled : List D → Option D := runP N_scaled.length b_scaled
theorem ok_scaled : FnOk P w K mg base CX0 4 t.f_scaled t.fd_scaled P_scaled (spP (t.R tk) 3 g_scaled) := by
  have h : SB ⟨P, w, t.R tk, mg, base, N_scaled, defScope s_scaled, fun _ => true, 3⟩ sk0 (defBody s_scaled) b_scaled := (SB.one (SS.ret (XE.mA (SE.tuple t.z_tuple (SA.cons (SN.ev (SN.lc (own := [((Str.ofString "each"), 3)]) (SW.seq (SE.var 1)) (blkOk_by (N := N_scaled) (sc := (defScope s_scaled)) (own := [((Str.ofString "each"), 3)]) (by decide +kernel)) (SG.name 3) SQs.nil (SE.meth (ci := 0) (SE.var 0) t.c0_cls t.me_Field_times (show Str.ofString "times" ∉ nSums :: fieldNm 0 by decide) (ok_Field_times t tk) (Nat.le_of_ble_eq_true rfl) t.b_Field_times (SA.cons (SE.var 2) (SA.cons (SE.var 3) SA.nil))))) SA.nil)))))
  exact defP (R := t.R tk) t.F_scaled sc_scaled h (by decide)
def b_Field_minus : Stm Unit := (sSeq (sDrop (fMeth 0 2 g_Field_check (fVar 0) (fCons (fVar 1) fNil)))
    (sRet (fIdx (fOp gIx (fUn (gFld 0 4) (fVar 0)) (fVar 1)) (fC (.int 0)))))
def g_Field_minus : List D → Option D := runP N_Field_minus.length b_Field_minus
theorem ok_Field_minus : FnOk P w K mg base CX0 3 t.f_Field_minus t.fd_Field_minus P_Field_minus (spP (t.R tk) 2 g_Field_minus) := by
  have h : SB ⟨P, w, t.R tk, mg, base, N_Field_minus, defScope s_Field_minus, fun _ => true, 2⟩ sk0 (defBody s_Field_minus) b_Field_minus := (SB.cons (SS.drop (XE.mA (SE.meth (ci := 0) (SE.var 0) t.c0_cls t.me_Field_check (show Str.ofString "check" ∉ nSums :: fieldNm 0 by decide) (ok_Field_check t tk) (Nat.le_of_ble_eq_true rfl) t.b_Field_check (SA.cons (SE.var 1) SA.nil))))
    (SB.one (SS.ret (XE.mA (SE.idx (SE.ix (SE.fld (ci := 0) (k := 4) (SE.var 0) t.c0_cls t.c0_na_sums rfl (fieldNm_nd 0)) (SE.var 1)) SE.int)))))
  exact defP (R := t.R tk) t.F_Field_minus sc_Field_minus h (by decide)
def b_sum_of : Stm Unit := (sRet (fCall gTuple (fCons (fL (fLc (fZip (fCons (fVar 1) (fCons (fVar 2) fNil))) (bTup (bsCons (bName 3) (bsCons (bName 4) bsNil))) fYes (fMeth 0 3 g_Field_plus (fVar 0) (fCons (fVar 3) (fCons (fVar 4) fNil))) [3, 4])) fNil)))
def g_sum_of : List D → Option D := runP N_sum_of.length b_sum_of
theorem ok_sum_of : FnOk P w K mg base CX0 4 t.f_sum_of t.fd_sum_of P_sum_of (spP (t.R tk) 3 g_sum_of) := by
  have h : SB ⟨P, w, t.R tk, mg, base, N_sum_of, defScope s_sum_of, fun _ => true, 3⟩ sk0 (defBody s_sum_of) b_sum_of := (SB.one (SS.ret (XE.mA (SE.tuple t.z_tuple (SA.cons (SN.ev (SN.lc (own := [((Str.ofString "left"), 3), ((Str.ofString "right"), 4)]) (SW.zip t.z_zip (SA.cons (SE.var 1) (SA.cons (SE.var 2) SA.nil))) (blkOk_by (N := N_sum_of) (sc := (defScope s_sum_of)) (own := [((Str.ofString "left"), 3), ((Str.ofString "right"), 4)]) (by decide +kernel)) (SG.tup 2 (SGs.cons (SG.name 3) (SGs.cons (SG.name 4) SGs.nil)) (bsCons_len (bsCons_len (fun _ _ _ => bsNil_len)))) SQs.nil (SE.meth (ci := 0) (SE.var 0) t.c0_cls t.me_Field_plus (show Str.ofString "plus" ∉ nSums :: fieldNm 0 by decide) (ok_Field_plus t tk) (Nat.le_of_ble_eq_true rfl) t.b_Field_plus (SA.cons (SE.var 3) (SA.cons (SE.var 4) SA.nil))))) SA.nil)))))
  exact defP (R := t.R tk) t.F_sum_of sc_sum_of h (by decide)
def b_less : Stm Unit := (sRet (fCall (lenG 3 g_sum_of) (fCons (fVar 0) (fCons (fVar 1) (fCons (fCall (lenG 3 g_scaled) (fCons (fVar 0) (fCons (fVar 2) (fCons (fMeth 0 2 g_Field_minus (fVar 0) (fCons (fVar 3) fNil)) fNil)))) fNil)))))
def g_less : List D → Option D := runP N_less.length b_less
theorem ok_less : FnOk P w K mg base CX0 5 t.f_less t.fd_less P_less (spP (t.R tk) 4 g_less) := by
  have h : SB ⟨P, w, t.R tk, mg, base, N_less, defScope s_less, fun _ => true, 4⟩ sk0 (defBody s_less) b_less := (SB.one (SS.ret (XE.mA (SE.call (ok_sum_of t tk) (Nat.le_of_ble_eq_true rfl) t.m_sum_of t.F_sum_of.kp t.b_sum_of (SA.cons (SE.var 0) (SA.cons (SE.var 1) (SA.cons (SE.call (ok_scaled t tk) (Nat.le_of_ble_eq_true rfl) t.m_scaled t.F_scaled.kp t.b_scaled (SA.cons (SE.var 0) (SA.cons (SE.var 2) (SA.cons (SE.meth (ci := 0) (SE.var 0) t.c0_cls t.me_Field_minus (show Str.ofString "minus" ∉ nSums :: fieldNm 0 by decide) (ok_Field_minus t tk) (Nat.le_of_ble_eq_true rfl) t.b_Field_minus (SA.cons (SE.var 3) SA.nil)) SA.nil)))) SA.nil)))))))
  exact defP (R := t.R tk) t.F_less sc_less h (by decide)
def b_reduced : Stm Unit := (sSeq (sDrop (fCall (lenG 3 g_check_rows) (fCons (fVar 0) (fCons (fVar 1) (fCons (fVar 2) fNil)))))
    (sSeq (sOwn 3 (fLc (fList (fVar 2)) (bName 8) fYes (fVar 8) [8]))
    (sSeq (sOwn 4 (fLst fNil))
    (sSeq (sFor (fRng1 (fCons (fVar 1) fNil)) (bName 5) (freeze 6 (sSeq (sOwn 6 (fFlats (fLc (fRng2 (fCons (fCall gLen (fCons (fVarB 4) fNil)) (fCons (fCall gLen (fCons (fVarB 3) fNil)) fNil))) (bName 9) (fTest (fOp gNe (fOp gIx (fOp gIx (fVarB 3) (fVar 9)) (fVar 5)) (fC (.int 0)))) (fVar 9) [9])))
    (freeze 6 (sIf (fTru (fVar 6)) (sSeq (sAsg (fFlat (fCall gLen (fCons (fVarB 4) fNil))) (bName 7))
    (sSeq (sSwap 3 3 (fVar 7) (fOp gIx (fVar 6) (fC (.int 0))) (fFlats (fCons (fOp gIx (fVarB 3) (fOp gIx (fVar 6) (fC (.int 0)))) (fCons (fOp gIx (fVarB 3) (fVar 7)) fNil))))
    (sSeq (sSet 3 (fVar 7) (fFlat (fCall (lenG 3 g_scaled) (fCons (fVar 0) (fCons (fOp gIx (fVarB 3) (fVar 7)) (fCons (fMeth 0 2 g_Field_inverse (fVar 0) (fCons (fOp gIx (fOp gIx (fVarB 3) (fVar 7)) (fVar 5)) fNil)) fNil))))))
    (freeze 3 (sSeq (sOwn 3 (fLc (fEnumA (fCons (fVar 3) fNil)) (bTup (bsCons (bName 9) (bsCons (bName 8) bsNil))) fYes (fIf (fTest (fOp gEq (fVar 9) (fVar 7))) (fVar 8) (fCall (lenG 4 g_less) (fCons (fVar 0) (fCons (fVar 8) (fCons (fOp gIx (fVar 3) (fVar 7)) (fCons (fOp gIx (fVar 8) (fVar 5)) fNil)))))) [9, 8]))
    (sApp 4 (fVar 5)))))))
    sNext)))))
    (freeze 4 (freeze 3 (sRet (fTup (fCons (fCall gTuple (fCons (fSl (fVar 3) fNoPart (fPart (fCall gLen (fCons (fVar 4) fNil)))) fNil)) (fCons (fCall gTuple (fCons (fVar 4) fNil)) fNil))))))))))
def g_reduced : List D → Option D := runP N_reduced.length b_reduced
theorem ok_reduced : FnOk P w K mg base CX0 6 t.f_reduced t.fd_reduced P_reduced (spP (t.R tk) 3 g_reduced) := by
  have h : SB ⟨P, w, t.R tk, mg, base, N_reduced, defScope s_reduced, fun _ => true, 5⟩ sk0 (defBody s_reduced) b_reduced := (SB.cons (SS.drop (XE.mA (SE.call (ok_check_rows t tk) (Nat.le_of_ble_eq_true rfl) t.m_check_rows t.F_check_rows.kp t.b_check_rows (SA.cons (SE.var 0) (SA.cons (SE.var 1) (SA.cons (SE.var 2) SA.nil))))))
    (SB.cons (SS.own 3 (XN.mA (SN.lc (own := [((Str.ofString "row"), 8)]) (SW.seq (SE.var 2)) (blkOk_by (N := N_reduced) (sc := (defScope s_reduced)) (own := [((Str.ofString "row"), 8)]) (by decide +kernel)) (SG.name 8) SQs.nil (SE.var 8))))
    (SB.cons (SS.own 4 (XN.mA (SN.lst SA.nil)))
    (SB.cons (SS.for (XW.mA (SW.rng1 t.z_range (SA.cons (SE.var 1) SA.nil))) (SG.name 5) (SB.freeze (j := 6) (SB.cons (SS.lc 6 (own := [((Str.ofString "at"), 9)]) true (SW.rng2 t.z_range (SA.cons (SE.len t.z_len (SA.cons (SE.varB 4) SA.nil)) (SA.cons (SE.len t.z_len (SA.cons (SE.varB 3) SA.nil)) SA.nil))) (blkOk_by (N := N_reduced) (sc := (defScope s_reduced)) (own := [((Str.ofString "at"), 9)]) (by decide +kernel)) (SG.name 9) (SQs.one (SQ.ord .ne (SE.ix (SE.ix (SE.varB 3) (SE.var 9)) (SE.var 5)) SE.int)) (SE.var 9))
    (SB.freeze (j := 6) (SB.one (SS.ite (XQ.mA (SQ.tru (SE.var 6))) (SB.cons (SS.set 7 (XE.mB (SE.len t.z_len (SA.cons (SE.varB 4) SA.nil))))
    (SB.cons (SS.swap 3 3 (XA.mB (SA.cons (SE.ix (SE.varB 3) (SE.ix (SE.var 6) SE.int)) (SA.cons (SE.ix (SE.varB 3) (SE.var 7)) SA.nil))) (XE.mA (SE.var 7)) (XE.mA (SE.ix (SE.var 6) SE.int)))
    (SB.cons (SS.sub 3 (XE.mB (SE.call (ok_scaled t tk) (Nat.le_of_ble_eq_true rfl) t.m_scaled t.F_scaled.kp t.b_scaled (SA.cons (SE.var 0) (SA.cons (SE.ix (SE.varB 3) (SE.var 7)) (SA.cons (SE.meth (ci := 0) (SE.var 0) t.c0_cls t.me_Field_inverse (show Str.ofString "inverse" ∉ nSums :: fieldNm 0 by decide) (ok_Field_inverse t tk) (Nat.le_of_ble_eq_true rfl) t.b_Field_inverse (SA.cons (SE.ix (SE.ix (SE.varB 3) (SE.var 7)) (SE.var 5)) SA.nil)) SA.nil))))) (XE.mA (SE.var 7)))
    (SB.freeze (j := 3) (SB.cons (SS.own 3 (XN.mA (SN.lc (own := [((Str.ofString "at"), 9), ((Str.ofString "row"), 8)]) (SW.enumA t.z_enumerate (SA.cons (SE.var 3) SA.nil)) (blkOk_by (N := N_reduced) (sc := (defScope s_reduced)) (own := [((Str.ofString "at"), 9), ((Str.ofString "row"), 8)]) (by decide +kernel)) (SG.tup 2 (SGs.cons (SG.name 9) (SGs.cons (SG.name 8) SGs.nil)) (bsCons_len (bsCons_len (fun _ _ _ => bsNil_len)))) SQs.nil (SE.ite (SQ.ord .eq (SE.var 9) (SE.var 7)) (SE.var 8) (SE.call (ok_less t tk) (Nat.le_of_ble_eq_true rfl) t.m_less t.F_less.kp t.b_less (SA.cons (SE.var 0) (SA.cons (SE.var 8) (SA.cons (SE.ix (SE.var 3) (SE.var 7)) (SA.cons (SE.ix (SE.var 8) (SE.var 5)) SA.nil)))))))))
    (SB.one (SS.app 4 (XE.mA (SE.var 5)))))))))
    SB.nil))))))
    (SB.freeze (j := 4) (SB.freeze (j := 3) (SB.one (SS.ret (XE.mA (SE.tup (SA.cons (SE.tuple t.z_tuple (SA.cons (SE.sl (SE.var 3) SO.non (SO.some (SE.len t.z_len (SA.cons (SE.var 4) SA.nil)))) SA.nil)) (SA.cons (SE.tuple t.z_tuple (SA.cons (SE.var 4) SA.nil)) SA.nil))))))))))))
  exact defP (R := t.R tk) t.F_reduced sc_reduced h (by decide)
def b_words : Stm Unit := (sSeq (sAsg (fCall (lenG 3 g_reduced) (fCons (fVar 0) (fCons (fVar 1) (fCons (fVar 2) fNil)))) (bTup (bsCons (bName 3) (bsCons (bName 4) bsNil))))
    (sSeq (sAsg (fC (.int 1)) (bName 5))
    (sSeq (sFor (fList (fVar 3)) (bName 6) (sSeq (sAsg (fOp gMulX (fVar 5) (fUn (gFld 0 0) (fVar 0))) (bName 5))
    (sIf (fTest (fOp gGt (fVar 5) (fC (.int 5000)))) sNever
    sNext)))
    (sSeq (sAsg (fL (fLst (fCons (fOp gMulX (fTup (fCons (fC (.int 0)) fNil)) (fVar 1)) fNil))) (bName 7))
    (sSeq (sFor (fList (fVar 3)) (bName 6) (sAsg (fL (fLc2 (fList (fVar 7)) (bName 8) fYes (fRng1 (fCons (fUn (gFld 0 0) (fVar 0)) fNil)) (bName 9) fYes (fCall (lenG 3 g_sum_of) (fCons (fVar 0) (fCons (fVar 8) (fCons (fCall (lenG 3 g_scaled) (fCons (fVar 0) (fCons (fVar 6) (fCons (fVar 9) fNil)))) fNil)))) [8, 9] [9])) (bName 7)))
    (sRet (fCall gTuple (fCons (fL (fSortA (fVar 7))) fNil))))))))
def g_words : List D → Option D := runP N_words.length b_words
theorem ok_words : FnOk P w K mg base CX0 7 t.f_words t.fd_words P_words (spP (t.R tk) 3 g_words) := by
  have h : SB ⟨P, w, t.R tk, mg, base, N_words, defScope s_words, fun _ => true, 6⟩ sk0 (defBody s_words) b_words := (SB.cons (SS.asg (XE.mA (SE.call (ok_reduced t tk) (Nat.le_of_ble_eq_true rfl) t.m_reduced t.F_reduced.kp t.b_reduced (SA.cons (SE.var 0) (SA.cons (SE.var 1) (SA.cons (SE.var 2) SA.nil))))) (SG.tup 2 (SGs.cons (SG.name 3) (SGs.cons (SG.name 4) SGs.nil)) (bsCons_len (bsCons_len (fun _ _ _ => bsNil_len)))))
    (SB.cons (SS.set 5 (XE.mA SE.int))
    (SB.cons (SS.for (XW.mA (SW.seq (SE.var 3))) (SG.name 6) (SB.cons (SS.set 5 (XE.mA (SE.mulA (SE.var 5) (SE.fld (ci := 0) (k := 0) (SE.var 0) t.c0_cls t.c0_na_size rfl (fieldNm_nd 0)))))
    (SB.one (SS.ite (XQ.mA (SQ.ord .gt (SE.var 5) (SE.glob (v := .int 5000) (Classical.choose_spec t.k_MOST_WORDS) ⟨_, rfl⟩ fun _ => .int _))) (SB.one SS.never)
    SB.nil))))
    (SB.cons (SS.set 7 (XE.mA (SN.ev (SN.lst (SA.cons (SE.mulA (SE.tup (SA.cons SE.int SA.nil)) (SE.var 1)) SA.nil)))))
    (SB.cons (SS.for (XW.mA (SW.seq (SE.var 3))) (SG.name 6) (SB.one (SS.lc2S 7 (own := [((Str.ofString "word"), 8), ((Str.ofString "factor"), 9)]) (SW.seq (SE.var 7)) (blkOk_by (N := N_words) (sc := (defScope s_words)) (own := [((Str.ofString "word"), 8), ((Str.ofString "factor"), 9)]) (by decide +kernel)) (by decide) (SG.name 8) SQs.nil (SW.rng1 t.z_range (SA.cons (SE.fld (ci := 0) (k := 0) (SE.var 0) t.c0_cls t.c0_na_size rfl (fieldNm_nd 0)) SA.nil)) (SG.name 9) SQs.nil (SE.call (ok_sum_of t tk) (Nat.le_of_ble_eq_true rfl) t.m_sum_of t.F_sum_of.kp t.b_sum_of (SA.cons (SE.var 0) (SA.cons (SE.var 8) (SA.cons (SE.call (ok_scaled t tk) (Nat.le_of_ble_eq_true rfl) t.m_scaled t.F_scaled.kp t.b_scaled (SA.cons (SE.var 0) (SA.cons (SE.var 6) (SA.cons (SE.var 9) SA.nil)))) SA.nil)))))))
    (SB.one (SS.ret (XE.mA (SE.tuple t.z_tuple (SA.cons (SN.ev (SN.sortA t.z_sorted (SE.var 7))) SA.nil))))))))))
  exact defP (R := t.R tk) t.F_words sc_words h (by decide)
def b_weight : Stm Unit := (sRet (fCall gLen (fCons (fL (fLc (fList (fVar 0)) (bName 1) (fTest (fOp gNe (fVar 1) (fC (.int 0)))) (fVar 1) [1])) fNil)))
def g_weight : List D → Option D := runP N_weight.length b_weight
theorem ok_weight : FnOk P w K mg base CX0 1 t.f_weight t.fd_weight P_weight (spP (t.R tk) 1 g_weight) := by
  have h : SB ⟨P, w, t.R tk, mg, base, N_weight, defScope s_weight, fun _ => true, 0⟩ sk0 (defBody s_weight) b_weight := (SB.one (SS.ret (XE.mA (SE.len t.z_len (SA.cons (SN.ev (SN.lc (own := [((Str.ofString "each"), 1)]) (SW.seq (SE.var 0)) (blkOk_by (N := N_weight) (sc := (defScope s_weight)) (own := [((Str.ofString "each"), 1)]) (by decide +kernel)) (SG.name 1) (SQs.one (SQ.ord .ne (SE.var 1) SE.int)) (SE.var 1))) SA.nil)))))
  exact defP (R := t.R tk) t.F_weight sc_weight h (by decide)
def b_distance_paper : Stm Unit := (sSeq (sAsg (fC .non) (bName 3))
    (sSeq (sFor (fList (fCall (lenG 3 g_words) (fCons (fVar 0) (fCons (fVar 1) (fCons (fVar 2) fNil))))) (bName 4) (sSeq (sAsg (fCall (lenG 1 g_weight) (fCons (fVar 4) fNil)) (bName 5))
    (sIf (fAnd (fTest (fOp gGt (fVar 5) (fC (.int 0)))) (fOr (fTest (fUn gIsN (fVar 3))) (fTest (fOp gLt (fTup (fCons (fVar 5) (fCons (fVar 4) fNil))) (fVar 3))))) (sAsg (fTup (fCons (fVar 5) (fCons (fVar 4) fNil))) (bName 3))
    sNext)))
    (sRet (fVar 3))))
def g_distance_paper : List D → Option D := runP N_distance_paper.length b_distance_paper
theorem ok_distance_paper : FnOk P w K mg base CX0 8 t.f_distance_paper t.fd_distance_paper P_distance_paper (spP (t.R tk) 3 g_distance_paper) := by
  have h : SB ⟨P, w, t.R tk, mg, base, N_distance_paper, defScope s_distance_paper, fun _ => true, 7⟩ sk0 (defBody s_distance_paper) b_distance_paper := (SB.cons (SS.set 3 (XE.mA SE.non))
    (SB.cons (SS.for (XW.mA (SW.seq (SE.call (ok_words t tk) (Nat.le_of_ble_eq_true rfl) t.m_words t.F_words.kp t.b_words (SA.cons (SE.var 0) (SA.cons (SE.var 1) (SA.cons (SE.var 2) SA.nil)))))) (SG.name 4) (SB.cons (SS.set 5 (XE.mA (SE.call (ok_weight t tk) (Nat.le_of_ble_eq_true rfl) t.m_weight t.F_weight.kp t.b_weight (SA.cons (SE.var 4) SA.nil))))
    (SB.one (SS.ite (XQ.mA (SQ.and (SQ.ord .gt (SE.var 5) SE.int) (SQ.and1 (SQ.or (SQ.isN (SE.var 3)) (SQ.or1 (SQ.ord .lt (SE.tup (SA.cons (SE.var 5) (SA.cons (SE.var 4) SA.nil))) (SE.var 3))))))) (SB.one (SS.set 3 (XE.mA (SE.tup (SA.cons (SE.var 5) (SA.cons (SE.var 4) SA.nil))))))
    SB.nil))))
    (SB.one (SS.ret (XE.mA (SE.var 3))))))
  exact defP (R := t.R tk) t.F_distance_paper sc_distance_paper h (by decide)
def b_told_by : Stm Unit := (sSeq (sDrop (fCall (lenG 2 g_check_tests) (fCons (fVar 0) (fCons (fVar 1) fNil))))
    (sSeq (sAsg (fL (fLc (fZip (fCons (fVar 1) (fCons (fVar 2) fNil))) (bTup (bsCons (bName 4) (bsCons (bName 5) bsNil))) (fTest (fOp gEq (fVar 5) (fC (.int 0)))) (fVar 4) [4, 5])) (bName 3))
    (sRet (fCall gTuple (fCons (fL (fLc (fRng1 (fCons (fVar 0) fNil)) (bName 6) (fNot (fTest (fCall gAny (fCons (fL (fLc (fList (fVar 3)) (bName 4) fYes (fOp gIn (fVar 6) (fVar 4)) [4])) fNil)))) (fVar 6) [6])) fNil)))))
def g_told_by : List D → Option D := runP N_told_by.length b_told_by
theorem ok_told_by : FnOk P w K mg base CX0 4 t.f_told_by t.fd_told_by P_told_by (spP (t.R tk) 3 g_told_by) := by
  have h : SB ⟨P, w, t.R tk, mg, base, N_told_by, defScope s_told_by, fun _ => true, 3⟩ sk0 (defBody s_told_by) b_told_by := (SB.cons (SS.drop (XE.mA (SE.call (ok_check_tests t tk) (Nat.le_of_ble_eq_true rfl) t.m_check_tests t.F_check_tests.kp t.b_check_tests (SA.cons (SE.var 0) (SA.cons (SE.var 1) SA.nil)))))
    (SB.cons (SS.set 3 (XE.mA (SN.ev (SN.lc (own := [((Str.ofString "test"), 4), ((Str.ofString "result"), 5)]) (SW.zip t.z_zip (SA.cons (SE.var 1) (SA.cons (SE.var 2) SA.nil))) (blkOk_by (N := N_told_by) (sc := (defScope s_told_by)) (own := [((Str.ofString "test"), 4), ((Str.ofString "result"), 5)]) (by decide +kernel)) (SG.tup 2 (SGs.cons (SG.name 4) (SGs.cons (SG.name 5) SGs.nil)) (bsCons_len (bsCons_len (fun _ _ _ => bsNil_len)))) (SQs.one (SQ.ord .eq (SE.var 5) SE.int)) (SE.var 4)))))
    (SB.one (SS.ret (XE.mA (SE.tuple t.z_tuple (SA.cons (SN.ev (SN.lc (own := [((Str.ofString "item"), 6)]) (SW.rng1 t.z_range (SA.cons (SE.var 0) SA.nil)) (blkOk_by (N := N_told_by) (sc := (defScope s_told_by)) (own := [((Str.ofString "item"), 6)]) (by decide +kernel)) (SG.name 6) (SQs.one (SQ.not (SQ.v (SE.any t.z_any (SA.cons (SN.ev (SN.lc (own := [((Str.ofString "test"), 4)]) (SW.seq (SE.var 3)) (blkOk_by (N := N_told_by) (sc := (rl _ (defScope s_told_by))) (own := [((Str.ofString "test"), 4)]) (by decide +kernel)) (SG.name 4) SQs.nil (SE.in_ (SE.var 6) (SE.var 4)))) SA.nil))))) (SE.var 6))) SA.nil)))))))
  exact defP (R := t.R tk) t.F_told_by sc_told_by h (by decide)
theorem ok__law_begin : FnOk P w K mg base CX0 1 t.f__law_begin t.fd__law_begin P__law_begin (spBegin K) := by
  refine t.F__law_begin.ok sc__law_begin (fun vs H Q E h => ?_) (fun cdv A outer s H vs Q E hr h => ?_)
  · obtain ⟨a, ns, rfl, _⟩ := h
    rfl
  · obtain ⟨a, ns, rfl, hS, hlen, q⟩ := h
    have nd := sc__law_begin.nd
    exact ⟨tBegin K, pss_cons (ps_set (i := 1) nd rfl (.inl rfl) pe_int) (pss_cons (ps_for PassesOwn.never rfl (pi_list (pv 0)) (pg_name (i := 2) nd rfl (.inl rfl)) (pss_one (ps_set (i := 1) nd rfl (.inl rfl) (pe_op op_mod (pe_op op_add (pe_op op_add (pe_op op_mul (pv 1) pe_int) (pe_op op_mod (pe_callTy call_int1 (by rfl) t.z_int (by rfl) (pa_cons (pv 2) pa_nil)) pe_int)) pe_int) pe_int)))) (pss_one (ps_ret (pe_lst (pa_cons (pe_callTy call_listX (by rfl) t.z_list (by rfl) (pa_cons (pv 0) pa_nil)) (pa_cons pe_int (pa_cons pe_int (pa_cons (pv 1) pa_nil)))))))), begin_read rfl hS hlen q⟩
def b_law : Stm DS := (sSeq (sAsg (fOp gAdd (fC (.int 1)) (fCallS (lenGS 2 g__law_take) (fCons (fVar 1) (fCons (fC (.int 7)) fNil)))) (bName 2))
    (sSeq (sAsg (fOp gAdd (fC (.int 2)) (fCallS (lenGS 2 g__law_take) (fCons (fVar 1) (fCons (fC (.int 3)) fNil)))) (bName 3))
    (sSeq (sAsg (fOp gAdd (fVar 3) (fCallS (lenGS 2 g__law_take) (fCons (fVar 1) (fCons (fC (.int 6)) fNil)))) (bName 4))
    (sSeq (sOwn 5 (fLst fNil))
    (sSeq (sFor (fRng1 (fCons (fVar 2) fNil)) (bName 6) (sApp 5 (fCall gTuple (fCons (fL (fSortA (fSl (fCallS (lenGS 2 g__law_shuffled) (fCons (fVar 1) (fCons (fVar 4) fNil))) fNoPart (fPart (fVar 3))))) fNil))))
    (freeze 5 (sSeq (sAsg (fCall gTuple (fCons (fL (fLc (fRng1 (fCons (fVar 4) fNil)) (bName 20) fYes (fCall gTuple (fCons (fL (fLc (fRng1 (fCons (fVar 2) fNil)) (bName 6) (fTest (fOp gIn (fVar 20) (fOp gIx (fVar 5) (fVar 6)))) (fVar 6) [6])) fNil)) [20])) fNil)) (bName 7))
    (sSeq (sIf (fTest (fOp gNe (fCall (lenG 2 g_columns) (fCons (fVar 2) (fCons (fVar 7) fNil))) (fCall gTuple (fCons (fVar 5) fNil)))) (sRet (fC (.bl false)))
    sNext)
    (sSeq (sAsg (fCall gMax1 (fCons (fL (fCatL (fL (fLst (fCons (fC (.int 0)) fNil))) (fL (fLc (fRng1 (fCons (fVar 2) fNil)) (bName 6) fYes (fCall gMax1 (fCons (fL (fCatL (fL (fLst (fCons (fC (.int 0)) fNil))) (fL (fLc (fRng1 (fCons (fVar 6) fNil)) (bName 21) fYes (fCall gLen (fCons (fL (fLc (fList (fOp gIx (fVar 5) (fVar 6))) (bName 20) (fTest (fOp gIn (fVar 20) (fOp gIx (fVar 5) (fVar 21)))) (fVar 20) [20])) fNil)) [21])))) fNil)) [6])))) fNil)) (bName 8))
    (sSeq (sFor (fRng1 (fCons (fC (.int 4)) fNil)) (bName 9) (sSeq (sIf (fAnd (fTest (fOp gLt (fOp gMulX (fVar 9) (fVar 8)) (fVar 3))) (fTest (fOp gNe (fCall (lenG 3 g_cover_paper) (fCons (fVar 2) (fCons (fVar 7) (fCons (fVar 9) fNil)))) (fTup (fCons (fC (.str (Str.ofString "apart"))) fNil))))) (sRet (fC (.bl false)))
    sNext)
    (sIf (fAnd (fTest (fOp gEq (fCall (lenG 3 g_cover_paper) (fCons (fVar 2) (fCons (fVar 7) (fCons (fVar 9) fNil)))) (fTup (fCons (fC (.str (Str.ofString "apart"))) fNil)))) (fTest (fOp gNe (fCall (lenG 3 g_same_paper) (fCons (fVar 2) (fCons (fVar 7) (fCons (fVar 9) fNil)))) (fTup (fCons (fC (.str (Str.ofString "told"))) fNil))))) (sRet (fC (.bl false)))
    sNext)))
    (sSeq (sIf (fAnd (fTest (fOp gEq (fVar 8) (fVar 3))) (fAnd (fTest (fOp gGt (fVar 2) (fC (.int 1)))) (fTest (fOp gEq (fCall (lenG 3 g_cover_paper) (fCons (fVar 2) (fCons (fVar 7) (fCons (fC (.int 1)) fNil)))) (fTup (fCons (fC (.str (Str.ofString "apart"))) fNil)))))) (sRet (fC (.bl false)))
    sNext)
    (sSeq (sAsg (fCallS (lenGS 2 g__law_pick) (fCons (fVar 1) (fCons (fL (fLst (fCons (fTup (fCons (fC (.int 2)) (fCons (fC (.int 2)) fNil))) (fCons (fTup (fCons (fC (.int 3)) (fCons (fC (.int 1)) fNil))) (fCons (fTup (fCons (fC (.int 3)) (fCons (fC (.int 2)) fNil))) (fCons (fTup (fCons (fC (.int 4)) (fCons (fC (.int 2)) fNil))) (fCons (fTup (fCons (fC (.int 2)) (fCons (fC (.int 1)) fNil))) fNil))))))) fNil))) (bTup (bsCons (bName 10) (bsCons (bName 11) bsNil))))
    (sSeq (sAsg (fMk g_Field (fCons (fVar 10) fNil)) (bName 12))
    (sSeq (sAsg (fCall (lenG 2 g_square_tests) (fCons (fVar 12) (fCons (fVar 11) fNil))) (bTup (bsCons (bName 13) (bsCons (bName 7) bsNil))))
    (sSeq (sAsg (fCall (lenG 2 g_reed_solomon) (fCons (fVar 10) (fCons (fVar 11) fNil))) (bTup (bsCons (bName 14) (bsCons (bName 15) bsNil))))
    (sSeq (sAsg (fOp gIx (fCall (lenG 3 g_distance_paper) (fCons (fVar 12) (fCons (fVar 14) (fCons (fVar 15) fNil)))) (fC (.int 0))) (bName 16))
    (sSeq (sAsg (fCall (lenG 2 g_columns) (fCons (fVar 13) (fCons (fVar 7) fNil))) (bName 17))
    (sSeq (sIf (fTest (fCall gAny (fCons (fL (fLc (fList (fVar 17)) (bName 22) fYes (fOp gNe (fCall gLen (fCons (fVar 22) fNil)) (fVar 10)) [22])) fNil))) (sRet (fC (.bl false)))
    sNext)
    (sSeq (sAsg (fCall gMax1 (fCons (fL (fLc (fRng1 (fCons (fVar 13) fNil)) (bName 6) fYes (fCall gMax1 (fCons (fL (fCatL (fL (fLst (fCons (fC (.int 0)) fNil))) (fL (fLc (fRng1 (fCons (fVar 6) fNil)) (bName 21) fYes (fCall gLen (fCons (fL (fLc (fList (fOp gIx (fVar 17) (fVar 6))) (bName 20) (fTest (fOp gIn (fVar 20) (fOp gIx (fVar 17) (fVar 21)))) (fVar 20) [20])) fNil)) [21])))) fNil)) [6])) fNil)) (bName 18))
    (sSeq (sIf (fTest (fOp gNe (fVar 18) (fOp gSub (fVar 10) (fVar 16)))) (sRet (fC (.bl false)))
    sNext)
    (sSeq (sAsg (fC (.int 0)) (bName 9))
    (sSeq (sWhile (fAnd (fTest (fOp gLt (fVar 9) (fC (.int 3)))) (fTest (fOp gLt (fOp gMulX (fOp gAdd (fVar 9) (fC (.int 1))) (fVar 18)) (fVar 10)))) (sAsg (fOp gAdd (fVar 9) (fC (.int 1))) (bName 9)) 200)
    (sSeq (sIf (fTest (fOp gNe (fCall (lenG 3 g_cover_paper) (fCons (fVar 13) (fCons (fVar 7) (fCons (fVar 9) fNil)))) (fTup (fCons (fC (.str (Str.ofString "apart"))) fNil)))) (sRet (fC (.bl false)))
    sNext)
    (sSeq (sAsg (fCall gTuple (fCons (fL (fSortSet (fL (fLc (fRng1 (fCons (fCallS (lenGS 2 g__law_take) (fCons (fVar 1) (fCons (fOp gAdd (fVar 9) (fC (.int 1))) fNil))) fNil)) (bName 6) fYes (fCallS (lenGS 2 g__law_take) (fCons (fVar 1) (fCons (fVar 13) fNil))) [6])))) fNil)) (bName 19))
    (sRet (fOp gEq (fCall (lenG 3 g_told_by) (fCons (fVar 13) (fCons (fVar 7) (fCons (fCall (lenG 2 g_outcome) (fCons (fVar 7) (fCons (fVar 19) fNil))) fNil)))) (fVar 19)))))))))))))))))))))))))))
theorem ok_law (run : ∀ ns : List Int, ns.length ≤ 63 → ∃ s', b_law (none :: some (.tok 0) :: List.replicate (N_law.length - 2) none) ⟨ns, 0, 0, seedOf 5 ns⟩ = some (.rt (.bl true), s')) : FnOk P w K mg base CX0 9 t.f_law t.fd_law [Str.ofString "script"] (spLawX K) :=
  law_ok (R := t.R fun _ => 0) (k := 8) (body := b_law) t.F_law sc_law rfl (ok__law_begin t) (Nat.le_of_ble_eq_true rfl) t.m__law_begin t.F__law_begin.kp t.b__law_begin rfl rfl (by first | exact .inl rfl | exact .inr (.inl rfl)) (by first | exact .inl rfl | exact .inr rfl) rfl rfl rfl rfl
    (fun p q => (show SB ⟨P, w, t.R (tkk p q), mg, base, N_law, defScope s_law, fun _ => true, 8⟩ (ZD p q) _ b_law from (SB.cons (SS.set 2 (XE.mA (SE.add SE.int (SE.callS (ok__law_take t p q) (Nat.le_of_ble_eq_true rfl) t.m__law_take t.F__law_take.kp t.b__law_take (SA.cons (SE.var 1) (SA.cons SE.int SA.nil))))))
    (SB.cons (SS.set 3 (XE.mA (SE.add SE.int (SE.callS (ok__law_take t p q) (Nat.le_of_ble_eq_true rfl) t.m__law_take t.F__law_take.kp t.b__law_take (SA.cons (SE.var 1) (SA.cons SE.int SA.nil))))))
    (SB.cons (SS.set 4 (XE.mA (SE.add (SE.var 3) (SE.callS (ok__law_take t p q) (Nat.le_of_ble_eq_true rfl) t.m__law_take t.F__law_take.kp t.b__law_take (SA.cons (SE.var 1) (SA.cons SE.int SA.nil))))))
    (SB.cons (SS.own 5 (XN.mA (SN.lst SA.nil)))
    (SB.cons (SS.for (XW.mA (SW.rng1 t.z_range (SA.cons (SE.var 2) SA.nil))) (SG.name 6) (SB.one (SS.app 5 (XE.mA (SE.tuple t.z_tuple (SA.cons (SN.ev (SN.sortA t.z_sorted (SE.sl (SE.callS (ok__law_shuffled t p q) (Nat.le_of_ble_eq_true rfl) t.m__law_shuffled t.F__law_shuffled.kp t.b__law_shuffled (SA.cons (SE.var 1) (SA.cons (SE.var 4) SA.nil))) SO.non (SO.some (SE.var 3))))) SA.nil))))))
    (SB.freeze (j := 5) (SB.cons (SS.set 7 (XE.mA (SE.tuple t.z_tuple (SA.cons (SN.ev (SN.lc (own := [((Str.ofString "t"), 20)]) (SW.rng1 t.z_range (SA.cons (SE.var 4) SA.nil)) (blkOk_by (N := N_law) (sc := (defScope s_law)) (own := [((Str.ofString "t"), 20)]) (by decide +kernel)) (SG.name 20) SQs.nil (SE.tuple t.z_tuple (SA.cons (SN.ev (SN.lc (own := [((Str.ofString "k"), 6)]) (SW.rng1 t.z_range (SA.cons (SE.var 2) SA.nil)) (blkOk_by (N := N_law) (sc := (rl _ (defScope s_law))) (own := [((Str.ofString "k"), 6)]) (by decide +kernel)) (SG.name 6) (SQs.one (SQ.in_ (SE.var 20) (SE.ix (SE.var 5) (SE.var 6)))) (SE.var 6))) SA.nil)))) SA.nil))))
    (SB.cons (SS.ite (XQ.mA (SQ.ord .ne (SE.call (ok_columns t (tkk p q)) (Nat.le_of_ble_eq_true rfl) t.m_columns t.F_columns.kp t.b_columns (SA.cons (SE.var 2) (SA.cons (SE.var 7) SA.nil))) (SE.tuple t.z_tuple (SA.cons (SE.var 5) SA.nil)))) (SB.one (SS.ret (XE.mA SE.bl)))
    SB.nil)
    (SB.cons (SS.set 8 (XE.mA (SE.max1 t.z_max (SA.cons (SN.ev (SN.cat (SN.ev (SN.lst (SA.cons SE.int SA.nil))) (SN.ev (SN.lc (own := [((Str.ofString "k"), 6)]) (SW.rng1 t.z_range (SA.cons (SE.var 2) SA.nil)) (blkOk_by (N := N_law) (sc := (defScope s_law)) (own := [((Str.ofString "k"), 6)]) (by decide +kernel)) (SG.name 6) SQs.nil (SE.max1 t.z_max (SA.cons (SN.ev (SN.cat (SN.ev (SN.lst (SA.cons SE.int SA.nil))) (SN.ev (SN.lc (own := [((Str.ofString "j"), 21)]) (SW.rng1 t.z_range (SA.cons (SE.var 6) SA.nil)) (blkOk_by (N := N_law) (sc := (rl _ (defScope s_law))) (own := [((Str.ofString "j"), 21)]) (by decide +kernel)) (SG.name 21) SQs.nil (SE.len t.z_len (SA.cons (SN.ev (SN.lc (own := [((Str.ofString "t"), 20)]) (SW.seq (SE.ix (SE.var 5) (SE.var 6))) (blkOk_by (N := N_law) (sc := (rl _ (rl _ (defScope s_law)))) (own := [((Str.ofString "t"), 20)]) (by decide +kernel)) (SG.name 20) (SQs.one (SQ.in_ (SE.var 20) (SE.ix (SE.var 5) (SE.var 21)))) (SE.var 20))) SA.nil)))))) SA.nil)))))) SA.nil))))
    (SB.cons (SS.for (XW.mA (SW.rng1 t.z_range (SA.cons SE.int SA.nil))) (SG.name 9) (SB.cons (SS.ite (XQ.mA (SQ.and (SQ.ord .lt (SE.mulA (SE.var 9) (SE.var 8)) (SE.var 3)) (SQ.and1 (SQ.ord .ne (SE.call (ok_cover_paper t (tkk p q)) (Nat.le_of_ble_eq_true rfl) t.m_cover_paper t.F_cover_paper.kp t.b_cover_paper (SA.cons (SE.var 2) (SA.cons (SE.var 7) (SA.cons (SE.var 9) SA.nil)))) (SE.tup (SA.cons SE.str SA.nil)))))) (SB.one (SS.ret (XE.mA SE.bl)))
    SB.nil)
    (SB.one (SS.ite (XQ.mA (SQ.and (SQ.ord .eq (SE.call (ok_cover_paper t (tkk p q)) (Nat.le_of_ble_eq_true rfl) t.m_cover_paper t.F_cover_paper.kp t.b_cover_paper (SA.cons (SE.var 2) (SA.cons (SE.var 7) (SA.cons (SE.var 9) SA.nil)))) (SE.tup (SA.cons SE.str SA.nil))) (SQ.and1 (SQ.ord .ne (SE.call (ok_same_paper t (tkk p q)) (Nat.le_of_ble_eq_true rfl) t.m_same_paper t.F_same_paper.kp t.b_same_paper (SA.cons (SE.var 2) (SA.cons (SE.var 7) (SA.cons (SE.var 9) SA.nil)))) (SE.tup (SA.cons SE.str SA.nil)))))) (SB.one (SS.ret (XE.mA SE.bl)))
    SB.nil))))
    (SB.cons (SS.ite (XQ.mA (SQ.and (SQ.ord .eq (SE.var 8) (SE.var 3)) (SQ.and (SQ.ord .gt (SE.var 2) SE.int) (SQ.and1 (SQ.ord .eq (SE.call (ok_cover_paper t (tkk p q)) (Nat.le_of_ble_eq_true rfl) t.m_cover_paper t.F_cover_paper.kp t.b_cover_paper (SA.cons (SE.var 2) (SA.cons (SE.var 7) (SA.cons SE.int SA.nil)))) (SE.tup (SA.cons SE.str SA.nil))))))) (SB.one (SS.ret (XE.mA SE.bl)))
    SB.nil)
    (SB.cons (SS.asg (XE.mA (SE.callS (ok__law_pick t p q) (Nat.le_of_ble_eq_true rfl) t.m__law_pick t.F__law_pick.kp t.b__law_pick (SA.cons (SE.var 1) (SA.cons (SN.ev (SN.lst (SA.cons (SE.tup (SA.cons SE.int (SA.cons SE.int SA.nil))) (SA.cons (SE.tup (SA.cons SE.int (SA.cons SE.int SA.nil))) (SA.cons (SE.tup (SA.cons SE.int (SA.cons SE.int SA.nil))) (SA.cons (SE.tup (SA.cons SE.int (SA.cons SE.int SA.nil))) (SA.cons (SE.tup (SA.cons SE.int (SA.cons SE.int SA.nil))) SA.nil))))))) SA.nil)))) (SG.tup 2 (SGs.cons (SG.name 10) (SGs.cons (SG.name 11) SGs.nil)) (bsCons_len (bsCons_len (fun _ _ _ => bsNil_len)))))
    (SB.cons (SS.set 12 (XE.mA (SE.make t.mk_Field (ok_Field___init__ t (tkk p q)) (Nat.le_of_ble_eq_true rfl) t.m_Field t.b_Field___init__ (run_Field t) rfl rfl (SA.cons (SE.var 10) SA.nil))))
    (SB.cons (SS.asg (XE.mA (SE.call (ok_square_tests t (tkk p q)) (Nat.le_of_ble_eq_true rfl) t.m_square_tests t.F_square_tests.kp t.b_square_tests (SA.cons (SE.var 12) (SA.cons (SE.var 11) SA.nil)))) (SG.tup 2 (SGs.cons (SG.name 13) (SGs.cons (SG.name 7) SGs.nil)) (bsCons_len (bsCons_len (fun _ _ _ => bsNil_len)))))
    (SB.cons (SS.asg (XE.mA (SE.call (ok_reed_solomon t (tkk p q)) (Nat.le_of_ble_eq_true rfl) t.m_reed_solomon t.F_reed_solomon.kp t.b_reed_solomon (SA.cons (SE.var 10) (SA.cons (SE.var 11) SA.nil)))) (SG.tup 2 (SGs.cons (SG.name 14) (SGs.cons (SG.name 15) SGs.nil)) (bsCons_len (bsCons_len (fun _ _ _ => bsNil_len)))))
    (SB.cons (SS.set 16 (XE.mA (SE.ix (SE.call (ok_distance_paper t (tkk p q)) (Nat.le_of_ble_eq_true rfl) t.m_distance_paper t.F_distance_paper.kp t.b_distance_paper (SA.cons (SE.var 12) (SA.cons (SE.var 14) (SA.cons (SE.var 15) SA.nil)))) SE.int)))
    (SB.cons (SS.set 17 (XE.mA (SE.call (ok_columns t (tkk p q)) (Nat.le_of_ble_eq_true rfl) t.m_columns t.F_columns.kp t.b_columns (SA.cons (SE.var 13) (SA.cons (SE.var 7) SA.nil)))))
    (SB.cons (SS.ite (XQ.mA (SQ.v (SE.any t.z_any (SA.cons (SN.ev (SN.lc (own := [((Str.ofString "column"), 22)]) (SW.seq (SE.var 17)) (blkOk_by (N := N_law) (sc := (defScope s_law)) (own := [((Str.ofString "column"), 22)]) (by decide +kernel)) (SG.name 22) SQs.nil (SE.ne (SE.len t.z_len (SA.cons (SE.var 22) SA.nil)) (SE.var 10)))) SA.nil)))) (SB.one (SS.ret (XE.mA SE.bl)))
    SB.nil)
    (SB.cons (SS.set 18 (XE.mA (SE.max1 t.z_max (SA.cons (SN.ev (SN.lc (own := [((Str.ofString "k"), 6)]) (SW.rng1 t.z_range (SA.cons (SE.var 13) SA.nil)) (blkOk_by (N := N_law) (sc := (defScope s_law)) (own := [((Str.ofString "k"), 6)]) (by decide +kernel)) (SG.name 6) SQs.nil (SE.max1 t.z_max (SA.cons (SN.ev (SN.cat (SN.ev (SN.lst (SA.cons SE.int SA.nil))) (SN.ev (SN.lc (own := [((Str.ofString "j"), 21)]) (SW.rng1 t.z_range (SA.cons (SE.var 6) SA.nil)) (blkOk_by (N := N_law) (sc := (rl _ (defScope s_law))) (own := [((Str.ofString "j"), 21)]) (by decide +kernel)) (SG.name 21) SQs.nil (SE.len t.z_len (SA.cons (SN.ev (SN.lc (own := [((Str.ofString "t"), 20)]) (SW.seq (SE.ix (SE.var 17) (SE.var 6))) (blkOk_by (N := N_law) (sc := (rl _ (rl _ (defScope s_law)))) (own := [((Str.ofString "t"), 20)]) (by decide +kernel)) (SG.name 20) (SQs.one (SQ.in_ (SE.var 20) (SE.ix (SE.var 17) (SE.var 21)))) (SE.var 20))) SA.nil)))))) SA.nil)))) SA.nil))))
    (SB.cons (SS.ite (XQ.mA (SQ.ord .ne (SE.var 18) (SE.sub (SE.var 10) (SE.var 16)))) (SB.one (SS.ret (XE.mA SE.bl)))
    SB.nil)
    (SB.cons (SS.set 9 (XE.mA SE.int))
    (SB.cons (SS.while 200 (XQ.mA (SQ.and (SQ.ord .lt (SE.var 9) SE.int) (SQ.and1 (SQ.ord .lt (SE.mulA (SE.add (SE.var 9) SE.int) (SE.var 18)) (SE.var 10))))) (SB.one (SS.set 9 (XE.mA (SE.add (SE.var 9) SE.int)))))
    (SB.cons (SS.ite (XQ.mA (SQ.ord .ne (SE.call (ok_cover_paper t (tkk p q)) (Nat.le_of_ble_eq_true rfl) t.m_cover_paper t.F_cover_paper.kp t.b_cover_paper (SA.cons (SE.var 13) (SA.cons (SE.var 7) (SA.cons (SE.var 9) SA.nil)))) (SE.tup (SA.cons SE.str SA.nil)))) (SB.one (SS.ret (XE.mA SE.bl)))
    SB.nil)
    (SB.cons (SS.set 19 (XE.mA (SE.tuple t.z_tuple (SA.cons (SN.ev (SN.sortSet t.z_sorted t.z_set (SN.ev (SN.lc (own := [((Str.ofString "k"), 6)]) (SW.rng1 t.z_range (SA.cons (SE.callS (ok__law_take t p q) (Nat.le_of_ble_eq_true rfl) t.m__law_take t.F__law_take.kp t.b__law_take (SA.cons (SE.var 1) (SA.cons (SE.add (SE.var 9) SE.int) SA.nil))) SA.nil)) (blkOk_by (N := N_law) (sc := (defScope s_law)) (own := [((Str.ofString "k"), 6)]) (by decide +kernel)) (SG.name 6) SQs.nil (SE.callS (ok__law_take t p q) (Nat.le_of_ble_eq_true rfl) t.m__law_take t.F__law_take.kp t.b__law_take (SA.cons (SE.var 1) (SA.cons (SE.var 13) SA.nil))))))) SA.nil))))
    (SB.one (SS.ret (XE.mA (SE.eq (SE.call (ok_told_by t (tkk p q)) (Nat.le_of_ble_eq_true rfl) t.m_told_by t.F_told_by.kp t.b_told_by (SA.cons (SE.var 13) (SA.cons (SE.var 7) (SA.cons (SE.call (ok_outcome t (tkk p q)) (Nat.le_of_ble_eq_true rfl) t.m_outcome t.F_outcome.kp t.b_outcome (SA.cons (SE.var 7) (SA.cons (SE.var 19) SA.nil))) SA.nil)))) (SE.var 19))))))))))))))))))))))))))))))) run
end
end Lawk57
namespace Lawk57
open PySem PySem.Spec PyProof.Rows L2 SL
def fns : List He.DefD := [⟨((Str.ofString "_law_take"), none), (Str.ofString "_law_take"), (Str.ofString "_law_take"), defArgs s__law_take, defBody s__law_take, defScope s__law_take, [], []⟩, ⟨((Str.ofString "_law_shuffled"), none), (Str.ofString "_law_shuffled"), (Str.ofString "_law_shuffled"), defArgs s__law_shuffled, defBody s__law_shuffled, defScope s__law_shuffled, [], []⟩, ⟨((Str.ofString "columns"), none), (Str.ofString "columns"), (Str.ofString "columns"), defArgs s_columns, defBody s_columns, defScope s_columns, [], []⟩, ⟨((Str.ofString "is_integer"), none), (Str.ofString "is_integer"), (Str.ofString "is_integer"), defArgs s_is_integer, defBody s_is_integer, defScope s_is_integer, [], []⟩, ⟨((Str.ofString "is_part"), none), (Str.ofString "is_part"), (Str.ofString "is_part"), defArgs s_is_part, defBody s_is_part, defScope s_is_part, [], []⟩, ⟨((Str.ofString "check_tests"), none), (Str.ofString "check_tests"), (Str.ofString "check_tests"), defArgs s_check_tests, defBody s_check_tests, defScope s_check_tests, [], []⟩, ⟨((Str.ofString "parts"), none), (Str.ofString "parts"), (Str.ofString "parts"), defArgs s_parts, defBody s_parts, defScope s_parts, [], []⟩, ⟨((Str.ofString "cover_paper"), none), (Str.ofString "cover_paper"), (Str.ofString "cover_paper"), defArgs s_cover_paper, defBody s_cover_paper, defScope s_cover_paper, [], []⟩, ⟨((Str.ofString "outcome"), none), (Str.ofString "outcome"), (Str.ofString "outcome"), defArgs s_outcome, defBody s_outcome, defScope s_outcome, [], []⟩, ⟨((Str.ofString "same_paper"), none), (Str.ofString "same_paper"), (Str.ofString "same_paper"), defArgs s_same_paper, defBody s_same_paper, defScope s_same_paper, [], []⟩, ⟨((Str.ofString "_law_pick"), none), (Str.ofString "_law_pick"), (Str.ofString "_law_pick"), defArgs s__law_pick, defBody s__law_pick, defScope s__law_pick, [], []⟩, ⟨((Str.ofString "digits_of"), none), (Str.ofString "digits_of"), (Str.ofString "digits_of"), defArgs s_digits_of, defBody s_digits_of, defScope s_digits_of, [], []⟩, ⟨((Str.ofString "number_of"), none), (Str.ofString "number_of"), (Str.ofString "number_of"), defArgs s_number_of, defBody s_number_of, defScope s_number_of, [], []⟩, ⟨((Str.ofString "Field"), some (Str.ofString "sum_of")), (Str.ofString "sum_of"), (Str.ofString "Field.sum_of"), defArgs s_Field_sum_of, defBody s_Field_sum_of, defScope s_Field_sum_of, [], []⟩, ⟨((Str.ofString "Field"), some (Str.ofString "product_of")), (Str.ofString "product_of"), (Str.ofString "Field.product_of"), defArgs s_Field_product_of, defBody s_Field_product_of, defScope s_Field_product_of, [], []⟩, ⟨((Str.ofString "Field"), some (Str.ofString "__init__")), (Str.ofString "__init__"), (Str.ofString "Field.__init__"), defArgs s_Field___init__, defBody s_Field___init__, defScope s_Field___init__, [], []⟩, ⟨((Str.ofString "Field"), some (Str.ofString "check")), (Str.ofString "check"), (Str.ofString "Field.check"), defArgs s_Field_check, defBody s_Field_check, defScope s_Field_check, [], []⟩, ⟨((Str.ofString "Field"), some (Str.ofString "times")), (Str.ofString "times"), (Str.ofString "Field.times"), defArgs s_Field_times, defBody s_Field_times, defScope s_Field_times, [], []⟩, ⟨((Str.ofString "Field"), some (Str.ofString "plus")), (Str.ofString "plus"), (Str.ofString "Field.plus"), defArgs s_Field_plus, defBody s_Field_plus, defScope s_Field_plus, [], []⟩, ⟨((Str.ofString "Field"), some (Str.ofString "value")), (Str.ofString "value"), (Str.ofString "Field.value"), defArgs s_Field_value, defBody s_Field_value, defScope s_Field_value, [], []⟩, ⟨((Str.ofString "square_tests"), none), (Str.ofString "square_tests"), (Str.ofString "square_tests"), defArgs s_square_tests, defBody s_square_tests, defScope s_square_tests, [], []⟩, ⟨((Str.ofString "Field"), some (Str.ofString "inverse")), (Str.ofString "inverse"), (Str.ofString "Field.inverse"), defArgs s_Field_inverse, defBody s_Field_inverse, defScope s_Field_inverse, [], []⟩, ⟨((Str.ofString "bits_down"), none), (Str.ofString "bits_down"), (Str.ofString "bits_down"), defArgs s_bits_down, defBody s_bits_down, defScope s_bits_down, [], []⟩, ⟨((Str.ofString "Field"), some (Str.ofString "power")), (Str.ofString "power"), (Str.ofString "Field.power"), defArgs s_Field_power, defBody s_Field_power, defScope s_Field_power, [], []⟩, ⟨((Str.ofString "reed_solomon"), none), (Str.ofString "reed_solomon"), (Str.ofString "reed_solomon"), defArgs s_reed_solomon, defBody s_reed_solomon, defScope s_reed_solomon, [], []⟩, ⟨((Str.ofString "is_word"), none), (Str.ofString "is_word"), (Str.ofString "is_word"), defArgs s_is_word, defBody s_is_word, defScope s_is_word, [], []⟩, ⟨((Str.ofString "check_rows"), none), (Str.ofString "check_rows"), (Str.ofString "check_rows"), defArgs s_check_rows, defBody s_check_rows, defScope s_check_rows, [], []⟩, ⟨((Str.ofString "scaled"), none), (Str.ofString "scaled"), (Str.ofString "scaled"), defArgs s_scaled, defBody s_scaled, defScope s_scaled, [], []⟩, ⟨((Str.ofString "Field"), some (Str.ofString "minus")), (Str.ofString "minus"), (Str.ofString "Field.minus"), defArgs s_Field_minus, defBody s_Field_minus, defScope s_Field_minus, [], []⟩, ⟨((Str.ofString "sum_of"), none), (Str.ofString "sum_of"), (Str.ofString "sum_of"), defArgs s_sum_of, defBody s_sum_of, defScope s_sum_of, [], []⟩, ⟨((Str.ofString "less"), none), (Str.ofString "less"), (Str.ofString "less"), defArgs s_less, defBody s_less, defScope s_less, [], []⟩, ⟨((Str.ofString "reduced"), none), (Str.ofString "reduced"), (Str.ofString "reduced"), defArgs s_reduced, defBody s_reduced, defScope s_reduced, [], []⟩, ⟨((Str.ofString "words"), none), (Str.ofString "words"), (Str.ofString "words"), defArgs s_words, defBody s_words, defScope s_words, [], []⟩, ⟨((Str.ofString "weight"), none), (Str.ofString "weight"), (Str.ofString "weight"), defArgs s_weight, defBody s_weight, defScope s_weight, [], []⟩, ⟨((Str.ofString "distance_paper"), none), (Str.ofString "distance_paper"), (Str.ofString "distance_paper"), defArgs s_distance_paper, defBody s_distance_paper, defScope s_distance_paper, [], []⟩, ⟨((Str.ofString "told_by"), none), (Str.ofString "told_by"), (Str.ofString "told_by"), defArgs s_told_by, defBody s_told_by, defScope s_told_by, [], []⟩, ⟨((Str.ofString "_law_begin"), none), (Str.ofString "_law_begin"), (Str.ofString "_law_begin"), defArgs s__law_begin, defBody s__law_begin, defScope s__law_begin, [], []⟩, ⟨((Str.ofString "law"), none), (Str.ofString "law"), (Str.ofString "law"), defArgs s_law, defBody s_law, defScope s_law, [], []⟩]
def fas0 : List He.Fa := [.glo (Str.ofString "_law_take"), .glo (Str.ofString "_law_shuffled"), .glo (Str.ofString "columns"), .glo (Str.ofString "is_integer"), .glo (Str.ofString "is_part"), .glo (Str.ofString "check_tests"), .glo (Str.ofString "parts"), .glo (Str.ofString "cover_paper"), .glo (Str.ofString "outcome"), .glo (Str.ofString "same_paper"), .glo (Str.ofString "_law_pick"), .glo (Str.ofString "digits_of"), .glo (Str.ofString "number_of"), .glo (Str.ofString "square_tests"), .glo (Str.ofString "bits_down"), .glo (Str.ofString "reed_solomon"), .glo (Str.ofString "is_word"), .glo (Str.ofString "check_rows"), .glo (Str.ofString "scaled"), .glo (Str.ofString "sum_of"), .glo (Str.ofString "less"), .glo (Str.ofString "reduced"), .glo (Str.ofString "words"), .glo (Str.ofString "weight"), .glo (Str.ofString "distance_paper"), .glo (Str.ofString "told_by"), .glo (Str.ofString "_law_begin"), .glo (Str.ofString "law"), .free (Str.ofString "abs"), .free (Str.ofString "all")]
def fas1 : List He.Fa := [.free (Str.ofString "any"), .free (Str.ofString "bool"), .free (Str.ofString "enumerate"), .free (Str.ofString "int"), .free (Str.ofString "isinstance"), .free (Str.ofString "len"), .free (Str.ofString "list"), .free (Str.ofString "max"), .free (Str.ofString "range"), .free (Str.ofString "reversed"), .free (Str.ofString "set"), .free (Str.ofString "sorted"), .free (Str.ofString "tuple"), .free (Str.ofString "zip"), .int (Str.ofString "MOST_ITEMS") 16, .int (Str.ofString "MOST_LENGTH") 24, .int (Str.ofString "MOST_TESTS") 16, .int (Str.ofString "MOST_WORDS") 5000, .cls (Str.ofString "Field"), .noat (Str.ofString "Field") (Str.ofString "size"), .noat (Str.ofString "Field") (Str.ofString "prime"), .noat (Str.ofString "Field") (Str.ofString "modulus"), .noat (Str.ofString "Field") (Str.ofString "degree"), .noat (Str.ofString "Field") (Str.ofString "sums"), .noat (Str.ofString "Field") (Str.ofString "products"), .meth (Str.ofString "Field") (Str.ofString "sum_of"), .meth (Str.ofString "Field") (Str.ofString "product_of"), .meth (Str.ofString "Field") (Str.ofString "check"), .meth (Str.ofString "Field") (Str.ofString "times"), .meth (Str.ofString "Field") (Str.ofString "plus")]
def fas2 : List He.Fa := [.meth (Str.ofString "Field") (Str.ofString "value"), .meth (Str.ofString "Field") (Str.ofString "inverse"), .meth (Str.ofString "Field") (Str.ofString "power"), .meth (Str.ofString "Field") (Str.ofString "minus"), .mkr (Str.ofString "Field"), .glo (Str.ofString "Field"), .glo (Str.ofString "SHAPES")]
def fas : List He.Fa := fas0 ++ fas1 ++ fas2
def names0 : List Str := [(Str.ofString "_wall"), (Str.ofString "__name__"), (Str.ofString "HallError"), (Str.ofString "FieldError"), (Str.ofString "CodeError"), (Str.ofString "SHAPES"), (Str.ofString "is_integer"), (Str.ofString "digits_of"), (Str.ofString "number_of"), (Str.ofString "Field"), (Str.ofString "bits_down"), (Str.ofString "MOST_ITEMS"), (Str.ofString "MOST_TESTS"), (Str.ofString "check_tests"), (Str.ofString "is_part"), (Str.ofString "outcome"), (Str.ofString "columns"), (Str.ofString "parts"), (Str.ofString "cover_paper"), (Str.ofString "told_by"), (Str.ofString "same_paper"), (Str.ofString "square_tests"), (Str.ofString "MOST_WORDS"), (Str.ofString "MOST_LENGTH"), (Str.ofString "check_rows"), (Str.ofString "is_word"), (Str.ofString "scaled"), (Str.ofString "sum_of"), (Str.ofString "less"), (Str.ofString "reduced")]
def names1 : List Str := [(Str.ofString "words"), (Str.ofString "weight"), (Str.ofString "distance_paper"), (Str.ofString "reed_solomon"), (Str.ofString "_law_begin"), (Str.ofString "_law_take"), (Str.ofString "_law_shuffled"), (Str.ofString "_law_pick")]
def names : List Str := names0 ++ names1
def exB (K : PySem.W.Frag) : Bool := shapesB L_Field (Str.ofString "SHAPES") K
set_option maxHeartbeats 0 in
theorem facts {w : World} {K : PySem.W.Frag} {h : Heap} {mg : Str → Option Value} (X : K.In h) (G : h.Ns mainGlobals mg) (c : He.SaysX fas fns [] [] exB w h K) : Nonempty (Tx K mg) := by
  have d := c.t.d
  obtain ⟨fd__law_take, F__law_take⟩ := fun_of_defs d 0 (x := (Str.ofString "_law_take")) (qual := (Str.ofString "_law_take")) (st := s__law_take) (at_ := ((Str.ofString "_law_take"), none))
  obtain ⟨fd__law_shuffled, F__law_shuffled⟩ := fun_of_defs d 1 (x := (Str.ofString "_law_shuffled")) (qual := (Str.ofString "_law_shuffled")) (st := s__law_shuffled) (at_ := ((Str.ofString "_law_shuffled"), none))
  obtain ⟨fd_columns, F_columns⟩ := fun_of_defs d 2 (x := (Str.ofString "columns")) (qual := (Str.ofString "columns")) (st := s_columns) (at_ := ((Str.ofString "columns"), none))
  obtain ⟨fd_is_integer, F_is_integer⟩ := fun_of_defs d 3 (x := (Str.ofString "is_integer")) (qual := (Str.ofString "is_integer")) (st := s_is_integer) (at_ := ((Str.ofString "is_integer"), none))
  obtain ⟨fd_is_part, F_is_part⟩ := fun_of_defs d 4 (x := (Str.ofString "is_part")) (qual := (Str.ofString "is_part")) (st := s_is_part) (at_ := ((Str.ofString "is_part"), none))
  obtain ⟨fd_check_tests, F_check_tests⟩ := fun_of_defs d 5 (x := (Str.ofString "check_tests")) (qual := (Str.ofString "check_tests")) (st := s_check_tests) (at_ := ((Str.ofString "check_tests"), none))
  obtain ⟨fd_parts, F_parts⟩ := fun_of_defs d 6 (x := (Str.ofString "parts")) (qual := (Str.ofString "parts")) (st := s_parts) (at_ := ((Str.ofString "parts"), none))
  obtain ⟨fd_cover_paper, F_cover_paper⟩ := fun_of_defs d 7 (x := (Str.ofString "cover_paper")) (qual := (Str.ofString "cover_paper")) (st := s_cover_paper) (at_ := ((Str.ofString "cover_paper"), none))
  obtain ⟨fd_outcome, F_outcome⟩ := fun_of_defs d 8 (x := (Str.ofString "outcome")) (qual := (Str.ofString "outcome")) (st := s_outcome) (at_ := ((Str.ofString "outcome"), none))
  obtain ⟨fd_same_paper, F_same_paper⟩ := fun_of_defs d 9 (x := (Str.ofString "same_paper")) (qual := (Str.ofString "same_paper")) (st := s_same_paper) (at_ := ((Str.ofString "same_paper"), none))
  obtain ⟨fd__law_pick, F__law_pick⟩ := fun_of_defs d 10 (x := (Str.ofString "_law_pick")) (qual := (Str.ofString "_law_pick")) (st := s__law_pick) (at_ := ((Str.ofString "_law_pick"), none))
  obtain ⟨fd_digits_of, F_digits_of⟩ := fun_of_defs d 11 (x := (Str.ofString "digits_of")) (qual := (Str.ofString "digits_of")) (st := s_digits_of) (at_ := ((Str.ofString "digits_of"), none))
  obtain ⟨fd_number_of, F_number_of⟩ := fun_of_defs d 12 (x := (Str.ofString "number_of")) (qual := (Str.ofString "number_of")) (st := s_number_of) (at_ := ((Str.ofString "number_of"), none))
  obtain ⟨fd_Field_sum_of, F_Field_sum_of⟩ := fun_of_defs d 13 (x := (Str.ofString "sum_of")) (qual := (Str.ofString "Field.sum_of")) (st := s_Field_sum_of) (at_ := ((Str.ofString "Field"), some (Str.ofString "sum_of")))
  obtain ⟨fd_Field_product_of, F_Field_product_of⟩ := fun_of_defs d 14 (x := (Str.ofString "product_of")) (qual := (Str.ofString "Field.product_of")) (st := s_Field_product_of) (at_ := ((Str.ofString "Field"), some (Str.ofString "product_of")))
  obtain ⟨fd_Field___init__, F_Field___init__⟩ := fun_of_defs d 15 (x := (Str.ofString "__init__")) (qual := (Str.ofString "Field.__init__")) (st := s_Field___init__) (at_ := ((Str.ofString "Field"), some (Str.ofString "__init__")))
  obtain ⟨fd_Field_check, F_Field_check⟩ := fun_of_defs d 16 (x := (Str.ofString "check")) (qual := (Str.ofString "Field.check")) (st := s_Field_check) (at_ := ((Str.ofString "Field"), some (Str.ofString "check")))
  obtain ⟨fd_Field_times, F_Field_times⟩ := fun_of_defs d 17 (x := (Str.ofString "times")) (qual := (Str.ofString "Field.times")) (st := s_Field_times) (at_ := ((Str.ofString "Field"), some (Str.ofString "times")))
  obtain ⟨fd_Field_plus, F_Field_plus⟩ := fun_of_defs d 18 (x := (Str.ofString "plus")) (qual := (Str.ofString "Field.plus")) (st := s_Field_plus) (at_ := ((Str.ofString "Field"), some (Str.ofString "plus")))
  obtain ⟨fd_Field_value, F_Field_value⟩ := fun_of_defs d 19 (x := (Str.ofString "value")) (qual := (Str.ofString "Field.value")) (st := s_Field_value) (at_ := ((Str.ofString "Field"), some (Str.ofString "value")))
  obtain ⟨fd_square_tests, F_square_tests⟩ := fun_of_defs d 20 (x := (Str.ofString "square_tests")) (qual := (Str.ofString "square_tests")) (st := s_square_tests) (at_ := ((Str.ofString "square_tests"), none))
  obtain ⟨fd_Field_inverse, F_Field_inverse⟩ := fun_of_defs d 21 (x := (Str.ofString "inverse")) (qual := (Str.ofString "Field.inverse")) (st := s_Field_inverse) (at_ := ((Str.ofString "Field"), some (Str.ofString "inverse")))
  obtain ⟨fd_bits_down, F_bits_down⟩ := fun_of_defs d 22 (x := (Str.ofString "bits_down")) (qual := (Str.ofString "bits_down")) (st := s_bits_down) (at_ := ((Str.ofString "bits_down"), none))
  obtain ⟨fd_Field_power, F_Field_power⟩ := fun_of_defs d 23 (x := (Str.ofString "power")) (qual := (Str.ofString "Field.power")) (st := s_Field_power) (at_ := ((Str.ofString "Field"), some (Str.ofString "power")))
  obtain ⟨fd_reed_solomon, F_reed_solomon⟩ := fun_of_defs d 24 (x := (Str.ofString "reed_solomon")) (qual := (Str.ofString "reed_solomon")) (st := s_reed_solomon) (at_ := ((Str.ofString "reed_solomon"), none))
  obtain ⟨fd_is_word, F_is_word⟩ := fun_of_defs d 25 (x := (Str.ofString "is_word")) (qual := (Str.ofString "is_word")) (st := s_is_word) (at_ := ((Str.ofString "is_word"), none))
  obtain ⟨fd_check_rows, F_check_rows⟩ := fun_of_defs d 26 (x := (Str.ofString "check_rows")) (qual := (Str.ofString "check_rows")) (st := s_check_rows) (at_ := ((Str.ofString "check_rows"), none))
  obtain ⟨fd_scaled, F_scaled⟩ := fun_of_defs d 27 (x := (Str.ofString "scaled")) (qual := (Str.ofString "scaled")) (st := s_scaled) (at_ := ((Str.ofString "scaled"), none))
  obtain ⟨fd_Field_minus, F_Field_minus⟩ := fun_of_defs d 28 (x := (Str.ofString "minus")) (qual := (Str.ofString "Field.minus")) (st := s_Field_minus) (at_ := ((Str.ofString "Field"), some (Str.ofString "minus")))
  obtain ⟨fd_sum_of, F_sum_of⟩ := fun_of_defs d 29 (x := (Str.ofString "sum_of")) (qual := (Str.ofString "sum_of")) (st := s_sum_of) (at_ := ((Str.ofString "sum_of"), none))
  obtain ⟨fd_less, F_less⟩ := fun_of_defs d 30 (x := (Str.ofString "less")) (qual := (Str.ofString "less")) (st := s_less) (at_ := ((Str.ofString "less"), none))
  obtain ⟨fd_reduced, F_reduced⟩ := fun_of_defs d 31 (x := (Str.ofString "reduced")) (qual := (Str.ofString "reduced")) (st := s_reduced) (at_ := ((Str.ofString "reduced"), none))
  obtain ⟨fd_words, F_words⟩ := fun_of_defs d 32 (x := (Str.ofString "words")) (qual := (Str.ofString "words")) (st := s_words) (at_ := ((Str.ofString "words"), none))
  obtain ⟨fd_weight, F_weight⟩ := fun_of_defs d 33 (x := (Str.ofString "weight")) (qual := (Str.ofString "weight")) (st := s_weight) (at_ := ((Str.ofString "weight"), none))
  obtain ⟨fd_distance_paper, F_distance_paper⟩ := fun_of_defs d 34 (x := (Str.ofString "distance_paper")) (qual := (Str.ofString "distance_paper")) (st := s_distance_paper) (at_ := ((Str.ofString "distance_paper"), none))
  obtain ⟨fd_told_by, F_told_by⟩ := fun_of_defs d 35 (x := (Str.ofString "told_by")) (qual := (Str.ofString "told_by")) (st := s_told_by) (at_ := ((Str.ofString "told_by"), none))
  obtain ⟨fd__law_begin, F__law_begin⟩ := fun_of_defs d 36 (x := (Str.ofString "_law_begin")) (qual := (Str.ofString "_law_begin")) (st := s__law_begin) (at_ := ((Str.ofString "_law_begin"), none))
  obtain ⟨fd_law, F_law⟩ := fun_of_defs d 37 (x := (Str.ofString "law")) (qual := (Str.ofString "law")) (st := s_law) (at_ := ((Str.ofString "law"), none))
  obtain ⟨kd, sh, hu⟩ := shapes_ok (L := L_Field) (nm := (Str.ofString "SHAPES")) c.more
  exact ⟨{ f__law_take := He.fAd K ((Str.ofString "_law_take"), none),
           fd__law_take := fd__law_take,
           F__law_take := F__law_take,
           b__law_take := (F__law_take.binds (ps := P__law_take) fun _ _ _ _ _ _ us hl => match us, hl with | [_, _], _ => rfl),
           m__law_take := He.glo_ok X G (d.fact 0 (by rfl)),
           f__law_shuffled := He.fAd K ((Str.ofString "_law_shuffled"), none),
           fd__law_shuffled := fd__law_shuffled,
           F__law_shuffled := F__law_shuffled,
           b__law_shuffled := (F__law_shuffled.binds (ps := P__law_shuffled) fun _ _ _ _ _ _ us hl => match us, hl with | [_, _], _ => rfl),
           m__law_shuffled := He.glo_ok X G (d.fact 1 (by rfl)),
           f_columns := He.fAd K ((Str.ofString "columns"), none),
           fd_columns := fd_columns,
           F_columns := F_columns,
           b_columns := (F_columns.binds (ps := P_columns) fun _ _ _ _ _ _ us hl => match us, hl with | [_, _], _ => rfl),
           m_columns := He.glo_ok X G (d.fact 2 (by rfl)),
           f_is_integer := He.fAd K ((Str.ofString "is_integer"), none),
           fd_is_integer := fd_is_integer,
           F_is_integer := F_is_integer,
           b_is_integer := (F_is_integer.binds (ps := P_is_integer) fun _ _ _ _ _ _ us hl => match us, hl with | [_], _ => rfl),
           m_is_integer := He.glo_ok X G (d.fact 3 (by rfl)),
           f_is_part := He.fAd K ((Str.ofString "is_part"), none),
           fd_is_part := fd_is_part,
           F_is_part := F_is_part,
           b_is_part := (F_is_part.binds (ps := P_is_part) fun _ _ _ _ _ _ us hl => match us, hl with | [_, _], _ => rfl),
           m_is_part := He.glo_ok X G (d.fact 4 (by rfl)),
           f_check_tests := He.fAd K ((Str.ofString "check_tests"), none),
           fd_check_tests := fd_check_tests,
           F_check_tests := F_check_tests,
           b_check_tests := (F_check_tests.binds (ps := P_check_tests) fun _ _ _ _ _ _ us hl => match us, hl with | [_, _], _ => rfl),
           m_check_tests := He.glo_ok X G (d.fact 5 (by rfl)),
           f_parts := He.fAd K ((Str.ofString "parts"), none),
           fd_parts := fd_parts,
           F_parts := F_parts,
           b_parts := (F_parts.binds (ps := P_parts) fun _ _ _ _ _ _ us hl => match us, hl with | [_, _], _ => rfl),
           m_parts := He.glo_ok X G (d.fact 6 (by rfl)),
           f_cover_paper := He.fAd K ((Str.ofString "cover_paper"), none),
           fd_cover_paper := fd_cover_paper,
           F_cover_paper := F_cover_paper,
           b_cover_paper := (F_cover_paper.binds (ps := P_cover_paper) fun _ _ _ _ _ _ us hl => match us, hl with | [_, _, _], _ => rfl),
           m_cover_paper := He.glo_ok X G (d.fact 7 (by rfl)),
           f_outcome := He.fAd K ((Str.ofString "outcome"), none),
           fd_outcome := fd_outcome,
           F_outcome := F_outcome,
           b_outcome := (F_outcome.binds (ps := P_outcome) fun _ _ _ _ _ _ us hl => match us, hl with | [_, _], _ => rfl),
           m_outcome := He.glo_ok X G (d.fact 8 (by rfl)),
           f_same_paper := He.fAd K ((Str.ofString "same_paper"), none),
           fd_same_paper := fd_same_paper,
           F_same_paper := F_same_paper,
           b_same_paper := (F_same_paper.binds (ps := P_same_paper) fun _ _ _ _ _ _ us hl => match us, hl with | [_, _, _], _ => rfl),
           m_same_paper := He.glo_ok X G (d.fact 9 (by rfl)),
           f__law_pick := He.fAd K ((Str.ofString "_law_pick"), none),
           fd__law_pick := fd__law_pick,
           F__law_pick := F__law_pick,
           b__law_pick := (F__law_pick.binds (ps := P__law_pick) fun _ _ _ _ _ _ us hl => match us, hl with | [_, _], _ => rfl),
           m__law_pick := He.glo_ok X G (d.fact 10 (by rfl)),
           f_digits_of := He.fAd K ((Str.ofString "digits_of"), none),
           fd_digits_of := fd_digits_of,
           F_digits_of := F_digits_of,
           b_digits_of := (F_digits_of.binds (ps := P_digits_of) fun _ _ _ _ _ _ us hl => match us, hl with | [_, _, _], _ => rfl),
           m_digits_of := He.glo_ok X G (d.fact 11 (by rfl)),
           f_number_of := He.fAd K ((Str.ofString "number_of"), none),
           fd_number_of := fd_number_of,
           F_number_of := F_number_of,
           b_number_of := (F_number_of.binds (ps := P_number_of) fun _ _ _ _ _ _ us hl => match us, hl with | [_, _], _ => rfl),
           m_number_of := He.glo_ok X G (d.fact 12 (by rfl)),
           f_Field_sum_of := He.fAd K ((Str.ofString "Field"), some (Str.ofString "sum_of")),
           fd_Field_sum_of := fd_Field_sum_of,
           F_Field_sum_of := F_Field_sum_of,
           b_Field_sum_of := (F_Field_sum_of.binds (ps := P_Field_sum_of) fun _ _ _ _ _ _ us hl => match us, hl with | [_, _, _], _ => rfl),
           f_Field_product_of := He.fAd K ((Str.ofString "Field"), some (Str.ofString "product_of")),
           fd_Field_product_of := fd_Field_product_of,
           F_Field_product_of := F_Field_product_of,
           b_Field_product_of := (F_Field_product_of.binds (ps := P_Field_product_of) fun _ _ _ _ _ _ us hl => match us, hl with | [_, _, _], _ => rfl),
           f_Field___init__ := He.fAd K ((Str.ofString "Field"), some (Str.ofString "__init__")),
           fd_Field___init__ := fd_Field___init__,
           F_Field___init__ := F_Field___init__,
           b_Field___init__ := (F_Field___init__.binds (ps := P_Field___init__) fun _ _ _ _ _ _ us hl => match us, hl with | [_, _], _ => rfl),
           f_Field_check := He.fAd K ((Str.ofString "Field"), some (Str.ofString "check")),
           fd_Field_check := fd_Field_check,
           F_Field_check := F_Field_check,
           b_Field_check := (F_Field_check.binds (ps := P_Field_check) fun _ _ _ _ _ _ us hl => match us, hl with | [_, _], _ => rfl),
           f_Field_times := He.fAd K ((Str.ofString "Field"), some (Str.ofString "times")),
           fd_Field_times := fd_Field_times,
           F_Field_times := F_Field_times,
           b_Field_times := (F_Field_times.binds (ps := P_Field_times) fun _ _ _ _ _ _ us hl => match us, hl with | [_, _, _], _ => rfl),
           f_Field_plus := He.fAd K ((Str.ofString "Field"), some (Str.ofString "plus")),
           fd_Field_plus := fd_Field_plus,
           F_Field_plus := F_Field_plus,
           b_Field_plus := (F_Field_plus.binds (ps := P_Field_plus) fun _ _ _ _ _ _ us hl => match us, hl with | [_, _, _], _ => rfl),
           f_Field_value := He.fAd K ((Str.ofString "Field"), some (Str.ofString "value")),
           fd_Field_value := fd_Field_value,
           F_Field_value := F_Field_value,
           b_Field_value := (F_Field_value.binds (ps := P_Field_value) fun _ _ _ _ _ _ us hl => match us, hl with | [_, _, _], _ => rfl),
           f_square_tests := He.fAd K ((Str.ofString "square_tests"), none),
           fd_square_tests := fd_square_tests,
           F_square_tests := F_square_tests,
           b_square_tests := (F_square_tests.binds (ps := P_square_tests) fun _ _ _ _ _ _ us hl => match us, hl with | [_, _], _ => rfl),
           m_square_tests := He.glo_ok X G (d.fact 13 (by rfl)),
           f_Field_inverse := He.fAd K ((Str.ofString "Field"), some (Str.ofString "inverse")),
           fd_Field_inverse := fd_Field_inverse,
           F_Field_inverse := F_Field_inverse,
           b_Field_inverse := (F_Field_inverse.binds (ps := P_Field_inverse) fun _ _ _ _ _ _ us hl => match us, hl with | [_, _], _ => rfl),
           f_bits_down := He.fAd K ((Str.ofString "bits_down"), none),
           fd_bits_down := fd_bits_down,
           F_bits_down := F_bits_down,
           b_bits_down := (F_bits_down.binds (ps := P_bits_down) fun _ _ _ _ _ _ us hl => match us, hl with | [_], _ => rfl),
           m_bits_down := He.glo_ok X G (d.fact 14 (by rfl)),
           f_Field_power := He.fAd K ((Str.ofString "Field"), some (Str.ofString "power")),
           fd_Field_power := fd_Field_power,
           F_Field_power := F_Field_power,
           b_Field_power := (F_Field_power.binds (ps := P_Field_power) fun _ _ _ _ _ _ us hl => match us, hl with | [_, _, _], _ => rfl),
           f_reed_solomon := He.fAd K ((Str.ofString "reed_solomon"), none),
           fd_reed_solomon := fd_reed_solomon,
           F_reed_solomon := F_reed_solomon,
           b_reed_solomon := (F_reed_solomon.binds (ps := P_reed_solomon) fun _ _ _ _ _ _ us hl => match us, hl with | [_, _], _ => rfl),
           m_reed_solomon := He.glo_ok X G (d.fact 15 (by rfl)),
           f_is_word := He.fAd K ((Str.ofString "is_word"), none),
           fd_is_word := fd_is_word,
           F_is_word := F_is_word,
           b_is_word := (F_is_word.binds (ps := P_is_word) fun _ _ _ _ _ _ us hl => match us, hl with | [_, _, _], _ => rfl),
           m_is_word := He.glo_ok X G (d.fact 16 (by rfl)),
           f_check_rows := He.fAd K ((Str.ofString "check_rows"), none),
           fd_check_rows := fd_check_rows,
           F_check_rows := F_check_rows,
           b_check_rows := (F_check_rows.binds (ps := P_check_rows) fun _ _ _ _ _ _ us hl => match us, hl with | [_, _, _], _ => rfl),
           m_check_rows := He.glo_ok X G (d.fact 17 (by rfl)),
           f_scaled := He.fAd K ((Str.ofString "scaled"), none),
           fd_scaled := fd_scaled,
           F_scaled := F_scaled,
           b_scaled := (F_scaled.binds (ps := P_scaled) fun _ _ _ _ _ _ us hl => match us, hl with | [_, _, _], _ => rfl),
           m_scaled := He.glo_ok X G (d.fact 18 (by rfl)),
           f_Field_minus := He.fAd K ((Str.ofString "Field"), some (Str.ofString "minus")),
           fd_Field_minus := fd_Field_minus,
           F_Field_minus := F_Field_minus,
           b_Field_minus := (F_Field_minus.binds (ps := P_Field_minus) fun _ _ _ _ _ _ us hl => match us, hl with | [_, _], _ => rfl),
           f_sum_of := He.fAd K ((Str.ofString "sum_of"), none),
           fd_sum_of := fd_sum_of,
           F_sum_of := F_sum_of,
           b_sum_of := (F_sum_of.binds (ps := P_sum_of) fun _ _ _ _ _ _ us hl => match us, hl with | [_, _, _], _ => rfl),
           m_sum_of := He.glo_ok X G (d.fact 19 (by rfl)),
           f_less := He.fAd K ((Str.ofString "less"), none),
           fd_less := fd_less,
           F_less := F_less,
           b_less := (F_less.binds (ps := P_less) fun _ _ _ _ _ _ us hl => match us, hl with | [_, _, _, _], _ => rfl),
           m_less := He.glo_ok X G (d.fact 20 (by rfl)),
           f_reduced := He.fAd K ((Str.ofString "reduced"), none),
           fd_reduced := fd_reduced,
           F_reduced := F_reduced,
           b_reduced := (F_reduced.binds (ps := P_reduced) fun _ _ _ _ _ _ us hl => match us, hl with | [_, _, _], _ => rfl),
           m_reduced := He.glo_ok X G (d.fact 21 (by rfl)),
           f_words := He.fAd K ((Str.ofString "words"), none),
           fd_words := fd_words,
           F_words := F_words,
           b_words := (F_words.binds (ps := P_words) fun _ _ _ _ _ _ us hl => match us, hl with | [_, _, _], _ => rfl),
           m_words := He.glo_ok X G (d.fact 22 (by rfl)),
           f_weight := He.fAd K ((Str.ofString "weight"), none),
           fd_weight := fd_weight,
           F_weight := F_weight,
           b_weight := (F_weight.binds (ps := P_weight) fun _ _ _ _ _ _ us hl => match us, hl with | [_], _ => rfl),
           m_weight := He.glo_ok X G (d.fact 23 (by rfl)),
           f_distance_paper := He.fAd K ((Str.ofString "distance_paper"), none),
           fd_distance_paper := fd_distance_paper,
           F_distance_paper := F_distance_paper,
           b_distance_paper := (F_distance_paper.binds (ps := P_distance_paper) fun _ _ _ _ _ _ us hl => match us, hl with | [_, _, _], _ => rfl),
           m_distance_paper := He.glo_ok X G (d.fact 24 (by rfl)),
           f_told_by := He.fAd K ((Str.ofString "told_by"), none),
           fd_told_by := fd_told_by,
           F_told_by := F_told_by,
           b_told_by := (F_told_by.binds (ps := P_told_by) fun _ _ _ _ _ _ us hl => match us, hl with | [_, _, _], _ => rfl),
           m_told_by := He.glo_ok X G (d.fact 25 (by rfl)),
           f__law_begin := He.fAd K ((Str.ofString "_law_begin"), none),
           fd__law_begin := fd__law_begin,
           F__law_begin := F__law_begin,
           b__law_begin := (F__law_begin.binds (ps := P__law_begin) fun _ _ _ _ _ _ us hl => match us, hl with | [_], _ => rfl),
           m__law_begin := He.glo_ok X G (d.fact 26 (by rfl)),
           f_law := He.fAd K ((Str.ofString "law"), none),
           fd_law := fd_law,
           F_law := F_law,
           b_law := (F_law.binds (ps := P_law) fun _ _ _ _ _ _ us hl => match us, hl with | [_], _ => rfl),
           m_law := He.glo_ok X G (d.fact 27 (by rfl)),
           z_abs := He.free_ok X G (d.fact 28 (by rfl)),
           z_all := He.free_ok X G (d.fact 29 (by rfl)),
           z_any := He.free_ok X G (d.fact 30 (by rfl)),
           z_bool := He.free_ok X G (d.fact 31 (by rfl)),
           z_enumerate := He.free_ok X G (d.fact 32 (by rfl)),
           z_int := He.free_ok X G (d.fact 33 (by rfl)),
           z_isinstance := He.free_ok X G (d.fact 34 (by rfl)),
           z_len := He.free_ok X G (d.fact 35 (by rfl)),
           z_list := He.free_ok X G (d.fact 36 (by rfl)),
           z_max := He.free_ok X G (d.fact 37 (by rfl)),
           z_range := He.free_ok X G (d.fact 38 (by rfl)),
           z_reversed := He.free_ok X G (d.fact 39 (by rfl)),
           z_set := He.free_ok X G (d.fact 40 (by rfl)),
           z_sorted := He.free_ok X G (d.fact 41 (by rfl)),
           z_tuple := He.free_ok X G (d.fact 42 (by rfl)),
           z_zip := He.free_ok X G (d.fact 43 (by rfl)),
           k_MOST_ITEMS := He.int_ok X G (d.fact 44 (by rfl)),
           k_MOST_LENGTH := He.int_ok X G (d.fact 45 (by rfl)),
           k_MOST_TESTS := He.int_ok X G (d.fact 46 (by rfl)),
           k_MOST_WORDS := He.int_ok X G (d.fact 47 (by rfl)),
           cF := He.ga K (Str.ofString "Field"),
           c0_cls := He.cls_ok (d.fact 48 (by rfl)),
           c0_na_size := He.noat_ok (d.fact 49 (by rfl)),
           c0_na_prime := He.noat_ok (d.fact 50 (by rfl)),
           c0_na_modulus := He.noat_ok (d.fact 51 (by rfl)),
           c0_na_degree := He.noat_ok (d.fact 52 (by rfl)),
           c0_na_sums := He.noat_ok (d.fact 53 (by rfl)),
           c0_na_products := He.noat_ok (d.fact 54 (by rfl)),
           me_Field_sum_of := He.meth_ok (d.fact 55 (by rfl)),
           me_Field_product_of := He.meth_ok (d.fact 56 (by rfl)),
           me_Field_check := He.meth_ok (d.fact 57 (by rfl)),
           me_Field_times := He.meth_ok (d.fact 58 (by rfl)),
           me_Field_plus := He.meth_ok (d.fact 59 (by rfl)),
           me_Field_value := He.meth_ok (d.fact 60 (by rfl)),
           me_Field_inverse := He.meth_ok (d.fact 61 (by rfl)),
           me_Field_power := He.meth_ok (d.fact 62 (by rfl)),
           me_Field_minus := He.meth_ok (d.fact 63 (by rfl)),
           mk_Field := He.mkr_ok (d.fact 64 (by rfl)),
           m_Field := He.glo_ok X G (d.fact 65 (by rfl)),
           a_SH := He.ga K (Str.ofString "SHAPES"),
           fvS := _,
           kd_SH := kd,
           m_SHAPES := He.glo_ok X G (d.fact 66 (by rfl)),
           U := _,
           sh_ok := sh,
           hU := hu }⟩
set_option maxHeartbeats 0 in
theorem ends (run' : ∀ ns : List Int, ns.length ≤ 63 → ∃ s', b_law (none :: some (.tok 0) :: List.replicate (N_law.length - 2) none) ⟨ns, 0, 0, seedOf 5 ns⟩ = some (.rt (.bl true), s')) {w : World} {K : PySem.W.Frag} {h : Heap} {mg : Str → Option Value} {f : Addr} (X : K.In h) (G : h.Ns mainGlobals mg) (hfa : mg ("law" : Str) = some (.ref f)) (c : He.SaysX fas fns [] [] exB w h K) :
    ∃ fd : FuncData, (∀ (s : Shared) (v : Value), BindsTo s fd ⟨[v], []⟩ [("script", v)]) ∧ ∀ base : Heap, K.In base → base.Ns mainGlobals mg → FnOk PySem.Challenge.rw_codehall_k57_whole_columns_that_share_li.prog w K mg base CX0 9 f fd ["script"] (spLawX K) := by
  obtain ⟨t⟩ := facts X G c
  have e := hfa.symm.trans t.m_law
  cases e
  obtain ⟨oc, od, kV, doc, pm, an, cdv, ct, osl, e, _, _⟩ := t.F_law.ex
  exact ⟨t.fd_law, fun s v => by rw [e]; exact .of_eq rfl, fun base _ _ => ok_law t run'⟩
end Lawk57
namespace Lawk57
open PySem PyProof.Rows L2 SL
theorem p_forCons {S : Type} {b : Bd} {f : Stm S} {x : D} {xs : List D} {env e e1 : SL.Env} {s s1 : S} {r : Option (Out × S)} (h1 : b env x = some e) (h2 : f e s = some (.nx e1, s1)) (k : forRun b f xs e1 s1 = r) : forRun b f (x :: xs) env s = r := by
  simp only [forRun, h1, h2, k]
def bi (b : Bool) : D := .int (if b then 1 else 0)
abbrev tb {α : Type} (n : Nat) (f : Nat → α) : List α := (List.range n).map f
theorem tb_succ {α : Type} (n : Nat) (f : Nat → α) : tb (n + 1) f = f 0 :: tb n fun k => f (k + 1) := by
  unfold tb
  rw [List.range_succ_eq_map, List.map_cons, List.map_map]
  rfl
theorem tb_len {α : Type} (n : Nat) (f : Nat → α) : (tb n f).length = n := by rw [List.length_map, List.length_range]
theorem tb_congr {α : Type} {n : Nat} {f g : Nat → α} (h : ∀ k, k < n → f k = g k) : tb n f = tb n g := List.map_congr_left fun k hk => h k (List.mem_range.mp hk)
def plI (n : Nat) (f : Nat → Bool) : List Int := ((List.range n).filter f).map fun k : Nat => (k : Int)
theorem mem_plI {n : Nat} {f : Nat → Bool} {x : Int} : x ∈ plI n f ↔ ∃ k : Nat, x = k ∧ k < n ∧ f k = true := by
  unfold plI
  constructor
  · intro h
    obtain ⟨k, hk, rfl⟩ := List.mem_map.mp h
    obtain ⟨h1, h2⟩ := List.mem_filter.mp hk
    exact ⟨k, rfl, List.mem_range.mp h1, h2⟩
  · rintro ⟨k, rfl, h1, h2⟩
    exact List.mem_map.mpr ⟨k, List.mem_filter.mpr ⟨List.mem_range.mpr h1, h2⟩, rfl⟩
theorem hasI_plI {n : Nat} {f : Nat → Bool} {k : Nat} (h : k < n) : hasI (k : Int) (plI n f) = f k := by
  cases e : f k with
  | true => exact hasI_iff.mpr (mem_plI.mpr ⟨k, rfl, h, e⟩)
  | false =>
    refine hasI_ff.mpr fun q => ?_
    obtain ⟨j, e1, h1, h2⟩ := mem_plI.mp q
    have : k = j := by omega
    rw [this, h2] at e
    cases e
theorem asc_pw : ∀ l : List Nat, l.Pairwise (· < ·) → ascI (l.map fun k : Nat => (k : Int)) = true
  | [], _ => rfl
  | [_], _ => rfl
  | x :: y :: r, h => by
    have h := List.pairwise_cons.mp h
    have ih := asc_pw (y :: r) h.2
    show (decide ((x : Int) < (y : Int)) && ascI ((y :: r).map fun k : Nat => (k : Int))) = true
    rw [ih, decide_eq_true (by have := h.1 y (List.mem_cons_self ..); omega)]
    rfl
theorem plI_ok {n : Nat} (hn : n ≤ 1000) (f : Nat → Bool) : PlI (n : Nat) (plI n f) := by
  refine ⟨fun x hx => ?_, asc_pw _ (List.pairwise_lt_range.filter _), ?_⟩
  · obtain ⟨k, rfl, h1, _⟩ := mem_plI.mp hx
    omega
  · unfold plI
    rw [List.length_map]
    exact Nat.le_trans (List.length_filter_le _ _) (by rw [List.length_range]; exact hn)
theorem ixD_n {n k : Nat} (h : k < n) : ixD n (k : Int) = some k := by
  unfold ixD
  rw [if_pos (by omega), if_pos (by omega)]
  congr 1
theorem ix_lst {n k : Nat} (f : Nat → D) (h : k < n) : gIx (.lst (tb n f)) (.int (k : Int)) = some (f k) := by
  show atD (tb n f) (k : Int) = _
  unfold atD
  rw [ixD_n (by rw [tb_len]; exact h)]
  show (tb n f)[k]? = _
  rw [List.getElem?_map, List.getElem?_range h]
  rfl
theorem rng_i {S : Type} {env : SL.Env} {s : S} {n : Nat} (hn : n ≤ 1000) {i : Nat} (h : env[i]? = some (some (.int (n : Int)))) : (fRng1 (fCons (fVar i) fNil) : Fn S (List D)) env s = some ((List.range n).map fun j : Nat => D.int (j : Int), s) := by
  have v4 : (fCons (fVar i) fNil : Fn S (List D)) env s = some ([.int (n : Int)], s) := v_fCons (p_fVar h rfl) v_fNil
  have rg : ∀ (k a : Nat), rangeD (a : Int) k = (List.range' a k).map fun j : Nat => D.int (j : Int) := by
    intro k
    induction k with
    | zero => intro a; rfl
    | succ k ih =>
      intro a
      rw [List.range'_succ, List.map_cons, ← ih (a + 1)]
      rfl
  unfold fRng1
  rw [v4]
  show (if okI (n : Int) = true then some (rangeD 0 (n : Int).toNat, s) else none) = _
  have ok : okI (n : Int) = true := by
    unfold okI
    rw [Bool.and_eq_true, decide_eq_true_eq, decide_eq_true_eq]
    omega
  rw [if_pos ok, show ((n : Int)).toNat = n by omega, show (0 : Int) = ((0 : Nat) : Int) from rfl, rg, ← List.range_eq_range']
theorem rng_n0 {S : Type} {env : SL.Env} {s : S} {n : Nat} (hn : n ≤ 1000) (h : env[0]? = some (some (.int (n : Int)))) : (fRng1 (fCons (fVar 0) fNil) : Fn S (List D)) env s = some ((List.range n).map fun j : Nat => D.int (j : Int), s) := rng_i hn h
end Lawk57

namespace Lawk57
open PySem PyProof.Rows L2 SL
theorem take_ok (s : DS) (hp : 0 ≤ s.pos) (hb : 0 ≤ s.big) (m : Int) (hm : 0 < m) (hm2 : m < 1073741824) : ∃ r s', g__law_take [.tok 0, .int m] s = some (.int r, s') ∧ 0 ≤ r ∧ r < m ∧ 0 ≤ s'.pos ∧ 0 ≤ s'.big := by
  obtain ⟨xs, pos, big, seed⟩ := s
  simp only at hp hb
  have e : g__law_take [.tok 0, .int m] ⟨xs, pos, big, seed⟩ = outR (b__law_take [some (.tok 0), some (.int m), none, none] ⟨xs, pos, big, seed⟩) := rfl
  rw [e]
  have hmod : ∀ a : Int, 0 ≤ a % m ∧ a % m < m := fun a => ⟨Int.emod_nonneg _ (by omega), Int.emod_lt_of_pos _ hm⟩
  have sm : ∀ i : Int, (smallI i || smallI 69621) = true := fun i => by rw [show smallI 69621 = true from rfl, Bool.or_true]
  have fin : ∀ (pos big : Int), 0 ≤ pos → 0 ≤ big → ∃ r s', outR ((sSeq (sIf (fTest (fOp gGt (fSt 0 2) (fC (.int 0)))) (sSeq (sAsg (fOp gMod (fCall gInt (fCons (fSt 0 2) fNil)) (fVar 1)) (bName 3))
    (sSeq (sStSet 0 2 (fOp gDiv (fCall gInt (fCons (fSt 0 2) fNil)) (fVar 1)))
    (sRet (fVar 3))))
    sNext)
    (sSeq (sStSet 0 3 (fOp gMod (fCall gInt (fCons (fOp gAdd (fOp gMulX (fSt 0 3) (fC (.int 69621))) (fC (.int 7))) fNil)) (fC (.int 2147483647))))
    (sRet (fOp gMod (fCall gInt (fCons (fOp gDiv (fSt 0 3) (fC (.int 5))) fNil)) (fVar 1))))) [some (.tok 0), some (.int m), none, none] ⟨xs, pos, big, seed⟩) = some (.int r, s') ∧ 0 ≤ r ∧ r < m ∧ 0 ≤ s'.pos ∧ 0 ≤ s'.big := by
    intro pos big h1 h2
    by_cases hbig : 0 < big
    · refine ⟨big % m, ⟨xs, pos, big / m, seed⟩, ?_, (hmod _).1, (hmod _).2, h1, Int.ediv_nonneg h2 (by omega)⟩
      simp [outR, sNext, sIf, fTest, fOp, gGt, hbig, sSeq, sStSet, sAsg, bName, sRet, fCall, fCons, fNil, fSt, fC, fVar, gMod, gInt, gDiv, isTok0, stGet, stSet, hm, hm2, D.isOwn]
    · refine ⟨(((seed * 69621 + 7) % 2147483647) / 5) % m, ⟨xs, pos, big, (seed * 69621 + 7) % 2147483647⟩, ?_, (hmod _).1, (hmod _).2, h1, h2⟩
      simp [outR, sNext, sIf, fTest, fOp, gGt, hbig, sSeq, sStSet, sAsg, bName, sRet, fCall, fCons, fNil, fSt, fC, fVar, gMod, gInt, gAdd, gMulX, gDiv, isTok0, stGet, stSet, sm, hm, hm2, D.isOwn]
  have seqN : ∀ (f g : Stm DS) (env : SL.Env) (s s1 : DS), f env s = some (.nx env, s1) → (sSeq f g) env s = g env s1 := fun f g env s s1 h => by
    unfold sSeq
    rw [h]
  have h10 : (fOp gPow (fC (.int 10)) (fC (.int 18)) : Fn DS D) = fC (.int 1000000000000000000) := rfl
  by_cases h1 : big = 0 ∧ pos < xs.length
  · obtain ⟨h1, h2⟩ := h1
    have hi : pos.toNat < xs.length := by omega
    have hn : 0 ≤ (if xs[pos.toNat] < 0 then -xs[pos.toNat] else xs[pos.toNat]) := by split <;> omega
    generalize hN : (if xs[pos.toNat] < 0 then -xs[pos.toNat] else xs[pos.toNat]) = n at hn
    by_cases h3 : n < 1000000000000000000
    · refine ⟨n % m, ⟨xs, pos + 1, 0, seed⟩, ?_, (hmod _).1, (hmod _).2, by show 0 ≤ pos + 1; omega, Int.le_refl _⟩
      unfold b__law_take
      rw [h10]
      simp [outR, sNext, sIf, fTest, fAnd, fOp, gGt, gEq, gLt, h1, h2, hp, h3, hN, fStL, fStX, gAbs, sSeq, sStSet, sAsg, bName, sRet, fCall, fCons, fNil, fSt, fC, fVar, gMod, gInt, gAdd, gDiv, isTok0, stGet, stSet, hm, hm2, D.isOwn]
    · have := fin (pos + 1) n (by omega) hn
      unfold b__law_take
      rw [h10, seqN _ _ _ _ ⟨xs, pos + 1, n, seed⟩ (by simp [sNext, sIf, fTest, fAnd, fOp, gGt, gEq, gLt, h1, h2, hp, h3, hN, fStL, fStX, gAbs, sSeq, sStSet, sAsg, bName, sRet, fCall, fCons, fNil, fSt, fC, fVar, gMod, gInt, gAdd, gDiv, isTok0, stGet, stSet, hm, hm2, D.isOwn])]
      exact this
  · have := fin pos big hp hb
    unfold b__law_take
    rw [seqN _ _ _ _ ⟨xs, pos, big, seed⟩ (by
      by_cases h0 : big = 0
      · have h2 : ¬ pos < xs.length := fun z => h1 ⟨h0, z⟩
        simp [sNext, sIf, fTest, fAnd, fOp, gEq, gLt, h0, h2, fStL, fSt, fC, isTok0, stGet]
      · have h0' : (big == 0) = false := by simpa using h0
        simp [sNext, sIf, fTest, fAnd, fOp, gEq, gLt, h0', fStL, fSt, fC, isTok0, stGet])]
    exact this
structure InvD (s : DS) : Prop where
  p : 0 ≤ s.pos
  b : 0 ≤ s.big
theorem take2 {s : DS} (h : InvD s) (m : Nat) (hm : 0 < m) (hm2 : m < 1073741824) : ∃ (r : Nat) (s' : DS), g__law_take [.tok 0, .int (m : Int)] s = some (.int (r : Int), s') ∧ r < m ∧ InvD s' := by
  obtain ⟨r, s', e, h1, h2, h3, h4⟩ := take_ok s h.p h.b (m : Int) (by omega) (by omega)
  obtain ⟨k, rfl⟩ : ∃ k : Nat, r = k := ⟨r.toNat, by omega⟩
  exact ⟨k, s', e, by omega, ⟨h3, h4⟩⟩
end Lawk57
namespace Lawk57
open SL
/-! ascending lists -/
abbrev Asc (l : List Int) : Prop := l.Pairwise (· < ·)
theorem asc_ins (x : Int) : ∀ ys : List Int, Asc ys → x ∉ ys → Asc (insI x ys)
  | [], _, _ => List.pairwise_singleton _ _
  | y :: ys, h, n => by
    have h' := List.pairwise_cons.mp h
    unfold insI
    split
    · rename_i q
      refine List.pairwise_cons.mpr ⟨fun z hz => ?_, asc_ins x ys h'.2 fun k => n (List.mem_cons_of_mem _ k)⟩
      rcases List.mem_cons.mp ((insI_perm x ys).mem_iff.mp hz) with rfl | hz
      · exact q
      · exact h'.1 z hz
    · rename_i q
      have xy : x < y := by
        have : x ≠ y := fun e => n (by rw [e]; exact List.mem_cons_self ..)
        omega
      refine List.pairwise_cons.mpr ⟨fun z hz => ?_, h⟩
      rcases List.mem_cons.mp hz with rfl | hz
      · exact xy
      · have := h'.1 z hz
        omega
theorem asc_sort : ∀ xs : List Int, xs.Nodup → Asc (sortI xs)
  | [], _ => List.Pairwise.nil
  | x :: xs, h => by
    have h := List.nodup_cons.mp h
    exact asc_ins x _ (asc_sort xs h.2) fun k => h.1 ((sortI_perm xs).mem_iff.mp k)
theorem asc_eq : ∀ a b : List Int, Asc a → Asc b → (∀ x, x ∈ a ↔ x ∈ b) → a = b
  | [], [], _, _, _ => rfl
  | [], y :: b, _, _, h => by have := (h y).mpr (List.mem_cons_self ..); cases this
  | x :: a, [], _, _, h => by have := (h x).mp (List.mem_cons_self ..); cases this
  | x :: a, y :: b, ha, hb, h => by
    have ha := List.pairwise_cons.mp ha
    have hb := List.pairwise_cons.mp hb
    have e : x = y := by
      rcases List.mem_cons.mp ((h x).mp (List.mem_cons_self ..)) with e | m
      · exact e
      · rcases List.mem_cons.mp ((h y).mpr (List.mem_cons_self ..)) with e | m2
        · exact e.symm
        · have := hb.1 x m
          have := ha.1 y m2
          omega
    subst e
    rw [asc_eq a b ha.2 hb.2 fun z => ⟨fun m => ?_, fun m => ?_⟩]
    · rcases List.mem_cons.mp ((h z).mp (List.mem_cons_of_mem _ m)) with e | m2
      · have := ha.1 z m
        omega
      · exact m2
    · rcases List.mem_cons.mp ((h z).mpr (List.mem_cons_of_mem _ m)) with e | m2
      · have := hb.1 z m
        omega
      · exact m2
theorem asc_plI (n : Nat) (f : Nat → Bool) : Asc (plI n f) := by
  unfold plI
  refine List.pairwise_map.mpr ((List.pairwise_lt_range.filter _).imp fun h => ?_)
  omega
/-! counts -/
theorem filt_or (f g : Int → Bool) : ∀ R : List Int, (R.filter fun x => f x || g x).length ≤ (R.filter f).length + (R.filter g).length
  | [] => Nat.zero_le _
  | x :: R => by
    have ih := filt_or f g R
    rw [List.filter_cons, List.filter_cons, List.filter_cons]
    cases f x <;> cases g x <;> simp only [Bool.or_false, Bool.or_true, Bool.false_eq_true, if_true, if_false, List.length_cons] <;> omega
theorem union_le (R : List Int) (f : Int → Int → Bool) (s : Nat) : ∀ P : List Int, (∀ o ∈ P, (R.filter (f o)).length ≤ s) → (R.filter fun x => P.any fun o => f o x).length ≤ P.length * s
  | [], _ => by
    rw [List.length_nil, Nat.zero_mul, List.length_eq_zero_iff.mpr (List.filter_eq_nil_iff.mpr fun x _ h => by cases h)]
    exact Nat.le_refl _
  | o :: P, h => by
    have ih := union_le R f s P fun z hz => h z (List.mem_cons_of_mem _ hz)
    have h1 := h o (List.mem_cons_self ..)
    have h2 := filt_or (f o) (fun x => P.any fun o => f o x) R
    rw [List.length_cons, Nat.succ_mul]
    have e : (R.filter fun x => (o :: P).any fun o => f o x) = R.filter fun x => f o x || P.any fun o => f o x := List.filter_congr fun x _ => List.any_cons
    rw [e]
    omega
theorem some_free {R : List Int} {f : Int → Int → Bool} {s : Nat} {P : List Int} (h : ∀ o ∈ P, (R.filter (f o)).length ≤ s) (lt : P.length * s < R.length) : ∃ x ∈ R, ∀ o ∈ P, f o x = false := by
  have u := union_le R f s P h
  cases q : R.all fun x => P.any fun o => f o x with
  | true =>
    have : (R.filter fun x => P.any fun o => f o x) = R := List.filter_eq_self.mpr fun x hx => List.all_eq_true.mp q x hx
    rw [this] at u
    omega
  | false =>
    obtain ⟨x, hx, hn⟩ := List.all_eq_false.mp q
    refine ⟨x, hx, fun o ho => ?_⟩
    cases e : f o x with
    | false => rfl
    | true => exact absurd (List.any_eq_true.mpr ⟨o, ho, e⟩) hn
/-! greatest numbers -/
def mxN : List Nat → Nat
  | [] => 0
  | x :: l => max x (mxN l)
theorem le_mxN {x : Nat} : ∀ {l : List Nat}, x ∈ l → x ≤ mxN l
  | y :: l, h => by
    unfold mxN
    rcases List.mem_cons.mp h with rfl | h
    · exact Nat.le_max_left _ _
    · exact Nat.le_trans (le_mxN h) (Nat.le_max_right _ _)
theorem mxN_mem : ∀ l : List Nat, mxN l = 0 ∨ mxN l ∈ l
  | [] => .inl rfl
  | x :: l => by
    unfold mxN
    rcases Nat.le_total x (mxN l) with h | h
    · rw [Nat.max_eq_right h]
      exact (mxN_mem l).imp id fun m => List.mem_cons_of_mem _ m
    · rw [Nat.max_eq_left h]
      exact .inr (List.mem_cons_self ..)
/-! parts of a set, the small ones first -/
def lastI (r : List Int) : Int := r.getLastD 0
def okI' (r : List Int) (x : Int) : Bool := r.isEmpty || decide (lastI r < x)
def nextL (items : List Int) (layer : List (List Int)) : List (List Int) := layer.flatMap fun r => (items.filter fun x => okI' r x).map fun x => r ++ [x]
def layerN (items : List Int) : Nat → List (List Int)
  | 0 => [[]]
  | n + 1 => nextL items (layerN items n)
def partsN (items : List Int) : Nat → List (List Int)
  | 0 => [[]]
  | n + 1 => partsN items n ++ layerN items (n + 1)
theorem mem_layer {items : List Int} : ∀ {n : Nat} {P : List Int}, P ∈ layerN items n ↔ P.length = n ∧ Asc P ∧ ∀ x ∈ P, x ∈ items
  | 0, P => by
    constructor
    · intro h
      rw [List.mem_singleton.mp h]
      exact ⟨rfl, List.Pairwise.nil, fun x hx => by cases hx⟩
    · rintro ⟨h, _⟩
      rw [List.eq_nil_of_length_eq_zero h]
      exact List.mem_singleton.mpr rfl
  | n + 1, P => by
    constructor
    · intro h
      obtain ⟨r, hr, h⟩ := List.mem_flatMap.mp h
      obtain ⟨x, hx, rfl⟩ := List.mem_map.mp h
      obtain ⟨hx, ok⟩ := List.mem_filter.mp hx
      obtain ⟨h1, h2, h3⟩ := mem_layer.mp hr
      refine ⟨by rw [List.length_append, h1]; rfl, List.pairwise_append.mpr ⟨h2, List.pairwise_singleton _ _, fun a ha b hb => ?_⟩, fun y hy => ?_⟩
      · rw [List.mem_singleton.mp hb]
        rcases List.eq_nil_or_concat r with e | ⟨r', z, e⟩
        · rw [e] at ha; cases ha
        · rw [List.concat_eq_append] at e
          rw [e] at ok ha h2
          have zx : z < x := by
            unfold okI' lastI at ok
            rw [List.getLastD_concat] at ok
            have : (r' ++ [z]).isEmpty = false := by cases r' <;> rfl
            rw [this, Bool.false_or] at ok
            exact of_decide_eq_true ok
          rcases List.mem_append.mp ha with ha | ha
          · have := (List.pairwise_append.mp h2).2.2 a ha z (List.mem_singleton.mpr rfl)
            omega
          · rw [List.mem_singleton.mp ha]; exact zx
      · rcases List.mem_append.mp hy with hy | hy
        · exact h3 y hy
        · rw [List.mem_singleton.mp hy]; exact hx
    · rintro ⟨h1, h2, h3⟩
      rcases List.eq_nil_or_concat P with e | ⟨r, x, e⟩
      · rw [e] at h1; cases h1
      · rw [List.concat_eq_append] at e
        subst e
        have p := List.pairwise_append.mp h2
        refine List.mem_flatMap.mpr ⟨r, mem_layer.mpr ⟨by rw [List.length_append] at h1; exact Nat.succ.inj h1, p.1, fun y hy => h3 y (List.mem_append_left _ hy)⟩, List.mem_map.mpr ⟨x, List.mem_filter.mpr ⟨h3 x (List.mem_append_right _ (List.mem_singleton.mpr rfl)), ?_⟩, rfl⟩⟩
        unfold okI' lastI
        rcases List.eq_nil_or_concat r with e | ⟨r', z, e⟩
        · rw [e]; rfl
        · rw [List.concat_eq_append] at e
          rw [e, List.getLastD_concat, Bool.or_eq_true]
          exact .inr (decide_eq_true (p.2.2 z (by rw [e]; exact List.mem_append_right _ (List.mem_singleton.mpr rfl)) x (List.mem_singleton.mpr rfl)))
theorem mem_parts {items : List Int} : ∀ {n : Nat} {P : List Int}, P ∈ partsN items n ↔ P.length ≤ n ∧ Asc P ∧ ∀ x ∈ P, x ∈ items
  | 0, P => by
    have := mem_layer (items := items) (n := 0) (P := P)
    show P ∈ layerN items 0 ↔ _
    rw [this, Nat.le_zero_eq]
  | n + 1, P => by
    rw [partsN, List.mem_append, mem_parts, mem_layer]
    constructor
    · rintro (⟨h1, h2⟩ | ⟨h1, h2⟩)
      · exact ⟨by omega, h2⟩
      · exact ⟨by omega, h2⟩
    · rintro ⟨h1, h2⟩
      by_cases q : P.length = n + 1
      · exact .inr ⟨q, h2⟩
      · exact .inl ⟨by omega, h2⟩
theorem nodup_layer {items : List Int} (h : items.Nodup) : ∀ n, (layerN items n).Nodup
  | 0 => List.nodup_cons.mpr ⟨nofun, List.nodup_nil⟩
  | n + 1 => by
    refine List.pairwise_flatMap.mpr ⟨fun r _ => ?_, (nodup_layer h n).imp fun {r r'} ne a ha b hb e => ?_⟩
    · refine List.pairwise_map.mpr ((List.Pairwise.filter _ h).imp fun {x y} ne e => ne ?_)
      exact (List.cons.inj (List.append_cancel_left e)).1
    · obtain ⟨x, _, rfl⟩ := List.mem_map.mp ha
      obtain ⟨y, _, rfl⟩ := List.mem_map.mp hb
      exact ne (List.append_inj_left' e rfl)
theorem nodup_parts {items : List Int} (h : items.Nodup) : ∀ n, (partsN items n).Nodup
  | 0 => List.nodup_cons.mpr ⟨nofun, List.nodup_nil⟩
  | n + 1 => List.pairwise_append.mpr ⟨nodup_parts h n, nodup_layer h (n + 1), fun a ha b hb e => by
      have h1 := (mem_parts.mp ha).1
      have h2 := (mem_layer.mp hb).1
      rw [e] at h1
      omega⟩
end Lawk57
namespace Lawk57
open PySem PyProof.Rows L2 SL
theorem okd_tis (n : Nat) (C : List (List Int)) : (D.tup (C.map ti)).okd (n + 2) = true := by
  show D.okds (n + 1) (C.map ti) = true
  exact okds_map (n + 1) ti C fun c _ => okd_ti n c
theorem tru_all {ι : Type} (h : ι → D) : ∀ l : List ι, (∀ i ∈ l, truD (h i) = some true) → truDs (l.map h) = some (l.map fun _ => true)
  | [], _ => rfl
  | i :: l, H => by simp only [List.map_cons, truDs, H i (List.mem_cons_self ..), tru_all h l fun j hj => H j (List.mem_cons_of_mem _ hj)]
theorem all_ok {ι : Type} {x : D} (h : ι → D) (l : List ι) (hx : items x = some (l.map h)) (H : ∀ i ∈ l, truD (h i) = some true) (K : ∀ i ∈ l, (h i).okd 60 = true) : gAll [x] = some (.bl true) := by
  have e : (l.map fun _ => true).all id = true := by
    induction l with
    | nil => rfl
    | cons i l ih => simp
  simp only [gAll, hx, tru_all h l H, okds_map 60 h l K, e, if_pos rfl]
  rfl
theorem gIsiT_ti (xs : List Int) : gIsiTuple (ti xs) = some (.bl true) := by
  unfold gIsiTuple
  rw [if_pos (okd_ti 59 xs)]
theorem is_part_ok {n : Int} {xs : List Int} (h : PlI n xs) : g_is_part [ti xs, .int n] = some (.bl true) := by
  obtain ⟨hr, ha, hl⟩ := h
  have a1 : (fLc (fList (fVar 0)) (bName 2) fYes (fOrV (fNotV (fCall (lenG 1 g_is_integer) (fCons (fVar 2) fNil))) (fNotV (fChain gLe gLt (fC (.int 0)) (fVar 2) (fVar 1)))) [2] : Fn Unit (List D)) (startE 5 [ti xs, .int n]) () = some (xs.map fun _ => .bl false, ()) :=
    v_fLc (v_fList rfl rfl) (by simp only [List.length_map]; omega) (lcRun_map D.int (fun _ => .bl false) xs fun x hx => ⟨[some (ti xs), some (.int n), some (.int x), none, none], rfl, rfl,
      p_fOrVF (v_fNotV (c := true) (v_fCall (d := .bl true) (v_fCons rfl v_fNil) (v_lenG rfl rfl))) (v_fNotV (c := true) (p_fChain rfl rfl (by show some (D.bl (decide (0 ≤ x))) = _; rw [decide_eq_true (hr x hx).1]) rfl (by show some (D.bl (decide (x < n))) = _; rw [decide_eq_true (hr x hx).2])))⟩)
  have a2 : (fLc (fZip (fCons (fVar 0) (fCons (fSl (fVar 0) (fPart (fC (.int 1))) fNoPart) fNil))) (bTup (bsCons (bName 3) (bsCons (bName 4) bsNil))) fYes (fOp gLt (fVar 3) (fVar 4)) [3, 4] : Fn Unit (List D)) (startE 5 [ti xs, .int n]) () = some ((xs.zip (xs.drop 1)).map fun _ => .bl true, ()) := by
    refine v_fLc (xs := (xs.zip (xs.drop 1)).map fun p => .tup [.int p.1, .int p.2]) ?_ (by simp only [List.length_map, List.length_zip]; omega) (lcRun_map (fun p : Int × Int => .tup [.int p.1, .int p.2]) (fun _ => .bl true) (xs.zip (xs.drop 1)) fun p hp => ⟨[some (ti xs), some (.int n), none, some (.int p.1), some (.int p.2)], rfl, rfl, v_fOp rfl rfl (by show some (D.bl (decide (p.1 < p.2))) = _; rw [decide_eq_true (asc_zip xs ha p hp)])⟩)
    rw [← zipD_ints, List.map_drop]
    refine v_fZip (v_fCons rfl (v_fCons (p_fSl (l := some 1) (u := none) rfl rfl rfl ?_) v_fNil))
    show some (D.tup (cutD (xs.map D.int) (some 1) none)) = _
    rw [cut_tail]
  refine v_runP rfl (v_seq (v_sIfF (p_fOrF (p_fNot (b := true) (v_fTest (v_fUn rfl (gIsiT_ti xs)))) (v_fTest (v_fCall (v_fCons (v_fL a1) v_fNil) (any_no (fun _ => D.bl false) xs rfl (fun _ _ => rfl) fun _ _ => rfl)))) rfl) (v_sRet (v_fCall (v_fCons (v_fL a2) v_fNil) (all_ok (fun _ => D.bl true) (xs.zip (xs.drop 1)) rfl (fun _ _ => rfl) fun _ _ => rfl))))
theorem lc2_map {S ι : Type} {b : Bd} {ft : Fn S Bool} {fi1 : Fn S (List D)} {vs1 : List Nat} {b1 : Bd} {ft1 : Fn S Bool} {fe : Fn S D} {env : SL.Env} {s : S} (f : ι → D) (g : ι → List D) : ∀ l : List ι, (∀ i ∈ l, ∃ env1 ys, b env (f i) = some env1 ∧ ft env1 s = some (true, s) ∧ fi1 env1 s = some (ys, s) ∧ lcRun b1 ft1 fe (wipeE env1 vs1) ys s = some (g i, s)) → lc2Run b ft fi1 vs1 b1 ft1 fe env (l.map f) s = some (l.flatMap g, s)
  | [], _ => rfl
  | i :: l, H => by
    obtain ⟨env1, ys, h1, h2, h3, h4⟩ := H i (List.mem_cons_self ..)
    simp only [List.map_cons, lc2Run, h1, h2, h3, h4, lc2_map f g l fun j hj => H j (List.mem_cons_of_mem _ hj), List.flatMap_cons]
/-! tests and columns: A at k tells whether the test at holds the item k -/
abbrev testL (M T : Nat) (A : Nat → Nat → Bool) : List (List Int) := tb T fun at' => plI M (A at')
abbrev colL (M T : Nat) (A : Nat → Nat → Bool) : List (List Int) := tb M fun k => plI T fun at' => A at' k
abbrev tsD (l : List (List Int)) : D := .tup (l.map ti)
theorem check_tests_ok {M T : Nat} (hM : M ≤ 16) (hT : T ≤ 16) (A : Nat → Nat → Bool) : g_check_tests [.int (M : Int), tsD (testL M T A)] = some .non := by
  have a1 : (fLc (fList (fVar 1)) (bName 2) fYes (fNotV (fCall (lenG 2 g_is_part) (fCons (fVar 2) (fCons (fVar 0) fNil)))) [2] : Fn Unit (List D)) (startE 3 [.int (M : Int), tsD (testL M T A)]) () = some ((testL M T A).map fun _ => .bl false, ()) :=
    v_fLc (v_fList rfl rfl) (by rw [List.length_map, tb_len]; omega) (lcRun_map ti (fun _ => .bl false) (testL M T A) fun c hc => ⟨[some (.int (M : Int)), some (tsD (testL M T A)), some (ti c)], rfl, rfl, v_fNotV (c := true) (v_fCall (v_fCons rfl (v_fCons rfl v_fNil)) (v_lenG rfl (is_part_ok (n := (M : Int)) (by
      obtain ⟨k, _, rfl⟩ := List.mem_map.mp hc
      exact plI_ok (by omega) _))))⟩)
  have t1 : gIsiTuple (tsD (testL M T A)) = some (.bl true) := by
    unfold gIsiTuple
    rw [if_pos (okd_tis 58 _)]
  have t2 : (fTest (fOp gGt (fCall gLen (fCons (fVar 1) fNil)) (fC (.int 16))) : Fn Unit Bool) (startE 3 [.int (M : Int), tsD (testL M T A)]) () = some (false, ()) := by
    refine v_fTest (v_fOp (v_fCall (v_fCons rfl v_fNil) (gLen_tup _)) rfl ?_)
    rw [List.length_map, tb_len]
    show some (D.bl (decide ((16 : Int) < (T : Int)))) = _
    rw [decide_eq_false (by omega)]
  refine p_runPn rfl (v_seq (v_sIfF (s1 := ()) (p_fOrF (p_fNot (b := true) (v_fTest (v_fCall (d := .bl true) (v_fCons rfl v_fNil) (v_lenG rfl rfl)))) (p_fNot (b := true) (v_fTest (p_fChain rfl rfl (by show some (D.bl (decide ((0 : Int) ≤ (M : Int)))) = _; rw [decide_eq_true (by omega)]) rfl (by show some (D.bl (decide ((M : Int) ≤ 16))) = _; rw [decide_eq_true (by omega)]))))) p_sNext) (v_sIfF (s1 := ()) (p_fOrF (p_fNot (b := true) (v_fTest (v_fUn rfl t1))) (p_fOrF t2 (v_fTest (v_fCall (v_fCons (v_fL a1) v_fNil) (any_no (fun _ => D.bl false) (testL M T A) rfl (fun _ _ => rfl) fun _ _ => rfl))))) p_sNext))
theorem enum_tb (f : Nat → D) : ∀ (T a : Nat), enumD a ((List.range' a T).map f) = (List.range' a T).map fun k : Nat => .tup [.int (k : Int), f k]
  | 0, _ => rfl
  | T + 1, a => by
    rw [List.range'_succ, List.map_cons, List.map_cons, ← enum_tb f T (a + 1)]
    rfl
theorem columns_ok {M T : Nat} (hM : M ≤ 16) (hT : T ≤ 16) (A : Nat → Nat → Bool) : g_columns [.int (M : Int), tsD (testL M T A)] = some (tsD (colL M T A)) := by
  have en : ∀ x2 : Option D, (fEnumA (fCons (fVar 1) fNil) : Fn Unit (List D)) [some (.int (M : Int)), some (tsD (testL M T A)), x2, none, none] () = some ((List.range T).map (fun k : Nat => D.tup [.int (k : Int), ti (plI M (A k))]), ()) := fun x2 => by
    have c : (fCons (fVar 1) fNil : Fn Unit (List D)) [some (.int (M : Int)), some (tsD (testL M T A)), x2, none, none] () = some ([tsD (testL M T A)], ()) := v_fCons rfl v_fNil
    unfold fEnumA
    rw [c]
    show some (enumD 0 ((tb T fun k => plI M (A k)).map ti), ()) = _
    rw [List.map_map, List.range_eq_range', enum_tb]
    rfl
  have inner : ∀ k, k < M → lcRun (bTup (bsCons (bName 3) (bsCons (bName 4) bsNil))) (fTest (fOp gIn (fVar 2) (fVar 4))) (fVar 3) [some (.int (M : Int)), some (tsD (testL M T A)), some (.int (k : Int)), none, none] ((List.range T).map (fun k : Nat => D.tup [.int (k : Int), ti (plI M (A k))])) () = some (((List.range T).filter fun a => A a k).map (fun a : Nat => D.int (a : Int)), ()) := fun k hk =>
    lcRun_if (fun k : Nat => D.tup [.int (k : Int), ti (plI M (A k))]) (fun a : Nat => D.int (a : Int)) (fun a => A a k) (List.range T) fun a ha => ⟨[some (.int (M : Int)), some (tsD (testL M T A)), some (.int (k : Int)), some (.int (a : Int)), some (ti (plI M (A a)))], rfl, v_fTest (v_fOp rfl rfl (by rw [gIn_ti, hasI_plI hk])), fun _ => rfl⟩
  have outer : lcRun (bName 2) fYes (fCall gTuple (fCons (fL (fLc (fEnumA (fCons (fVar 1) fNil)) (bTup (bsCons (bName 3) (bsCons (bName 4) bsNil))) (fTest (fOp gIn (fVar 2) (fVar 4))) (fVar 3) [3, 4])) fNil)) [some (.int (M : Int)), some (tsD (testL M T A)), none, none, none] ((List.range M).map fun k : Nat => D.int (k : Int)) () = some ((List.range M).map (fun k => ti (plI T fun a => A a k)), ()) :=
    lcRun_map (fun k : Nat => D.int (k : Int)) (fun k => ti (plI T fun a => A a k)) (List.range M) fun k hk => by
      refine ⟨[some (.int (M : Int)), some (tsD (testL M T A)), some (.int (k : Int)), none, none], rfl, rfl, v_fCall (g := gTuple) (v_fCons (v_fL (v_fLc (vs := [3, 4]) (en _) (by rw [List.length_map, List.length_range]; omega) (inner k (List.mem_range.mp hk)))) v_fNil) ?_⟩
      show some (D.tup _) = some (D.tup ((plI T fun a => A a k).map D.int))
      unfold plI
      rw [List.map_map]
      rfl
  refine v_runP rfl (v_sRet (v_fCall (g := gTuple) (d := tsD (colL M T A)) (v_fCons (v_fL (v_fLc (vs := [2]) ?_ (by rw [List.length_map, List.length_range]; omega) outer)) v_fNil) (by
    show some (D.tup _) = some (D.tup ((tb M _).map ti))
    rw [List.map_map]
    rfl)))
  exact rng_n0 (by omega) rfl
theorem any_bl (l : List Int) (f : Int → Bool) : gAny [.lst (l.map fun x => D.bl (f x))] = some (.bl (l.any f)) := by
  have e : truDs (l.map fun x => D.bl (f x)) = some (l.map f) := by
    induction l with
    | nil => rfl
    | cons x l ih => simp only [List.map_cons, truDs, ih]; rfl
  have o : D.okds 60 (l.map fun x => D.bl (f x)) = true := okds_map 60 _ l fun _ _ => rfl
  simp only [gAny, items, e, o, if_true, List.any_map]
  rfl
theorem all_bl (l : List Int) (f : Int → Bool) : gAll [.lst (l.map fun x => D.bl (f x))] = some (.bl (l.all f)) := by
  have e : truDs (l.map fun x => D.bl (f x)) = some (l.map f) := by
    induction l with
    | nil => rfl
    | cons x l ih => simp only [List.map_cons, truDs, ih]; rfl
  have o : D.okds 60 (l.map fun x => D.bl (f x)) = true := okds_map 60 _ l fun _ _ => rfl
  simp only [gAll, items, e, o, if_true, List.all_map]
  rfl
abbrev outB (A : Nat → Nat → Bool) (P : List Int) (a : Nat) : Bool := P.any fun x => A a x.toNat
theorem outcome_ok {M T : Nat} (hT : T ≤ 16) (A : Nat → Nat → Bool) {P : List Int} (hP : ∀ x ∈ P, 0 ≤ x ∧ x < (M : Int)) (hl : P.length ≤ 1000) : g_outcome [tsD (testL M T A), ti P] = some (.tup (tb T fun a => bi (outB A P a))) := by
  have inner : ∀ a, lcRun (bName 3) fYes (fOp gIn (fVar 3) (fVar 2)) [some (tsD (testL M T A)), some (ti P), some (ti (plI M (A a))), none] (P.map D.int) () = some (P.map (fun x => D.bl (A a x.toNat)), ()) := fun a =>
    lcRun_map D.int (fun x => D.bl (A a x.toNat)) P fun x hx => by
      obtain ⟨k, rfl⟩ : ∃ k : Nat, x = k := ⟨x.toNat, by have := (hP x hx).1; omega⟩
      refine ⟨[some (tsD (testL M T A)), some (ti P), some (ti (plI M (A a))), some (.int (k : Int))], rfl, rfl, v_fOp rfl rfl ?_⟩
      rw [gIn_ti, hasI_plI (by have := (hP (k : Int) hx).2; omega)]
      rfl
  have outer : lcRun (bName 2) fYes (fIf (fTest (fCall gAny (fCons (fL (fLc (fList (fVar 1)) (bName 3) fYes (fOp gIn (fVar 3) (fVar 2)) [3])) fNil))) (fC (.int 1)) (fC (.int 0))) [some (tsD (testL M T A)), some (ti P), none, none] ((List.range T).map fun a => ti (plI M (A a))) () = some ((List.range T).map (fun a => bi (outB A P a)), ()) :=
    lcRun_map (fun a => ti (plI M (A a))) (fun a => bi (outB A P a)) (List.range T) fun a _ => by
      refine ⟨[some (tsD (testL M T A)), some (ti P), some (ti (plI M (A a))), none], rfl, rfl, ?_⟩
      have t : (fTest (fCall gAny (fCons (fL (fLc (fList (fVar 1)) (bName 3) fYes (fOp gIn (fVar 3) (fVar 2)) [3])) fNil)) : Fn Unit Bool) [some (tsD (testL M T A)), some (ti P), some (ti (plI M (A a))), none] () = some (outB A P a, ()) := v_fTest (v_fCall (v_fCons (v_fL (v_fLc (vs := [3]) (v_fList rfl rfl) (by rw [List.length_map]; omega) (inner a))) v_fNil) (any_bl P fun x => A a x.toNat))
      cases q : outB A P a with
      | true => rw [q] at t; exact v_fIfT t rfl
      | false => rw [q] at t; exact v_fIfF t rfl
  refine v_runP rfl (v_sRet (v_fCall (g := gTuple) (v_fCons (v_fL (v_fLc (vs := [2]) (v_fList rfl ?_) (by rw [List.length_map, List.length_range]; omega) outer)) v_fNil) rfl))
  show some ((tb T fun a => plI M (A a)).map ti) = _
  rw [List.map_map]
  rfl
end Lawk57
namespace Lawk57
open PySem PyProof.Rows L2 SL
/-! parts -/
theorem next_len (items : List Int) : ∀ layer : List (List Int), (nextL items layer).length ≤ layer.length * items.length
  | [] => by simp [nextL]
  | r :: l => by
    have ih := next_len items l
    unfold nextL at ih ⊢
    rw [List.flatMap_cons, List.length_append, List.length_map, List.length_cons, Nat.succ_mul]
    have := List.length_filter_le (fun x => okI' r x) items
    omega
theorem layer_len (items : List Int) : ∀ n, (layerN items n).length ≤ items.length ^ n
  | 0 => Nat.le_refl _
  | n + 1 => Nat.le_trans (next_len items _) (by rw [Nat.pow_succ]; exact Nat.mul_le_mul_right _ (layer_len items n))
theorem ix_last {r : List Int} (h : r ≠ []) : gIx (ti r) (.int (-1)) = some (.int (lastI r)) := by
  rcases List.eq_nil_or_concat r with e | ⟨r', z, e⟩
  · exact absurd e h
  · rw [List.concat_eq_append] at e
    subst e
    show atD ((r' ++ [z]).map D.int) (-1) = _
    unfold atD lastI
    have e1 : ixD ((r' ++ [z]).map D.int).length (-1) = some r'.length := by
      unfold ixD
      rw [List.length_map, List.length_append, List.length_cons, List.length_nil]
      rw [if_neg (by omega), if_pos (by omega)]
      congr 1
      omega
    rw [e1, List.getLastD_concat]
    show ((r' ++ [z]).map D.int)[r'.length]? = _
    rw [List.getElem?_map, List.getElem?_append_right (Nat.le_refl _), Nat.sub_self]
    rfl
theorem add_ti {r s : List Int} (h : r.length + s.length ≤ 1000) : gAdd (ti r) (ti s) = some (ti (r ++ s)) := by
  show (if (r.map D.int).length + (s.map D.int).length ≤ 100000 then some (D.tup (r.map D.int ++ s.map D.int)) else none) = _
  rw [if_pos (by rw [List.length_map, List.length_map]; omega), ← List.map_append]
abbrev lsT (l : List (List Int)) : D := .lst (l.map ti)
abbrev teP : Fn Unit Bool := fOr (fNot (fTru (fVar 5))) (fTest (fOp gGt (fVar 6) (fOp gIx (fVar 5) (fUn gNeg (fC (.int 1))))))
theorem test_part {a0 a1 a2 a3 a4 : Option D} {r : List Int} {x : Int} (hr : r.length ≤ 1000) : teP [a0, a1, a2, a3, a4, some (ti r), some (.int x)] () = some (okI' r x, ()) := by
  have tr : truD (ti r) = some (!r.isEmpty) := by
    show (if (r.map D.int).length ≤ 100000 then some (!(r.map D.int).isEmpty) else none) = _
    rw [if_pos (by rw [List.length_map]; omega)]
    cases r <;> rfl
  have t := v_fTru (fa := fVar 5) (env := [a0, a1, a2, a3, a4, some (ti r), some (.int x)]) (s := ()) (s1 := ()) rfl tr
  unfold okI'
  cases r with
  | nil => exact p_fOrT (p_fNot t)
  | cons y r =>
    refine p_fOrF (p_fNot t) (v_fTest (v_fOp (y := .int (lastI (y :: r))) rfl (v_fOp rfl rfl (ix_last nofun)) ?_))
    rfl
theorem v_fLc2 {S : Type} {fi : Fn S (List D)} {b : Bd} {ft : Fn S Bool} {fi1 : Fn S (List D)} {b1 : Bd} {ft1 : Fn S Bool} {fe : Fn S D} {vs vs1 : List Nat} {env : SL.Env} {s s1 s2 : S} {xs ds : List D} (h : fi env s = some (xs, s1)) (k : lc2Run b ft fi1 vs1 b1 ft1 fe (wipeE env vs) xs s1 = some (ds, s2)) (hl : ds.length ≤ 100000) : fLc2 fi b ft fi1 b1 ft1 fe vs vs1 env s = some (ds, s2) := by
  simp only [fLc2, h, k, if_pos hl]
theorem parts_one {items : List Int} (hi : items.length ≤ 16) {a1 a2 a4 : Option D} {layer : List (List Int)} (hl : layer.length ≤ 4096) (hr : ∀ r ∈ layer, r.length ≤ 900) : (fL (fLc2 (fList (fVar 3)) (bName 5) fYes (fList (fVar 0)) (bName 6) teP (fOp gAdd (fVar 5) (fTup (fCons (fVar 6) fNil))) [5, 6] [6]) : Fn Unit D) [some (.lst (items.map D.int)), a1, a2, some (lsT layer), a4, none, none] () = some (lsT (nextL items layer), ()) := by
  have run : lc2Run (bName 5) fYes (fList (fVar 0)) [6] (bName 6) teP (fOp gAdd (fVar 5) (fTup (fCons (fVar 6) fNil))) [some (.lst (items.map D.int)), a1, a2, some (lsT layer), a4, none, none] (layer.map ti) () = some (layer.flatMap (fun r => (items.filter fun x => okI' r x).map fun x => ti (r ++ [x])), ()) :=
    lc2_map ti _ layer fun r h => ⟨[some (.lst (items.map D.int)), a1, a2, some (lsT layer), a4, some (ti r), none], items.map D.int, rfl, rfl, v_fList rfl rfl,
      lcRun_if D.int (fun x => ti (r ++ [x])) (fun x => okI' r x) items fun x _ => ⟨[some (.lst (items.map D.int)), a1, a2, some (lsT layer), a4, some (ti r), some (.int x)], rfl, test_part (by have := hr r h; omega), fun _ => v_fOp (y := ti [x]) rfl (v_fTup (v_fCons rfl v_fNil) (by simp)) (add_ti (by have := hr r h; simp only [List.length_cons, List.length_nil]; omega))⟩⟩
  have e : layer.flatMap (fun r => (items.filter fun x => okI' r x).map fun x => ti (r ++ [x])) = (nextL items layer).map ti := by
    unfold nextL
    rw [List.map_flatMap]
    congr 1
    funext r
    rw [List.map_map]
    rfl
  rw [e] at run
  have nl := next_len items layer
  have : layer.length * items.length ≤ 4096 * 16 := Nat.mul_le_mul hl hi
  exact v_fL (v_fLc2 (v_fList (x := lsT layer) rfl rfl) run (by rw [List.length_map]; omega))
theorem parts_for {items : List Int} (hi : items.length ≤ 16) {a1 : Option D} : ∀ (k i : Nat) (x4 : Option D), i + k ≤ 3 → ∃ y4, forRun (bName 4) (sSeq (sAsg (fL (fLc2 (fList (fVar 3)) (bName 5) fYes (fList (fVar 0)) (bName 6) teP (fOp gAdd (fVar 5) (fTup (fCons (fVar 6) fNil))) [5, 6] [6])) (bName 3)) (sAsg (fL (fCatL (fVar 2) (fVar 3))) (bName 2))) ((List.range' i k).map fun j : Nat => D.int (j : Int)) [some (.lst (items.map D.int)), a1, some (lsT (partsN items i)), some (lsT (layerN items i)), x4, none, none] () = some (.nx [some (.lst (items.map D.int)), a1, some (lsT (partsN items (i + k))), some (lsT (layerN items (i + k))), y4, none, none], ()) := by
  intro k
  induction k with
  | zero => intro i x4 _; exact ⟨x4, rfl⟩
  | succ k ih =>
    intro i x4 h
    obtain ⟨y4, e⟩ := ih (i + 1) (some (.int (i : Int))) (by omega)
    have pl : ∀ j, j ≤ 3 → (layerN items j).length ≤ 4096 := fun j hj => by
      refine Nat.le_trans (layer_len items j) (Nat.le_trans (Nat.pow_le_pow_left hi j) (Nat.pow_le_pow_right (by decide) hj))
    have pp : ∀ j, j ≤ 3 → (partsN items j).length ≤ 4096 * (j + 1) := by
      intro j
      induction j with
      | zero => intro _; show 1 ≤ 4096; decide
      | succ j ih => intro hj; have := ih (by omega); have := pl (j + 1) hj; rw [partsN, List.length_append]; omega
    have h1 := pl (i + 1) (by omega)
    have h2 := pp i (by omega)
    refine ⟨y4, ?_⟩
    rw [List.range'_succ, List.map_cons]
    rw [show i + (k + 1) = i + 1 + k by omega]
    refine p_forCons (e := [some (.lst (items.map D.int)), a1, some (lsT (partsN items i)), some (lsT (layerN items i)), some (.int (i : Int)), none, none]) rfl (v_seq (v_sAsg (parts_one hi (pl i (by omega)) fun r hr => by have := (mem_layer.mp hr).1; omega) rfl) (v_sAsg (x := lsT (partsN items (i + 1))) (v_fL (v_fCatL (xs := (partsN items i).map ti) (ys := (layerN items (i + 1)).map ti) rfl rfl (by rw [List.length_map, List.length_map]; omega)) |>.trans ?_) rfl)) e
    show some (D.lst ((partsN items i).map ti ++ (layerN items (i + 1)).map ti), ()) = _
    rw [← List.map_append]
    rfl
theorem parts_ok {items : List Int} (hi : items.length ≤ 16) {most : Nat} (hm : most ≤ 3) : g_parts [.lst (items.map D.int), .int (most : Int)] = some (lsT (partsN items most)) := by
  obtain ⟨y4, e⟩ := parts_for hi (a1 := some (.int (most : Int))) most 0 none (by omega)
  rw [Nat.zero_add, ← List.range_eq_range'] at e
  exact v_runP rfl (v_seq (v_sAsg (x := lsT [[]]) rfl rfl) (v_seq (v_sAsg (x := lsT [[]]) rfl rfl) (v_seq (v_sFor (rng_i (i := 1) (by omega) rfl) e) (v_sRet rfl))))
end Lawk57
namespace Lawk57
open PySem PyProof.Rows L2 SL
theorem ix_tup {n k : Nat} (f : Nat → List Int) (h : k < n) : gIx (tsD (tb n f)) (.int (k : Int)) = some (ti (f k)) := by
  show atD ((tb n f).map ti) (k : Int) = _
  unfold atD
  rw [ixD_n (by rw [List.length_map, tb_len]; exact h)]
  show ((tb n f).map ti)[k]? = _
  rw [List.getElem?_map, List.getElem?_map, List.getElem?_range h]
  rfl
def covB (T : Nat) (A : Nat → Nat → Bool) (k : Nat) (P : List Int) : Bool := (plI T fun a => A a k).all fun x => P.any fun o => A x.toNat o.toNat
abbrev apartD : D := .tup [.str (Str.ofString "apart")]
abbrev covD (k : Nat) (P : List Int) : D := .tup [.str (Str.ofString "covered"), .int (k : Int), ti P]
abbrev eC (M T : Nat) (A : Nat → Nat → Bool) (x2 x4 x5 x6 x7 : Option D) : SL.Env := [some (.int (M : Int)), some (tsD (testL M T A)), x2, some (tsD (colL M T A)), x4, x5, x6, x7]
abbrev teC : Fn Unit Bool := fTest (fCall gAll (fCons (fL (fLc (fList (fOp gIx (fVar 3) (fVar 4))) (bName 7) fYes (fCall gAny (fCons (fL (fLc (fList (fVar 5)) (bName 6) fYes (fOp gIn (fVar 7) (fOp gIx (fVar 3) (fVar 6))) [6])) fNil)) [7])) fNil))
theorem test_cov {M T : Nat} (hT : T ≤ 16) (A : Nat → Nat → Bool) {x2 : Option D} {k : Nat} (hk : k < M) {P : List Int} (hP : ∀ x ∈ P, 0 ≤ x ∧ x < (M : Int)) (hl : P.length ≤ 3) : teC (eC M T A x2 (some (.int (k : Int))) (some (ti P)) none none) () = some (covB T A k P, ()) := by
  have inner : ∀ a : Nat, a < T → lcRun (bName 6) fYes (fOp gIn (fVar 7) (fOp gIx (fVar 3) (fVar 6))) (eC M T A x2 (some (.int (k : Int))) (some (ti P)) none (some (.int (a : Int)))) (P.map D.int) () = some (P.map (fun o => D.bl (A a o.toNat)), ()) := fun a ha =>
    lcRun_map D.int (fun o => D.bl (A a o.toNat)) P fun o ho => by
      obtain ⟨j, rfl⟩ : ∃ j : Nat, o = j := ⟨o.toNat, by have := (hP o ho).1; omega⟩
      have jM : j < M := by have := (hP (j : Int) ho).2; omega
      refine ⟨eC M T A x2 (some (.int (k : Int))) (some (ti P)) (some (.int (j : Int))) (some (.int (a : Int))), rfl, rfl, v_fOp rfl (v_fOp rfl rfl (ix_tup _ jM)) ?_⟩
      rw [gIn_ti, hasI_plI ha]
      rfl
  have outer : lcRun (bName 7) fYes (fCall gAny (fCons (fL (fLc (fList (fVar 5)) (bName 6) fYes (fOp gIn (fVar 7) (fOp gIx (fVar 3) (fVar 6))) [6])) fNil)) (eC M T A x2 (some (.int (k : Int))) (some (ti P)) none none) ((plI T fun a => A a k).map D.int) () = some ((plI T fun a => A a k).map (fun x => D.bl (P.any fun o => A x.toNat o.toNat)), ()) :=
    lcRun_map D.int (fun x => D.bl (P.any fun o => A x.toNat o.toNat)) _ fun x hx => by
      obtain ⟨a, rfl, ha, _⟩ := mem_plI.mp hx
      exact ⟨eC M T A x2 (some (.int (k : Int))) (some (ti P)) none (some (.int (a : Int))), rfl, rfl, v_fCall (v_fCons (v_fL (v_fLc (vs := [6]) (v_fList rfl rfl) (by rw [List.length_map]; omega) (inner a ha))) v_fNil) (any_bl P fun o => A a o.toNat)⟩
  have pl := (plI_ok (n := T) (by omega) fun a => A a k).2.2
  exact v_fTest (v_fCall (v_fCons (v_fL (v_fLc (vs := [7]) (v_fList (x := ti (plI T fun a => A a k)) (v_fOp rfl rfl (ix_tup _ hk)) rfl) (by rw [List.length_map]; omega) outer)) v_fNil) (all_bl (plI T fun a => A a k) fun x => P.any fun o => A x.toNat o.toNat))
theorem p_forRt {S : Type} {b : Bd} {f : Stm S} {x : D} {xs : List D} {env e : SL.Env} {s s1 : S} {d : D} (h1 : b env x = some e) (h2 : f e s = some (.rt d, s1)) : forRun b f (x :: xs) env s = some (.rt d, s1) := by
  simp only [forRun, h1, h2]
abbrev bdC : Stm Unit := sIf teC (sRet (fTup (fCons (fC (.str (Str.ofString "covered"))) (fCons (fVar 4) (fCons (fVar 5) fNil))))) sNext
theorem cov_in {M T : Nat} (hT : T ≤ 16) (A : Nat → Nat → Bool) {x2 : Option D} {k : Nat} (hk : k < M) : ∀ (l : List (List Int)) (x5 : Option D), (∀ P ∈ l, (∀ x ∈ P, 0 ≤ x ∧ x < (M : Int)) ∧ P.length ≤ 3) →
    ((∀ P ∈ l, covB T A k P = false) ∧ ∃ y5, forRun (bName 5) bdC (l.map ti) (eC M T A x2 (some (.int (k : Int))) x5 none none) () = some (.nx (eC M T A x2 (some (.int (k : Int))) y5 none none), ())) ∨
    (∃ P ∈ l, covB T A k P = true ∧ forRun (bName 5) bdC (l.map ti) (eC M T A x2 (some (.int (k : Int))) x5 none none) () = some (.rt (covD k P), ())) := by
  intro l
  induction l with
  | nil => intro x5 _; exact .inl ⟨nofun, x5, rfl⟩
  | cons P l ih =>
    intro x5 h
    obtain ⟨hP, hl⟩ := h P (List.mem_cons_self ..)
    have t := test_cov hT A (x2 := x2) hk hP hl
    cases q : covB T A k P with
    | true =>
      rw [q] at t
      exact .inr ⟨P, List.mem_cons_self .., q, p_forRt (e := eC M T A x2 (some (.int (k : Int))) (some (ti P)) none none) rfl (v_sIfT t (v_sRet (v_fTup (v_fCons rfl (v_fCons rfl (v_fCons rfl v_fNil))) (by simp))))⟩
    | false =>
      rw [q] at t
      have st : bdC (eC M T A x2 (some (.int (k : Int))) (some (ti P)) none none) () = some (.nx (eC M T A x2 (some (.int (k : Int))) (some (ti P)) none none), ()) := v_sIfF (s1 := ()) t p_sNext
      rcases ih (some (ti P)) (fun P' h' => h P' (List.mem_cons_of_mem _ h')) with ⟨h1, y5, e⟩ | ⟨P', h1, h2, e⟩
      · refine .inl ⟨fun P' h' => ?_, y5, p_forCons rfl st e⟩
        rcases List.mem_cons.mp h' with rfl | h'
        · exact q
        · exact h1 P' h'
      · exact .inr ⟨P', List.mem_cons_of_mem _ h1, h2, p_forCons rfl st e⟩
abbrev othI (M k : Nat) : List Int := plI M fun j => !Nat.beq j k
theorem oth_run {M T : Nat} (hM : M ≤ 16) (A : Nat → Nat → Bool) {x2 x5 : Option D} {k : Nat} : (fL (fLc (fRng1 (fCons (fVar 0) fNil)) (bName 6) (fTest (fOp gNe (fVar 6) (fVar 4))) (fVar 6) [6]) : Fn Unit D) (eC M T A x2 (some (.int (k : Int))) x5 none none) () = some (.lst ((othI M k).map D.int), ()) := by
  have r : lcRun (bName 6) (fTest (fOp gNe (fVar 6) (fVar 4))) (fVar 6) (eC M T A x2 (some (.int (k : Int))) x5 none none) ((List.range M).map fun j : Nat => D.int (j : Int)) () = some (((List.range M).filter fun j => !Nat.beq j k).map (fun j : Nat => D.int (j : Int)), ()) :=
    lcRun_if (fun j : Nat => D.int (j : Int)) (fun j : Nat => D.int (j : Int)) (fun j => !Nat.beq j k) (List.range M) fun j _ => by
      refine ⟨eC M T A x2 (some (.int (k : Int))) x5 (some (.int (j : Int))) none, rfl, v_fTest (v_fOp rfl rfl ?_), fun _ => rfl⟩
      show some (D.bl (!((j : Int) == (k : Int)))) = _
      congr 3
      cases q : Nat.beq j k with
      | true => rw [Nat.eq_of_beq_eq_true q]; simp
      | false =>
        refine beq_eq_false_iff_ne.mpr fun e => ?_
        have : j = k := by omega
        rw [this, Nat.beq_refl] at q
        cases q
  have := v_fL (v_fLc (vs := [6]) (rng_n0 (env := eC M T A x2 (some (.int (k : Int))) x5 none none) (s := ()) (by omega) rfl) (by rw [List.length_map, List.length_range]; omega) r)
  rw [this]
  unfold othI plI
  rw [List.map_map]
  rfl
theorem oth_ok {M k : Nat} (hM : M ≤ 16) {most : Nat} (hm : most ≤ 3) : ∀ P ∈ partsN (othI M k) most, (∀ x ∈ P, 0 ≤ x ∧ x < (M : Int)) ∧ P.length ≤ 3 := fun P hP => by
  obtain ⟨h1, _, h3⟩ := mem_parts.mp hP
  refine ⟨fun x hx => ?_, by omega⟩
  obtain ⟨j, rfl, hj, _⟩ := mem_plI.mp (h3 x hx)
  omega
def unCov (M T : Nat) (A : Nat → Nat → Bool) (most : Nat) : Prop := ∀ k, k < M → ∀ P ∈ partsN (othI M k) most, covB T A k P = false
theorem pl16 {n : Nat} (h : n ≤ 16) (f : Nat → Bool) : (plI n f).length ≤ 16 := by
  unfold plI
  rw [List.length_map]
  exact Nat.le_trans (List.length_filter_le _ _) (by rw [List.length_range]; exact h)
abbrev bdO : Stm Unit := sFor (fList (fCall (lenG 2 g_parts) (fCons (fL (fLc (fRng1 (fCons (fVar 0) fNil)) (bName 6) (fTest (fOp gNe (fVar 6) (fVar 4))) (fVar 6) [6])) (fCons (fVar 2) fNil)))) (bName 5) bdC
theorem cov_out {M T : Nat} (hM : M ≤ 16) (hT : T ≤ 16) (A : Nat → Nat → Bool) {most : Nat} (hm : most ≤ 3) : ∀ (l : List Nat) (x4 x5 : Option D), (∀ k ∈ l, k < M) →
    ((∀ k ∈ l, ∀ P ∈ partsN (othI M k) most, covB T A k P = false) ∧ ∃ y4 y5, forRun (bName 4) bdO (l.map fun k : Nat => D.int (k : Int)) (eC M T A (some (.int (most : Int))) x4 x5 none none) () = some (.nx (eC M T A (some (.int (most : Int))) y4 y5 none none), ())) ∨
    (∃ k ∈ l, ∃ P ∈ partsN (othI M k) most, covB T A k P = true ∧ forRun (bName 4) bdO (l.map fun k : Nat => D.int (k : Int)) (eC M T A (some (.int (most : Int))) x4 x5 none none) () = some (.rt (covD k P), ())) := by
  intro l
  induction l with
  | nil => intro x4 x5 _; exact .inl ⟨nofun, x4, x5, rfl⟩
  | cons k l ih =>
    intro x4 x5 h
    have hk := h k (List.mem_cons_self ..)
    have it : (fList (fCall (lenG 2 g_parts) (fCons (fL (fLc (fRng1 (fCons (fVar 0) fNil)) (bName 6) (fTest (fOp gNe (fVar 6) (fVar 4))) (fVar 6) [6])) (fCons (fVar 2) fNil))) : Fn Unit (List D)) (eC M T A (some (.int (most : Int))) (some (.int (k : Int))) x5 none none) () = some ((partsN (othI M k) most).map ti, ()) :=
      v_fList (v_fCall (v_fCons (oth_run hM A) (v_fCons rfl v_fNil)) (v_lenG rfl (parts_ok (pl16 hM _) hm))) rfl
    rcases cov_in hT A (x2 := some (.int (most : Int))) hk (partsN (othI M k) most) x5 (oth_ok hM hm) with ⟨h1, y5, e⟩ | ⟨P, hP, h2, e⟩
    · have st : bdO (eC M T A (some (.int (most : Int))) (some (.int (k : Int))) x5 none none) () = some (.nx (eC M T A (some (.int (most : Int))) (some (.int (k : Int))) y5 none none), ()) := v_sFor it e
      rcases ih (some (.int (k : Int))) y5 (fun k' h' => h k' (List.mem_cons_of_mem _ h')) with ⟨h3, z4, z5, e2⟩ | ⟨k', hk', P, hP, h3, e2⟩
      · refine .inl ⟨fun k' h' => ?_, z4, z5, p_forCons rfl st e2⟩
        rcases List.mem_cons.mp h' with rfl | h'
        · exact h1
        · exact h3 k' h'
      · exact .inr ⟨k', List.mem_cons_of_mem _ hk', P, hP, h3, p_forCons rfl st e2⟩
    · exact .inr ⟨k, List.mem_cons_self .., P, hP, h2, p_forRt (e := eC M T A (some (.int (most : Int))) (some (.int (k : Int))) x5 none none) rfl (v_sFor it e)⟩
theorem cover_ok {M T : Nat} (hM : M ≤ 16) (hT : T ≤ 16) (A : Nat → Nat → Bool) {most : Nat} (hm : most ≤ 3) :
    (unCov M T A most ∧ g_cover_paper [.int (M : Int), tsD (testL M T A), .int (most : Int)] = some apartD) ∨
    (¬ unCov M T A most ∧ ∃ k P, g_cover_paper [.int (M : Int), tsD (testL M T A), .int (most : Int)] = some (covD k P)) := by
  have s1 : (sDrop (fCall (lenG 2 g_check_tests) (fCons (fVar 0) (fCons (fVar 1) fNil))) : Stm Unit) (startE 8 [.int (M : Int), tsD (testL M T A), .int (most : Int)]) () = some (.nx (startE 8 [.int (M : Int), tsD (testL M T A), .int (most : Int)]), ()) := p_sDrop (v_fCall (v_fCons rfl (v_fCons rfl v_fNil)) (v_lenG rfl (check_tests_ok hM hT A)))
  have s2 : (sIf (fOr (fNot (fTest (fCall (lenG 1 g_is_integer) (fCons (fVar 2) fNil)))) (fNot (fTest (fChain gLe gLe (fC (.int 0)) (fVar 2) (fC (.int 3)))))) sNever sNext : Stm Unit) (startE 8 [.int (M : Int), tsD (testL M T A), .int (most : Int)]) () = some (.nx (startE 8 [.int (M : Int), tsD (testL M T A), .int (most : Int)]), ()) :=
    v_sIfF (s1 := ()) (p_fOrF (p_fNot (b := true) (v_fTest (v_fCall (d := .bl true) (v_fCons rfl v_fNil) (v_lenG rfl rfl)))) (p_fNot (b := true) (v_fTest (p_fChain rfl rfl (by show some (D.bl (decide ((0 : Int) ≤ (most : Int)))) = _; rw [decide_eq_true (by omega)]) rfl (by show some (D.bl (decide ((most : Int) ≤ 3))) = _; rw [decide_eq_true (by omega)]))))) p_sNext
  have s3 : (sAsg (fCall (lenG 2 g_columns) (fCons (fVar 0) (fCons (fVar 1) fNil))) (bName 3) : Stm Unit) (startE 8 [.int (M : Int), tsD (testL M T A), .int (most : Int)]) () = some (.nx (eC M T A (some (.int (most : Int))) none none none none), ()) := v_sAsg (v_fCall (v_fCons rfl (v_fCons rfl v_fNil)) (v_lenG rfl (columns_ok hM hT A))) rfl
  have rg : (fRng1 (fCons (fVar 0) fNil) : Fn Unit (List D)) (eC M T A (some (.int (most : Int))) none none none none) () = some ((List.range M).map fun j : Nat => D.int (j : Int), ()) := rng_n0 (by omega) rfl
  rcases cov_out hM hT A hm (List.range M) none none (fun k hk => List.mem_range.mp hk) with ⟨h, y4, y5, e⟩ | ⟨k, hk, P, hP, h, e⟩
  · exact .inl ⟨fun k hk => h k (List.mem_range.mpr hk), v_runP rfl (v_seq s1 (v_seq s2 (v_seq s3 (v_seq (v_sFor rg e) (v_sRet rfl)))))⟩
  · refine .inr ⟨fun u => ?_, k, P, v_runP rfl (v_seq s1 (v_seq s2 (v_seq s3 (v_seqR (v_sFor rg e)))))⟩
    rw [u k (List.mem_range.mp hk) P hP] at h
    cases h
end Lawk57
namespace Lawk57
open PySem PyProof.Rows L2 SL
/-! told_by -/
theorem zip_tb (f g : Nat → D) : ∀ l : List Nat, zipD (l.map f) (l.map g) = l.map fun k => .tup [f k, g k]
  | [] => rfl
  | x :: l => congrArg (List.cons _) (zip_tb f g l)
theorem told_ok {M T : Nat} (hM : M ≤ 16) (hT : T ≤ 16) (A : Nat → Nat → Bool) (g : Nat → Bool) : g_told_by [.int (M : Int), tsD (testL M T A), .tup (tb T fun a => bi (g a))] = some (ti (plI M fun k => !((List.range T).filter fun a => !g a).any fun a => A a k)) := by
  have s1 : (sDrop (fCall (lenG 2 g_check_tests) (fCons (fVar 0) (fCons (fVar 1) fNil))) : Stm Unit) (startE 7 [.int (M : Int), tsD (testL M T A), .tup (tb T fun a => bi (g a))]) () = some (.nx (startE 7 [.int (M : Int), tsD (testL M T A), .tup (tb T fun a => bi (g a))]), ()) := p_sDrop (v_fCall (v_fCons rfl (v_fCons rfl v_fNil)) (v_lenG rfl (check_tests_ok hM hT A)))
  have zp : (fZip (fCons (fVar 1) (fCons (fVar 2) fNil)) : Fn Unit (List D)) (startE 7 [.int (M : Int), tsD (testL M T A), .tup (tb T fun a => bi (g a))]) () = some ((List.range T).map (fun a => D.tup [ti (plI M (A a)), bi (g a)]), ()) := by
    have e : zipD ((testL M T A).map ti) (tb T fun a => bi (g a)) = (List.range T).map (fun a => D.tup [ti (plI M (A a)), bi (g a)]) := by
      rw [List.map_map]
      exact zip_tb _ _ _
    rw [← e]
    exact v_fZip (v_fCons rfl (v_fCons rfl v_fNil))
  have r1 : lcRun (bTup (bsCons (bName 4) (bsCons (bName 5) bsNil))) (fTest (fOp gEq (fVar 5) (fC (.int 0)))) (fVar 4) (startE 7 [.int (M : Int), tsD (testL M T A), .tup (tb T fun a => bi (g a))]) ((List.range T).map (fun a => D.tup [ti (plI M (A a)), bi (g a)])) () = some (((List.range T).filter fun a => !g a).map (fun a => ti (plI M (A a))), ()) :=
    lcRun_if (fun a => D.tup [ti (plI M (A a)), bi (g a)]) (fun a => ti (plI M (A a))) (fun a => !g a) (List.range T) fun a _ => by
      refine ⟨[some (.int (M : Int)), some (tsD (testL M T A)), some (.tup (tb T fun a => bi (g a))), none, some (ti (plI M (A a))), some (bi (g a)), none], rfl, v_fTest (v_fOp (x := bi (g a)) rfl rfl ?_), fun _ => rfl⟩
      cases g a <;> rfl
  let C : List D := ((List.range T).filter fun a => !g a).map (fun a => ti (plI M (A a)))
  have hC : C.length ≤ 16 := by
    have := List.length_filter_le (fun a => !g a) (List.range T)
    rw [List.length_range] at this
    show (List.map _ _).length ≤ 16
    rw [List.length_map]
    omega
  have q1 : (sAsg (fL (fLc (fZip (fCons (fVar 1) (fCons (fVar 2) fNil))) (bTup (bsCons (bName 4) (bsCons (bName 5) bsNil))) (fTest (fOp gEq (fVar 5) (fC (.int 0)))) (fVar 4) [4, 5])) (bName 3) : Stm Unit) (startE 7 [.int (M : Int), tsD (testL M T A), .tup (tb T fun a => bi (g a))]) () = some (.nx [some (.int (M : Int)), some (tsD (testL M T A)), some (.tup (tb T fun a => bi (g a))), some (.lst C), none, none, none], ()) :=
    v_sAsg (v_fL (v_fLc (vs := [4, 5]) zp (by rw [List.length_map, List.length_range]; omega) r1)) rfl
  have inner : ∀ k, k < M → (fTest (fCall gAny (fCons (fL (fLc (fList (fVar 3)) (bName 4) fYes (fOp gIn (fVar 6) (fVar 4)) [4])) fNil)) : Fn Unit Bool) [some (.int (M : Int)), some (tsD (testL M T A)), some (.tup (tb T fun a => bi (g a))), some (.lst C), none, none, some (.int (k : Int))] () = some (((List.range T).filter fun a => !g a).any (fun a => A a k), ()) := fun k hk => by
    have r : lcRun (bName 4) fYes (fOp gIn (fVar 6) (fVar 4)) [some (.int (M : Int)), some (tsD (testL M T A)), some (.tup (tb T fun a => bi (g a))), some (.lst C), none, none, some (.int (k : Int))] C () = some (((List.range T).filter fun a => !g a).map (fun a => D.bl (A a k)), ()) :=
      lcRun_map (fun a => ti (plI M (A a))) (fun a => D.bl (A a k)) _ fun a _ => ⟨[some (.int (M : Int)), some (tsD (testL M T A)), some (.tup (tb T fun a => bi (g a))), some (.lst C), some (ti (plI M (A a))), none, some (.int (k : Int))], rfl, rfl, v_fOp rfl rfl (by rw [gIn_ti, hasI_plI hk])⟩
    refine v_fTest (v_fCall (v_fCons (v_fL (v_fLc (vs := [4]) (v_fList (x := .lst C) rfl rfl) (by omega) r)) v_fNil) ?_)
    generalize (List.range T).filter (fun a => !g a) = l
    have e : truDs (l.map fun a => D.bl (A a k)) = some (l.map fun a => A a k) := by
      induction l with
      | nil => rfl
      | cons x l ih => simp only [List.map_cons, truDs, ih]; rfl
    have o : D.okds 60 (l.map fun a => D.bl (A a k)) = true := okds_map 60 _ l fun _ _ => rfl
    simp only [gAny, items, e, o, if_true, List.any_map]
    rfl
  have r2 : lcRun (bName 6) (fNot (fTest (fCall gAny (fCons (fL (fLc (fList (fVar 3)) (bName 4) fYes (fOp gIn (fVar 6) (fVar 4)) [4])) fNil)))) (fVar 6) [some (.int (M : Int)), some (tsD (testL M T A)), some (.tup (tb T fun a => bi (g a))), some (.lst C), none, none, none] ((List.range M).map fun j : Nat => D.int (j : Int)) () = some (((List.range M).filter fun k => !((List.range T).filter fun a => !g a).any fun a => A a k).map (fun j : Nat => D.int (j : Int)), ()) :=
    lcRun_if (fun j : Nat => D.int (j : Int)) (fun j : Nat => D.int (j : Int)) (fun k => !((List.range T).filter fun a => !g a).any fun a => A a k) (List.range M) fun k hk => ⟨[some (.int (M : Int)), some (tsD (testL M T A)), some (.tup (tb T fun a => bi (g a))), some (.lst C), none, none, some (.int (k : Int))], rfl, p_fNot (inner k (List.mem_range.mp hk)), fun _ => rfl⟩
  refine v_runP rfl (v_seq s1 (v_seq q1 (v_sRet (v_fCall (g := gTuple) (v_fCons (v_fL (v_fLc (vs := [6]) (rng_n0 (by omega) rfl) (by rw [List.length_map, List.length_range]; omega) r2)) v_fNil) ?_))))
  show some (D.tup _) = some (D.tup ((plI M _).map D.int))
  unfold plI
  rw [List.map_map]
  rfl
/-! same_paper -/
abbrev keyP (T : Nat) (A : Nat → Nat → Bool) (P : List Int) : D := .tup (tb T fun a => bi (outB A P a))
theorem isKey_P (T : Nat) (A : Nat → Nat → Bool) (P : List Int) : isKey true (keyP T A P) = true := by
  show (tb T fun a => bi (outB A P a)).all isAtom = true
  rw [List.all_map]
  exact List.all_eq_true.mpr fun a _ => rfl
theorem dHas_no {k : D} : ∀ {ks : List D}, k ∉ ks → dHas k ks = false
  | [], _ => rfl
  | x :: ks, h => by
    rw [List.mem_cons, not_or] at h
    unfold dHas
    rw [dHas_no h.2, Bool.or_false]
    cases q : D.same x k with
    | false => rfl
    | true => exact absurd (D.same_eq q).symm h.1
abbrev bdS : Stm Unit := (sSeq (sAsg (fCall (lenG 2 g_outcome) (fCons (fVar 1) (fCons (fVar 4) fNil))) (bName 5))
    (sSeq (sIf (fTest (fDIn false (fVar 5) (fVarB 3))) (sLock 3 (sRet (fTup (fCons (fC (.str (Str.ofString "same"))) (fCons (fDGet (fVar 3) (fVar 5)) (fCons (fVar 4) fNil))))))
    sNext)
    (sDPutS 3 (fVar 5) (fVar 4))))
theorem same_turn {M T : Nat} (hT : T ≤ 16) (A : Nat → Nat → Bool) {x2 x5 : Option D} {P : List Int} (hP : ∀ x ∈ P, 0 ≤ x ∧ x < (M : Int)) (hl : P.length ≤ 3) {ks ds : List D} (hk : keyP T A P ∉ ks) (kl : ks.length < 100000) : bdS [some (.int (M : Int)), some (tsD (testL M T A)), x2, some (.odk true ks ds), some (ti P), x5] () = some (.nx [some (.int (M : Int)), some (tsD (testL M T A)), x2, some (.odk true (ks ++ [keyP T A P]) (ds ++ [ti P])), some (ti P), some (keyP T A P)], ()) := by
  have s1 : (sAsg (fCall (lenG 2 g_outcome) (fCons (fVar 1) (fCons (fVar 4) fNil))) (bName 5) : Stm Unit) [some (.int (M : Int)), some (tsD (testL M T A)), x2, some (.odk true ks ds), some (ti P), x5] () = some (.nx [some (.int (M : Int)), some (tsD (testL M T A)), x2, some (.odk true ks ds), some (ti P), some (keyP T A P)], ()) := v_sAsg (v_fCall (v_fCons rfl (v_fCons rfl v_fNil)) (v_lenG rfl (outcome_ok hT A hP (by omega)))) rfl
  have v5 : (fVar 5 : Fn Unit D) [some (.int (M : Int)), some (tsD (testL M T A)), x2, some (.odk true ks ds), some (ti P), some (keyP T A P)] () = some (keyP T A P, ()) := rfl
  have v4 : (fVar 4 : Fn Unit D) [some (.int (M : Int)), some (tsD (testL M T A)), x2, some (.odk true ks ds), some (ti P), some (keyP T A P)] () = some (ti P, ()) := rfl
  have v3 : (fVarB 3 : Fn Unit D) [some (.int (M : Int)), some (tsD (testL M T A)), x2, some (.odk true ks ds), some (ti P), some (keyP T A P)] () = some (.dic false true ks ds, ()) := rfl
  have t : (fTest (fDIn false (fVar 5) (fVarB 3)) : Fn Unit Bool) [some (.int (M : Int)), some (tsD (testL M T A)), x2, some (.odk true ks ds), some (ti P), some (keyP T A P)] () = some (false, ()) := by
    refine v_fTest ?_
    unfold fDIn
    simp only [v5, v3, isKey_P, if_true, dHas_no hk]
    rfl
  have p : (sDPutS 3 (fVar 5) (fVar 4) : Stm Unit) [some (.int (M : Int)), some (tsD (testL M T A)), x2, some (.odk true ks ds), some (ti P), some (keyP T A P)] () = some (.nx [some (.int (M : Int)), some (tsD (testL M T A)), x2, some (.odk true (ks ++ [keyP T A P]) (ds ++ [ti P])), some (ti P), some (keyP T A P)], ()) := by
    have e3 : ([some (.int (M : Int)), some (tsD (testL M T A)), x2, some (.odk true ks ds), some (ti P), some (keyP T A P)] : SL.Env)[3]? = some (some (.odk true ks ds)) := rfl
    have dp : dPut (keyP T A P) (ti P) true ks ds = .odk true (ks ++ [keyP T A P]) (ds ++ [ti P]) := by
      unfold dPut
      rw [dHas_no hk]
      rfl
    unfold sDPutS
    simp only [v5, v4, e3, isKey_P, dp]
    rw [decide_eq_true kl]
    rfl
  exact v_seq s1 (v_seq (v_sIfF (s1 := ()) t p_sNext) p)
theorem same_run {M T : Nat} (hT : T ≤ 16) (A : Nat → Nat → Bool) {x2 : Option D} : ∀ (l : List (List Int)) (ks ds : List D) (x4 x5 : Option D), (∀ P ∈ l, (∀ x ∈ P, 0 ≤ x ∧ x < (M : Int)) ∧ P.length ≤ 3) → (∀ P ∈ l, keyP T A P ∉ ks) → l.Pairwise (fun P Q => keyP T A P ≠ keyP T A Q) → ks.length + l.length ≤ 50000 →
    ∃ e, forRun (bName 4) bdS (l.map ti) [some (.int (M : Int)), some (tsD (testL M T A)), x2, some (.odk true ks ds), x4, x5] () = some (.nx e, ()) := by
  intro l
  induction l with
  | nil => intro ks ds x4 x5 _ _ _ _; exact ⟨_, rfl⟩
  | cons P l ih =>
    intro ks ds x4 x5 h hk pw hl
    rw [List.length_cons] at hl
    have pw := List.pairwise_cons.mp pw
    obtain ⟨hP, hPl⟩ := h P (List.mem_cons_self ..)
    have st := same_turn hT A (x2 := x2) (x5 := x5) hP hPl (ks := ks) (ds := ds) (hk P (List.mem_cons_self ..)) (by omega)
    obtain ⟨e, hE⟩ := ih (ks ++ [keyP T A P]) (ds ++ [ti P]) (some (ti P)) (some (keyP T A P)) (fun Q hQ => h Q (List.mem_cons_of_mem _ hQ)) (fun Q hQ hm => by
      rcases List.mem_append.mp hm with hm | hm
      · exact hk Q (List.mem_cons_of_mem _ hQ) hm
      · exact pw.1 Q hQ (List.mem_singleton.mp hm).symm) pw.2 (by rw [List.length_append]; simp only [List.length_cons, List.length_nil]; omega)
    exact ⟨e, p_forCons rfl st hE⟩
abbrev allI (M : Nat) : List Int := plI M fun _ => true
theorem allI_eq (M : Nat) : (allI M).map D.int = (List.range M).map fun j : Nat => D.int (j : Int) := by
  unfold allI plI
  rw [List.filter_eq_self.mpr fun _ _ => rfl, List.map_map]
  rfl
theorem same_ok {M T : Nat} (hM : M ≤ 16) (hT : T ≤ 16) (A : Nat → Nat → Bool) {most : Nat} (hm : most ≤ 3) (h : (partsN (allI M) most).Pairwise fun P Q => keyP T A P ≠ keyP T A Q) (hl : (partsN (allI M) most).length ≤ 50000) : g_same_paper [.int (M : Int), tsD (testL M T A), .int (most : Int)] = some (.tup [.str (Str.ofString "told")]) := by
  have s1 : (sDrop (fCall (lenG 2 g_check_tests) (fCons (fVar 0) (fCons (fVar 1) fNil))) : Stm Unit) (startE 6 [.int (M : Int), tsD (testL M T A), .int (most : Int)]) () = some (.nx (startE 6 [.int (M : Int), tsD (testL M T A), .int (most : Int)]), ()) := p_sDrop (v_fCall (v_fCons rfl (v_fCons rfl v_fNil)) (v_lenG rfl (check_tests_ok hM hT A)))
  have s2 : (sIf (fOr (fNot (fTest (fCall (lenG 1 g_is_integer) (fCons (fVar 2) fNil)))) (fNot (fTest (fChain gLe gLe (fC (.int 0)) (fVar 2) (fC (.int 3)))))) sNever sNext : Stm Unit) (startE 6 [.int (M : Int), tsD (testL M T A), .int (most : Int)]) () = some (.nx (startE 6 [.int (M : Int), tsD (testL M T A), .int (most : Int)]), ()) :=
    v_sIfF (s1 := ()) (p_fOrF (p_fNot (b := true) (v_fTest (v_fCall (d := .bl true) (v_fCons rfl v_fNil) (v_lenG rfl rfl)))) (p_fNot (b := true) (v_fTest (p_fChain rfl rfl (by show some (D.bl (decide ((0 : Int) ≤ (most : Int)))) = _; rw [decide_eq_true (by omega)]) rfl (by show some (D.bl (decide ((most : Int) ≤ 3))) = _; rw [decide_eq_true (by omega)]))))) p_sNext
  obtain ⟨e, hE⟩ := same_run (M := M) hT A (x2 := some (.int (most : Int))) (partsN (allI M) most) [] [] none none (fun P hP => by
    obtain ⟨h1, _, h3⟩ := mem_parts.mp hP
    refine ⟨fun x hx => ?_, by omega⟩
    obtain ⟨j, rfl, hj, _⟩ := mem_plI.mp (h3 x hx)
    omega) (fun _ _ => nofun) h (by simp only [List.length_nil]; omega)
  have rg : (fL (fRgv1 (fVar 0)) : Fn Unit D) [some (.int (M : Int)), some (tsD (testL M T A)), some (.int (most : Int)), some (.odk true [] []), none, none] () = some (.lst ((allI M).map D.int), ()) := by
    have v0 : (fVar 0 : Fn Unit D) [some (.int (M : Int)), some (tsD (testL M T A)), some (.int (most : Int)), some (.odk true [] []), none, none] () = some (.int (M : Int), ()) := rfl
    have rk : ∀ (k a : Nat), rangeD (a : Int) k = (List.range' a k).map fun j : Nat => D.int (j : Int) := by
      intro k
      induction k with
      | zero => intro a; rfl
      | succ k ih =>
        intro a
        rw [List.range'_succ, List.map_cons, ← ih (a + 1)]
        rfl
    refine v_fL ?_
    unfold fRgv1
    simp only [v0]
    have ok : rgOkB 0 (M : Int) = true := by
      unfold rgOkB okI
      rw [decide_eq_true (show -4611686018427387904 ≤ (M : Int) by omega), decide_eq_true (show (M : Int) < 4611686018427387904 by omega), decide_eq_true (show ((M : Int) - 0).toNat ≤ 100000 by omega)]
      rfl
    rw [if_pos ok, show ((M : Int) - 0).toNat = M by omega, allI_eq, List.range_eq_range', show (0 : Int) = ((0 : Nat) : Int) from rfl, rk]
  exact v_runP rfl (v_seq s1 (v_seq s2 (v_seq (e1 := [some (.int (M : Int)), some (tsD (testL M T A)), some (.int (most : Int)), some (.odk true [] []), none, none]) (s1 := ()) rfl (v_seq (v_sFor (v_fList (v_fCall (v_fCons rg (v_fCons rfl v_fNil)) (v_lenG rfl (parts_ok (pl16 hM _) hm))) rfl) hE) (v_sRet rfl)))))
end Lawk57
namespace Lawk57
open PySem PyProof.Rows L2 SL
/-! what columns share -/
def cnt (T : Nat) (A : Nat → Nat → Bool) (k o : Nat) : Nat := (plI T fun a => A a k && A a o).length
theorem cnt_sym (T : Nat) (A : Nat → Nat → Bool) (k o : Nat) : cnt T A k o = cnt T A o k := by
  unfold cnt
  congr 2
  funext a
  exact Bool.and_comm _ _
theorem filt_pl (T : Nat) (f g : Nat → Bool) : (plI T f).filter (fun x => g x.toNat) = plI T fun a => f a && g a := by
  unfold plI
  rw [List.filter_map, List.filter_filter]
  congr 1
  refine List.filter_congr fun a _ => ?_
  show (g a && f a) = (f a && g a)
  exact Bool.and_comm _ _
structure Few (M T : Nat) (A : Nat → Nat → Bool) (h s : Nat) : Prop where
  hi : ∀ k, k < M → (plI T fun a => A a k).length = h
  sh : ∀ k o, k < M → o < M → o ≠ k → cnt T A k o ≤ s
section
variable {M T : Nat} {A : Nat → Nat → Bool} {h s : Nat}
theorem Few.free (F : Few M T A h s) {k : Nat} (hk : k < M) {P : List Int} (hP : ∀ x ∈ P, ∃ j : Nat, x = j ∧ j < M ∧ j ≠ k) (lt : P.length * s < h) : ∃ a, a < T ∧ A a k = true ∧ ∀ o ∈ P, A a o.toNat = false := by
  obtain ⟨x, hx, hf⟩ := some_free (R := plI T fun a => A a k) (f := fun o x => A x.toNat o.toNat) (s := s) (P := P) (fun o ho => by
    obtain ⟨j, rfl, jM, jk⟩ := hP o ho
    have := F.sh k j hk jM jk
    unfold cnt at this
    rw [← filt_pl T (fun a => A a k) fun a => A a j] at this
    exact this) (by rw [F.hi k hk]; exact lt)
  obtain ⟨a, rfl, ha, hA⟩ := mem_plI.mp hx
  exact ⟨a, ha, hA, hf⟩
theorem Few.un (F : Few M T A h s) {most : Nat} (lt : most * s < h) : unCov M T A most := fun k hk P hP => by
  obtain ⟨h1, _, h3⟩ := mem_parts.mp hP
  obtain ⟨a, ha, hA, hf⟩ := F.free hk (P := P) (fun x hx => by
    obtain ⟨j, rfl, hj, ne⟩ := mem_plI.mp (h3 x hx)
    refine ⟨j, rfl, hj, fun e => ?_⟩
    rw [e, Nat.beq_refl] at ne
    cases ne) (Nat.lt_of_le_of_lt (Nat.mul_le_mul_right s h1) lt)
  unfold covB
  refine List.all_eq_false.mpr ⟨(a : Int), mem_plI.mpr ⟨a, rfl, ha, hA⟩, fun q => ?_⟩
  obtain ⟨o, ho, e⟩ := List.any_eq_true.mp q
  rw [show ((a : Int)).toNat = a from rfl, hf o ho] at e
  cases e
theorem un_sub {most : Nat} (U : unCov M T A most) {P Q : List Int} (hP : P ∈ partsN (allI M) most) (hQ : Q ∈ partsN (allI M) most) (e : ∀ a, a < T → outB A P a = outB A Q a) : ∀ x ∈ P, x ∈ Q := fun x hx => by
  refine Classical.byContradiction fun nx => ?_
  obtain ⟨_, _, p3⟩ := mem_parts.mp hP
  obtain ⟨q1, q2, q3⟩ := mem_parts.mp hQ
  obtain ⟨j, rfl, hj, _⟩ := mem_plI.mp (p3 x hx)
  have c := U j hj Q (mem_parts.mpr ⟨q1, q2, fun y hy => by
    obtain ⟨i, rfl, hi, _⟩ := mem_plI.mp (q3 y hy)
    refine mem_plI.mpr ⟨i, rfl, hi, ?_⟩
    cases z : Nat.beq i j with
    | false => rfl
    | true => exact absurd (by rw [Nat.eq_of_beq_eq_true z] at hy; exact hy) nx⟩)
  have c2 : covB T A j Q = true := List.all_eq_true.mpr fun z hz => by
    obtain ⟨a, rfl, ha, hA⟩ := mem_plI.mp hz
    have : outB A P a = true := List.any_eq_true.mpr ⟨(j : Int), hx, hA⟩
    rw [e a ha] at this
    exact this
  rw [c2] at c
  cases c
theorem bi_inj {a b : Bool} (h : bi a = bi b) : a = b := by
  cases a <;> cases b <;> first | rfl | (cases h)
theorem key_out {P Q : List Int} (h : keyP T A P = keyP T A Q) : ∀ a, a < T → outB A P a = outB A Q a := fun a ha => by
  have h : tb T (fun a => bi (outB A P a)) = tb T fun a => bi (outB A Q a) := by injection h
  have := List.map_inj_left.mp h a (List.mem_range.mpr ha)
  exact bi_inj this
theorem un_keys {most : Nat} (U : unCov M T A most) : (partsN (allI M) most).Pairwise fun P Q => keyP T A P ≠ keyP T A Q :=
  (nodup_parts (asc_plI M _ |>.imp fun h => Int.ne_of_lt h) most).imp_of_mem fun {P Q} hP hQ ne e => ne (by
    have o := key_out e
    exact asc_eq P Q (mem_parts.mp hP).2.1 (mem_parts.mp hQ).2.1 fun x => ⟨un_sub U hP hQ o x, un_sub U hQ hP (fun a ha => (o a ha).symm) x⟩)
theorem Few.told (F : Few M T A h s) {B : List Int} (bA : Asc B) (bM : ∀ x ∈ B, ∃ j : Nat, x = j ∧ j < M) (lt : B.length * s < h) : (plI M fun k => !((List.range T).filter fun a => !outB A B a).any fun a => A a k) = B := by
  refine asc_eq _ _ (asc_plI _ _) bA fun x => ⟨fun hx => ?_, fun hx => ?_⟩
  · obtain ⟨k, rfl, hk, e⟩ := mem_plI.mp hx
    refine Classical.byContradiction fun nx => ?_
    obtain ⟨a, ha, hA, hf⟩ := F.free hk (P := B) (fun y hy => by
      obtain ⟨j, rfl, hj⟩ := bM y hy
      exact ⟨j, rfl, hj, fun e => nx (by rw [← e]; exact hy)⟩) lt
    have : (((List.range T).filter fun a => !outB A B a).any fun a => A a k) = true := List.any_eq_true.mpr ⟨a, List.mem_filter.mpr ⟨List.mem_range.mpr ha, by
      have : outB A B a = false := by
        cases q : outB A B a with
        | false => rfl
        | true =>
          obtain ⟨o, ho, e⟩ := List.any_eq_true.mp q
          rw [hf o ho] at e
          cases e
      rw [this]
      rfl⟩, hA⟩
    rw [this] at e
    cases e
  · obtain ⟨j, rfl, hj⟩ := bM x hx
    refine mem_plI.mpr ⟨j, rfl, hj, ?_⟩
    have : (((List.range T).filter fun a => !outB A B a).any fun a => A a j) = false := by
      refine List.any_eq_false.mpr fun a ha => ?_
      obtain ⟨_, h2⟩ := List.mem_filter.mp ha
      intro hA
      have : outB A B a = true := List.any_eq_true.mpr ⟨(j : Int), hx, hA⟩
      rw [this] at h2
      cases h2
    rw [this]
    rfl
/-! the greatest number of shared tests -/
def shN (M T : Nat) (A : Nat → Nat → Bool) : Nat := mxN (tb M fun k => mxN (tb k fun j => cnt T A k j))
theorem sh_le {k o : Nat} (hk : k < M) (ho : o < k) : cnt T A k o ≤ shN M T A :=
  Nat.le_trans (le_mxN (List.mem_map.mpr ⟨o, List.mem_range.mpr ho, rfl⟩)) (le_mxN (l := tb M fun k => mxN (tb k fun j => cnt T A k j)) (List.mem_map.mpr ⟨k, List.mem_range.mpr hk, rfl⟩))
theorem few_of (hi : ∀ k, k < M → (plI T fun a => A a k).length = h) : Few M T A h (shN M T A) := ⟨hi, fun k o hk ho ne => by
  rcases Nat.lt_or_gt_of_ne ne with l | l
  · exact sh_le hk l
  · rw [cnt_sym]
    exact sh_le ho l⟩
theorem sh_at (h0 : 0 < h) (e : shN M T A = h) : ∃ k j, k < M ∧ j < k ∧ cnt T A k j = h := by
  unfold shN at e
  rcases mxN_mem (tb M fun k => mxN (tb k fun j => cnt T A k j)) with z | z
  · omega
  · rw [e] at z
    obtain ⟨k, hk, ek⟩ := List.mem_map.mp z
    rcases mxN_mem (tb k fun j => cnt T A k j) with y | y
    · omega
    · rw [ek] at y
      obtain ⟨j, hj, ej⟩ := List.mem_map.mp y
      exact ⟨k, j, List.mem_range.mp hk, List.mem_range.mp hj, ej⟩
theorem not_un (hi : ∀ k, k < M → (plI T fun a => A a k).length = h) (h0 : 0 < h) (e : shN M T A = h) : ¬ unCov M T A 1 := fun U => by
  obtain ⟨k, j, hk, hj, c⟩ := sh_at h0 e
  have u := U k hk [(j : Int)] (mem_parts.mpr ⟨Nat.le_refl _, List.pairwise_singleton _ _, fun x hx => by
    rw [List.mem_singleton.mp hx]
    refine mem_plI.mpr ⟨j, rfl, by omega, ?_⟩
    cases z : Nat.beq j k with
    | false => rfl
    | true => have := Nat.eq_of_beq_eq_true z; omega⟩)
  have l : ((plI T fun a => A a k).filter fun x => A x.toNat j).length = (plI T fun a => A a k).length := by
    rw [filt_pl T (fun a => A a k) fun a => A a j, hi k hk]
    exact c
  have all := List.length_filter_eq_length_iff.mp l
  have : covB T A k [(j : Int)] = true := List.all_eq_true.mpr fun x hx => by
    rw [List.any_cons, List.any_nil, Bool.or_false]
    exact all x hx
  rw [this] at u
  cases u
end
end Lawk57
namespace Lawk57
open PySem PyProof.Rows L2 SL
/-! shuffled lists -/
theorem cut_perm : ∀ (l : List Int) (i : Nat) (v : Int), l[i]? = some v → (v :: l.eraseIdx i).Perm l
  | x :: l, 0, v, h => by cases h; exact List.Perm.refl _
  | x :: l, i + 1, v, h => ((List.Perm.swap x v _).trans ((cut_perm l i v h).cons x))
theorem shuf_run : ∀ (k a : Nat) (ns : List Int) (m : Int) (s : DS), InvD s → ns.length = k → k ≤ 1000 →
    ∃ (js : List Int) (s' : DS), lcRun (bName 3) fYes (fPopS g__law_take 2 0) [some (.tok 0), some (.int m), some (.tok 2), none] ((List.range' a k).map fun j : Nat => D.int (j : Int)) (s, ns) = some (js.map D.int, (s', [])) ∧ InvD s' ∧ js.Perm ns
  | 0, a, ns, m, s, i, hl, _ => by
    rw [List.eq_nil_of_length_eq_zero hl]
    exact ⟨[], s, rfl, i, List.Perm.nil⟩
  | k + 1, a, ns, m, s, i, hl, hk => by
    obtain ⟨r, s1, e, r1, i1⟩ := take2 i ns.length (by omega) (by omega)
    have hv : ns[r]? = some ns[r] := List.getElem?_eq_getElem r1
    obtain ⟨js, s2, e2, i2, p⟩ := shuf_run k (a + 1) (ns.eraseIdx r) m s1 i1 (by rw [List.length_eraseIdx, if_pos r1, hl]; rfl) (by omega)
    refine ⟨ns[r] :: js, s2, ?_, i2, (p.cons _).trans (cut_perm ns r _ hv)⟩
    have pg : popG g__law_take (s, ns) = some (.int ns[r], s1, ns.eraseIdx r) := by
      unfold popG
      rw [e]
      show (if 0 ≤ (r : Int) ∧ ns.length ≤ 100000 then match ns[((r : Int)).toNat]? with
        | some v => some (D.int v, s1, ns.eraseIdx ((r : Int)).toNat)
        | none => none else none) = _
      rw [if_pos ⟨by omega, by omega⟩, show ((r : Int)).toNat = r from rfl, hv]
    have one : fPopS g__law_take 2 0 [some (.tok 0), some (.int m), some (.tok 2), some (.int (a : Int))] (s, ns) = some (.int ns[r], s1, ns.eraseIdx r) := by
      show (if (isTok2 (some (some (.tok 2))) && isTok0 (some (some (.tok 0)))) = true then popG g__law_take (s, ns) else none) = _
      rw [pg]
      rfl
    rw [List.range'_succ, List.map_cons]
    have b : bName 3 [some (.tok 0), some (.int m), some (.tok 2), none] (.int (a : Int)) = some [some (.tok 0), some (.int m), some (.tok 2), some (.int (a : Int))] := rfl
    simp only [lcRun, b, fYes, one, e2, List.map_cons]
theorem rk0 : ∀ (k a : Nat), rangeD (a : Int) k = (List.range' a k).map fun j : Nat => D.int (j : Int) := by
  intro k
  induction k with
  | zero => intro a; rfl
  | succ k ih =>
    intro a
    rw [List.range'_succ, List.map_cons, ← ih (a + 1)]
    rfl
abbrev feS : Fn (DS × List Int) D := fCall gTuple (fCons (fL (fLc (fRng1 (fCons (fVar 1) fNil)) (bName 3) fYes (fPopS g__law_take 2 0) [3])) fNil)
theorem sShuf_ok {fe : Fn (DS × List Int) D} {m : Int} {ns js : List Int} {x : Option D} {s : DS} {s1 : DS × List Int} (h : fe [some (.tok 0), some (.int m), some (.tok 2), none] (s, ns) = some (ti js, s1)) : sShuf fe [some (.tok 0), some (.int m), some (.own (ns.map D.int)), x] s = some (.rt (ti js), s1.1) := by
  unfold sShuf
  simp only [intsOf_ints, h]
theorem shuf_rg {n : Nat} (hn : n ≤ 1000) (s : DS) : (fRgv1 (fVar 1) : Fn DS (List D)) [some (.tok 0), some (.int (n : Int)), none, none] s = some ((allI n).map D.int, s) := by
  have v : (fVar 1 : Fn DS D) [some (.tok 0), some (.int (n : Int)), none, none] s = some (.int (n : Int), s) := rfl
  unfold fRgv1
  simp only [v]
  have ok : rgOkB 0 (n : Int) = true := by
    unfold rgOkB okI
    rw [decide_eq_true (show -4611686018427387904 ≤ (n : Int) by omega), decide_eq_true (show (n : Int) < 4611686018427387904 by omega), decide_eq_true (show ((n : Int) - 0).toNat ≤ 100000 by omega)]
    rfl
  rw [if_pos ok, show ((n : Int) - 0).toNat = n by omega, allI_eq, List.range_eq_range', show (0 : Int) = ((0 : Nat) : Int) from rfl, rk0]
theorem shuf_fe {n : Nat} (hn : n ≤ 1000) {s s' : DS} {ns js : List Int} (e : lcRun (bName 3) fYes (fPopS g__law_take 2 0) [some (.tok 0), some (.int (n : Int)), some (.tok 2), none] ((List.range n).map fun j : Nat => D.int (j : Int)) (s, ns) = some (js.map D.int, (s', []))) : feS [some (.tok 0), some (.int (n : Int)), some (.tok 2), none] (s, ns) = some (ti js, (s', [])) :=
  v_fCall (g := gTuple) (v_fCons (v_fL (v_fLc (vs := [3]) (rng_i (i := 1) hn rfl) (by rw [List.length_map, List.length_range]; omega) e)) v_fNil) rfl
theorem shuf_body {n : Nat} {s s' : DS} {ns js : List Int} (h1 : (fRgv1 (fVar 1) : Fn DS (List D)) [some (.tok 0), some (.int (n : Int)), none, none] s = some (ns.map D.int, s)) (h2 : feS [some (.tok 0), some (.int (n : Int)), some (.tok 2), none] (s, ns) = some (ti js, (s', []))) : b__law_shuffled [some (.tok 0), some (.int (n : Int)), none, none] s = some (.rt (ti js), s') :=
  v_seq (e1 := [some (.tok 0), some (.int (n : Int)), some (.own (ns.map D.int)), none]) (p_sOwn (i := 2) h1) (sShuf_ok h2)
theorem shuf_ok {n : Nat} (hn : n ≤ 1000) {s : DS} (i : InvD s) : ∃ (js : List Int) (s' : DS), g__law_shuffled [.tok 0, .int (n : Int)] s = some (ti js, s') ∧ InvD s' ∧ js.Perm (allI n) := by
  have al : (allI n).length = n := by
    have := congrArg List.length (allI_eq n)
    rw [List.length_map, List.length_map, List.length_range] at this
    exact this
  obtain ⟨js, s', e, i', p⟩ := shuf_run n 0 (allI n) (n : Int) s i al hn
  rw [← List.range_eq_range'] at e
  have h1 := shuf_rg hn s
  generalize allI n = ns at *
  exact ⟨js, s', v_runS rfl (shuf_body h1 (shuf_fe hn e)), i', p⟩
/-! a row: an ascending set of h places below t -/
structure RowOk (t h : Nat) (r : List Int) : Prop where
  asc : Asc r
  len : r.length = h
  lt : ∀ x ∈ r, ∃ a : Nat, x = a ∧ a < t
theorem row_ok {t h : Nat} (ht : h ≤ t) {js : List Int} (p : js.Perm (allI t)) : RowOk t h (sortI (js.take h)) := by
  have nd : js.Nodup := p.nodup_iff.mpr (asc_plI t _ |>.imp fun h => Int.ne_of_lt h)
  have al : js.length = t := by
    have := congrArg List.length (allI_eq t)
    rw [List.length_map, List.length_map, List.length_range] at this
    exact p.length_eq.trans this
  refine ⟨asc_sort _ ((List.take_sublist h js).nodup nd), ?_, fun x hx => ?_⟩
  · rw [(sortI_perm _).length_eq, List.length_take]
    omega
  · have := List.mem_of_mem_take ((sortI_perm _).mem_iff.mp hx)
    obtain ⟨a, e, ha, _⟩ := mem_plI.mp (p.mem_iff.mp this)
    exact ⟨a, e, ha⟩
theorem cutT (xs : List D) (k : Nat) (h : k ≤ xs.length) : SL.cutD xs none (some (k : Int)) = xs.take k := by
  unfold SL.cutD
  rw [HT.sIx_nat, HT.sIx_none, Nat.min_eq_left h]
  simp
theorem v_fSortT {S : Type} {fa : Fn S D} {env : SL.Env} {s s1 : S} {xs : List Int} (h : fa env s = some (ti xs, s1)) : fSortA fa env s = some ((sortI xs).map D.int, s1) := by
  unfold fSortA
  rw [h]
  show (if sortOk (xs.map D.int) then some (sortD (xs.map D.int), s1) else none) = _
  rw [sortOk_ints, if_pos rfl, sortD_ints]
end Lawk57
namespace Lawk57
open PySem PyProof.Rows L2 SL
def q1 : Stm DS := (sAsg (fOp gAdd (fC (.int 1)) (fCallS (lenGS 2 g__law_take) (fCons (fVar 1) (fCons (fC (.int 7)) fNil)))) (bName 2))
def q2 : Stm DS := (sAsg (fOp gAdd (fC (.int 2)) (fCallS (lenGS 2 g__law_take) (fCons (fVar 1) (fCons (fC (.int 3)) fNil)))) (bName 3))
def q3 : Stm DS := (sAsg (fOp gAdd (fVar 3) (fCallS (lenGS 2 g__law_take) (fCons (fVar 1) (fCons (fC (.int 6)) fNil)))) (bName 4))
def q4 : Stm DS := (sOwn 5 (fLst fNil))
def q5 : Stm DS := (sFor (fRng1 (fCons (fVar 2) fNil)) (bName 6) (sApp 5 (fCall gTuple (fCons (fL (fSortA (fSl (fCallS (lenGS 2 g__law_shuffled) (fCons (fVar 1) (fCons (fVar 4) fNil))) fNoPart (fPart (fVar 3))))) fNil))))
def p1 : Stm DS := (sAsg (fCall gTuple (fCons (fL (fLc (fRng1 (fCons (fVar 4) fNil)) (bName 20) fYes (fCall gTuple (fCons (fL (fLc (fRng1 (fCons (fVar 2) fNil)) (bName 6) (fTest (fOp gIn (fVar 20) (fOp gIx (fVar 5) (fVar 6)))) (fVar 6) [6])) fNil)) [20])) fNil)) (bName 7))
def p2 : Stm DS := (sIf (fTest (fOp gNe (fCall (lenG 2 g_columns) (fCons (fVar 2) (fCons (fVar 7) fNil))) (fCall gTuple (fCons (fVar 5) fNil)))) (sRet (fC (.bl false)))
    sNext)
def p3 : Stm DS := (sAsg (fCall gMax1 (fCons (fL (fCatL (fL (fLst (fCons (fC (.int 0)) fNil))) (fL (fLc (fRng1 (fCons (fVar 2) fNil)) (bName 6) fYes (fCall gMax1 (fCons (fL (fCatL (fL (fLst (fCons (fC (.int 0)) fNil))) (fL (fLc (fRng1 (fCons (fVar 6) fNil)) (bName 21) fYes (fCall gLen (fCons (fL (fLc (fList (fOp gIx (fVar 5) (fVar 6))) (bName 20) (fTest (fOp gIn (fVar 20) (fOp gIx (fVar 5) (fVar 21)))) (fVar 20) [20])) fNil)) [21])))) fNil)) [6])))) fNil)) (bName 8))
def p4 : Stm DS := (sFor (fRng1 (fCons (fC (.int 4)) fNil)) (bName 9) (sSeq (sIf (fAnd (fTest (fOp gLt (fOp gMulX (fVar 9) (fVar 8)) (fVar 3))) (fTest (fOp gNe (fCall (lenG 3 g_cover_paper) (fCons (fVar 2) (fCons (fVar 7) (fCons (fVar 9) fNil)))) (fTup (fCons (fC (.str (Str.ofString "apart"))) fNil))))) (sRet (fC (.bl false)))
    sNext)
    (sIf (fAnd (fTest (fOp gEq (fCall (lenG 3 g_cover_paper) (fCons (fVar 2) (fCons (fVar 7) (fCons (fVar 9) fNil)))) (fTup (fCons (fC (.str (Str.ofString "apart"))) fNil)))) (fTest (fOp gNe (fCall (lenG 3 g_same_paper) (fCons (fVar 2) (fCons (fVar 7) (fCons (fVar 9) fNil)))) (fTup (fCons (fC (.str (Str.ofString "told"))) fNil))))) (sRet (fC (.bl false)))
    sNext)))
def p5 : Stm DS := (sIf (fAnd (fTest (fOp gEq (fVar 8) (fVar 3))) (fAnd (fTest (fOp gGt (fVar 2) (fC (.int 1)))) (fTest (fOp gEq (fCall (lenG 3 g_cover_paper) (fCons (fVar 2) (fCons (fVar 7) (fCons (fC (.int 1)) fNil)))) (fTup (fCons (fC (.str (Str.ofString "apart"))) fNil)))))) (sRet (fC (.bl false)))
    sNext)
def p6 : Stm DS := (sAsg (fCallS (lenGS 2 g__law_pick) (fCons (fVar 1) (fCons (fL (fLst (fCons (fTup (fCons (fC (.int 2)) (fCons (fC (.int 2)) fNil))) (fCons (fTup (fCons (fC (.int 3)) (fCons (fC (.int 1)) fNil))) (fCons (fTup (fCons (fC (.int 3)) (fCons (fC (.int 2)) fNil))) (fCons (fTup (fCons (fC (.int 4)) (fCons (fC (.int 2)) fNil))) (fCons (fTup (fCons (fC (.int 2)) (fCons (fC (.int 1)) fNil))) fNil))))))) fNil))) (bTup (bsCons (bName 10) (bsCons (bName 11) bsNil))))
def p7 : Stm DS := (sAsg (fMk g_Field (fCons (fVar 10) fNil)) (bName 12))
def p8 : Stm DS := (sAsg (fCall (lenG 2 g_square_tests) (fCons (fVar 12) (fCons (fVar 11) fNil))) (bTup (bsCons (bName 13) (bsCons (bName 7) bsNil))))
def p9 : Stm DS := (sAsg (fCall (lenG 2 g_reed_solomon) (fCons (fVar 10) (fCons (fVar 11) fNil))) (bTup (bsCons (bName 14) (bsCons (bName 15) bsNil))))
def p10 : Stm DS := (sAsg (fOp gIx (fCall (lenG 3 g_distance_paper) (fCons (fVar 12) (fCons (fVar 14) (fCons (fVar 15) fNil)))) (fC (.int 0))) (bName 16))
def p11 : Stm DS := (sAsg (fCall (lenG 2 g_columns) (fCons (fVar 13) (fCons (fVar 7) fNil))) (bName 17))
def p12 : Stm DS := (sIf (fTest (fCall gAny (fCons (fL (fLc (fList (fVar 17)) (bName 22) fYes (fOp gNe (fCall gLen (fCons (fVar 22) fNil)) (fVar 10)) [22])) fNil))) (sRet (fC (.bl false)))
    sNext)
def p13 : Stm DS := (sAsg (fCall gMax1 (fCons (fL (fLc (fRng1 (fCons (fVar 13) fNil)) (bName 6) fYes (fCall gMax1 (fCons (fL (fCatL (fL (fLst (fCons (fC (.int 0)) fNil))) (fL (fLc (fRng1 (fCons (fVar 6) fNil)) (bName 21) fYes (fCall gLen (fCons (fL (fLc (fList (fOp gIx (fVar 17) (fVar 6))) (bName 20) (fTest (fOp gIn (fVar 20) (fOp gIx (fVar 17) (fVar 21)))) (fVar 20) [20])) fNil)) [21])))) fNil)) [6])) fNil)) (bName 18))
def p14 : Stm DS := (sIf (fTest (fOp gNe (fVar 18) (fOp gSub (fVar 10) (fVar 16)))) (sRet (fC (.bl false)))
    sNext)
def p15 : Stm DS := (sAsg (fC (.int 0)) (bName 9))
def p16 : Stm DS := (sWhile (fAnd (fTest (fOp gLt (fVar 9) (fC (.int 3)))) (fTest (fOp gLt (fOp gMulX (fOp gAdd (fVar 9) (fC (.int 1))) (fVar 18)) (fVar 10)))) (sAsg (fOp gAdd (fVar 9) (fC (.int 1))) (bName 9)) 200)
def p17 : Stm DS := (sIf (fTest (fOp gNe (fCall (lenG 3 g_cover_paper) (fCons (fVar 13) (fCons (fVar 7) (fCons (fVar 9) fNil)))) (fTup (fCons (fC (.str (Str.ofString "apart"))) fNil)))) (sRet (fC (.bl false)))
    sNext)
def p18 : Stm DS := (sAsg (fCall gTuple (fCons (fL (fSortSet (fL (fLc (fRng1 (fCons (fCallS (lenGS 2 g__law_take) (fCons (fVar 1) (fCons (fOp gAdd (fVar 9) (fC (.int 1))) fNil))) fNil)) (bName 6) fYes (fCallS (lenGS 2 g__law_take) (fCons (fVar 1) (fCons (fVar 13) fNil))) [6])))) fNil)) (bName 19))
def p19 : Stm DS := (sRet (fOp gEq (fCall (lenG 3 g_told_by) (fCons (fVar 13) (fCons (fVar 7) (fCons (fCall (lenG 2 g_outcome) (fCons (fVar 7) (fCons (fVar 19) fNil))) fNil)))) (fVar 19)))
abbrev tail19 : Stm DS := p19
abbrev tail18 : Stm DS := sSeq p18 tail19
abbrev tail17 : Stm DS := sSeq p17 tail18
abbrev tail16 : Stm DS := sSeq p16 tail17
abbrev tail15 : Stm DS := sSeq p15 tail16
abbrev tail14 : Stm DS := sSeq p14 tail15
abbrev tail13 : Stm DS := sSeq p13 tail14
abbrev tail12 : Stm DS := sSeq p12 tail13
abbrev tail11 : Stm DS := sSeq p11 tail12
abbrev tail10 : Stm DS := sSeq p10 tail11
abbrev tail9 : Stm DS := sSeq p9 tail10
abbrev tail8 : Stm DS := sSeq p8 tail9
abbrev tail7 : Stm DS := sSeq p7 tail8
abbrev tail6 : Stm DS := sSeq p6 tail7
abbrev tail5 : Stm DS := sSeq p5 tail6
abbrev tail4 : Stm DS := sSeq p4 tail5
abbrev tail3 : Stm DS := sSeq p3 tail4
abbrev tail2 : Stm DS := sSeq p2 tail3
abbrev tail1 : Stm DS := sSeq p1 tail2
def q6 : Stm DS := freeze 5 tail1
abbrev rest6 : Stm DS := q6
abbrev rest5 : Stm DS := sSeq q5 rest6
abbrev rest4 : Stm DS := sSeq q4 rest5
abbrev rest3 : Stm DS := sSeq q3 rest4
abbrev rest2 : Stm DS := sSeq q2 rest3
abbrev rest1 : Stm DS := sSeq q1 rest2
theorem b_split : b_law = rest1 := rfl

abbrev eL (M h t : Nat) (x5 x6 x7 x8 x9 : Option D) : SL.Env := [none, some (.tok 0), some (.int (M : Int)), some (.int (h : Int)), some (.int (t : Int)), x5, x6, x7, x8, x9, none, none, none, none, none, none, none, none, none, none, none, none, none]
abbrev bdR : Stm DS := (sApp 5 (fCall gTuple (fCons (fL (fSortA (fSl (fCallS (lenGS 2 g__law_shuffled) (fCons (fVar 1) (fCons (fVar 4) fNil))) fNoPart (fPart (fVar 3))))) fNil)))
theorem row_turn {M h t : Nat} (ht : h ≤ t) (t9 : t ≤ 16) {x6 : Option D} {R : List (List Int)} {s : DS} (i : InvD s) (hl : R.length ≤ 1000) : ∃ (r : List Int) (s' : DS), bdR (eL M h t (some (.own (R.map ti))) x6 none none none) s = some (.nx (eL M h t (some (.own ((R ++ [r]).map ti))) x6 none none none), s') ∧ InvD s' ∧ RowOk t h r := by
  obtain ⟨js, s', e, i', p⟩ := shuf_ok (n := t) (by omega) i
  have jl : js.length = t := by
    have := congrArg List.length (allI_eq t)
    rw [List.length_map, List.length_map, List.length_range] at this
    exact p.length_eq.trans this
  refine ⟨sortI (js.take h), s', ?_, i', row_ok ht p⟩
  have sl : (fSl (fCallS (lenGS 2 g__law_shuffled) (fCons (fVar 1) (fCons (fVar 4) fNil))) fNoPart (fPart (fVar 3)) : Fn DS D) (eL M h t (some (.own (R.map ti))) x6 none none none) s = some (ti (js.take h), s') := by
    refine p_fSl (x := ti js) (l := none) (u := some (h : Int)) (v_fCallS (v_fCons rfl (v_fCons rfl v_fNil)) (v_lenGS rfl e)) rfl rfl ?_
    show some (D.tup (SL.cutD (js.map D.int) none (some (h : Int)))) = _
    rw [cutT _ _ (by rw [List.length_map]; omega), ← List.map_take]
  have tp := v_fCall (g := gTuple) (d := ti (sortI (js.take h))) (v_fCons (v_fL (v_fSortT sl)) (v_fNil (s := s'))) rfl
  rw [List.map_append]
  exact p_sApp tp rfl (by rw [List.length_map]; omega)
theorem rows_run {M h t : Nat} (ht : h ≤ t) (t9 : t ≤ 16) : ∀ (l : List D) (R : List (List Int)) (x6 : Option D) (s : DS), InvD s → (∀ r ∈ R, RowOk t h r) → R.length + l.length ≤ 1000 →
    ∃ (R' : List (List Int)) (x6' : Option D) (s' : DS), forRun (bName 6) bdR l (eL M h t (some (.own (R.map ti))) x6 none none none) s = some (.nx (eL M h t (some (.own (R'.map ti))) x6' none none none), s') ∧ InvD s' ∧ (∀ r ∈ R', RowOk t h r) ∧ R'.length = R.length + l.length := by
  intro l
  induction l with
  | nil => intro R x6 s i hR _; exact ⟨R, x6, s, rfl, i, hR, rfl⟩
  | cons d l ih =>
    intro R x6 s i hR hl
    rw [List.length_cons] at hl
    obtain ⟨r, s1, e, i1, hr⟩ := row_turn (M := M) ht t9 (x6 := some d) (R := R) i (by omega)
    obtain ⟨R', y6, s2, e2, i2, h2, l2⟩ := ih (R ++ [r]) (some d) s1 i1 (fun r' h' => by
      rcases List.mem_append.mp h' with h' | h'
      · exact hR r' h'
      · rw [List.mem_singleton.mp h']; exact hr) (by rw [List.length_append]; simp only [List.length_cons, List.length_nil]; omega)
    refine ⟨R', y6, s2, p_forCons (e := eL M h t (some (.own (R.map ti))) (some d) none none none) rfl e e2, i2, h2, ?_⟩
    rw [l2, List.length_append, List.length_cons]
    simp only [List.length_cons, List.length_nil]
    omega
/-! the matrix of the rows -/
def AR (R : List (List Int)) : Nat → Nat → Bool := fun a k => hasI (a : Int) (R.getD k [])
structure RowsOk (M h t : Nat) (R : List (List Int)) : Prop where
  len : R.length = M
  ok : ∀ r ∈ R, RowOk t h r
theorem RowsOk.row {M h t : Nat} {R : List (List Int)} (O : RowsOk M h t R) {k : Nat} (hk : k < M) : plI t (fun a => AR R a k) = R.getD k [] ∧ RowOk t h (R.getD k []) := by
  have hm : R.getD k [] ∈ R := by
    rw [List.getD_eq_getElem?_getD, List.getElem?_eq_getElem (by rw [O.len]; exact hk)]
    exact List.getElem_mem _
  have r := O.ok _ hm
  refine ⟨asc_eq _ _ (asc_plI _ _) r.asc fun x => ⟨fun hx => ?_, fun hx => ?_⟩, r⟩
  · obtain ⟨a, rfl, _, e⟩ := mem_plI.mp hx
    exact hasI_iff.mp e
  · obtain ⟨a, rfl, ha⟩ := r.lt x hx
    exact mem_plI.mpr ⟨a, rfl, ha, hasI_iff.mpr hx⟩
theorem getD_all : ∀ R : List (List Int), tb R.length (fun k => R.getD k []) = R
  | [] => rfl
  | r :: R => by
    rw [List.length_cons, tb_succ]
    exact congrArg (List.cons r) (getD_all R)
theorem RowsOk.cols {M h t : Nat} {R : List (List Int)} (O : RowsOk M h t R) : colL M t (AR R) = R := by
  have : colL M t (AR R) = tb M fun k => R.getD k [] := tb_congr fun k hk => (O.row hk).1
  rw [this, ← O.len, getD_all]
theorem RowsOk.hi {M h t : Nat} {R : List (List Int)} (O : RowsOk M h t R) : ∀ k, k < M → (plI t fun a => AR R a k).length = h := fun k hk => by
  obtain ⟨e, r⟩ := O.row hk
  rw [e, r.len]
theorem ix_lstT {R : List (List Int)} {k : Nat} (h : k < R.length) : gIx (lsT R) (.int (k : Int)) = some (ti (R.getD k [])) := by
  show atD (R.map ti) (k : Int) = _
  unfold atD
  rw [ixD_n (by rw [List.length_map]; exact h)]
  show (R.map ti)[k]? = _
  rw [List.getElem?_map, List.getD_eq_getElem?_getD, List.getElem?_eq_getElem h]
  rfl
theorem p1_run {M h t : Nat} (hM : M ≤ 16) (ht : t ≤ 16) {R : List (List Int)} (O : RowsOk M h t R) {x6 x7 x8 x9 : Option D} (s : DS) : p1 (eL M h t (some (lsT R)) x6 x7 x8 x9) s = some (.nx (eL M h t (some (lsT R)) x6 (some (tsD (testL M t (AR R)))) x8 x9), s) := by
  have inner : ∀ a : Nat, a < t → lcRun (bName 6) (fTest (fOp gIn (fVar 20) (fOp gIx (fVar 5) (fVar 6)))) (fVar 6) [none, some (.tok 0), some (.int (M : Int)), some (.int (h : Int)), some (.int (t : Int)), some (lsT R), none, x7, x8, x9, none, none, none, none, none, none, none, none, none, none, some (.int (a : Int)), none, none] ((List.range M).map fun j : Nat => D.int (j : Int)) s = some (((List.range M).filter fun k => AR R a k).map (fun j : Nat => D.int (j : Int)), s) := fun a ha =>
    lcRun_if (fun j : Nat => D.int (j : Int)) (fun j : Nat => D.int (j : Int)) (fun k => AR R a k) (List.range M) fun k hk => ⟨[none, some (.tok 0), some (.int (M : Int)), some (.int (h : Int)), some (.int (t : Int)), some (lsT R), some (.int (k : Int)), x7, x8, x9, none, none, none, none, none, none, none, none, none, none, some (.int (a : Int)), none, none], rfl, v_fTest (v_fOp rfl (v_fOp rfl rfl (ix_lstT (by rw [O.len]; exact List.mem_range.mp hk))) (gIn_ti _ _)), fun _ => rfl⟩
  have outer : lcRun (bName 20) fYes (fCall gTuple (fCons (fL (fLc (fRng1 (fCons (fVar 2) fNil)) (bName 6) (fTest (fOp gIn (fVar 20) (fOp gIx (fVar 5) (fVar 6)))) (fVar 6) [6])) fNil)) (eL M h t (some (lsT R)) x6 x7 x8 x9) ((List.range t).map fun j : Nat => D.int (j : Int)) s = some ((List.range t).map (fun a => ti (plI M (AR R a))), s) :=
    lcRun_map (fun j : Nat => D.int (j : Int)) (fun a => ti (plI M (AR R a))) (List.range t) fun a ha => by
      refine ⟨[none, some (.tok 0), some (.int (M : Int)), some (.int (h : Int)), some (.int (t : Int)), some (lsT R), x6, x7, x8, x9, none, none, none, none, none, none, none, none, none, none, some (.int (a : Int)), none, none], rfl, rfl, v_fCall (g := gTuple) (v_fCons (v_fL (v_fLc (vs := [6]) (rng_i (i := 2) (by omega) rfl) (by rw [List.length_map, List.length_range]; omega) (inner a (List.mem_range.mp ha)))) v_fNil) ?_⟩
      show some (D.tup _) = some (D.tup ((plI M (AR R a)).map D.int))
      unfold plI
      rw [List.map_map]
      rfl
  refine v_sAsg (v_fCall (g := gTuple) (d := tsD (testL M t (AR R))) (v_fCons (v_fL (v_fLc (vs := [20]) (rng_i (i := 4) (by omega) rfl) (by rw [List.length_map, List.length_range]; omega) outer)) v_fNil) ?_) rfl
  show some (D.tup _) = some (D.tup ((tb t _).map ti))
  rw [List.map_map]
  rfl
theorem eqs_ints : ∀ xs : List Int, eqDs (xs.map D.int) (xs.map D.int) = true
  | [] => rfl
  | x :: xs => by
    rw [List.map_cons, eqDs, eqs_ints xs]
    simp [eqD]
theorem eqs_tis : ∀ l : List (List Int), eqDs (l.map ti) (l.map ti) = true
  | [] => rfl
  | x :: l => by
    rw [List.map_cons, eqDs, eqs_tis l]
    show (eqDs (x.map D.int) (x.map D.int) && true) = true
    rw [eqs_ints]
    rfl
theorem ne_ts (l : List (List Int)) : gNe (tsD l) (tsD l) = some (.bl false) := by
  have o : (tsD l).okd 60 = true := okd_tis 58 l
  show (if (tsD l).okd 60 && (tsD l).okd 60 then some (D.bl (!eqDs (l.map ti) (l.map ti))) else none) = _
  rw [o, eqs_tis]
  rfl
theorem p2_run {M h t : Nat} (hM : M ≤ 16) (ht : t ≤ 16) {R : List (List Int)} (O : RowsOk M h t R) {x6 x8 x9 : Option D} (s : DS) : p2 (eL M h t (some (lsT R)) x6 (some (tsD (testL M t (AR R)))) x8 x9) s = some (.nx (eL M h t (some (lsT R)) x6 (some (tsD (testL M t (AR R)))) x8 x9), s) := by
  have c := columns_ok hM ht (AR R)
  rw [O.cols] at c
  exact v_sIfF (s1 := s) (v_fTest (v_fOp (v_fCall (v_fCons rfl (v_fCons rfl v_fNil)) (v_lenG rfl c)) (v_fCall (g := gTuple) (d := tsD R) (v_fCons rfl v_fNil) rfl) (ne_ts R))) p_sNext
end Lawk57
namespace Lawk57
open PySem PyProof.Rows L2 SL
theorem maxI_nat : ∀ (l : List Nat) (x : Nat), maxI (x : Int) (l.map fun k : Nat => (k : Int)) = ((max x (mxN l) : Nat) : Int)
  | [], x => by
    show (x : Int) = ((max x 0 : Nat) : Int)
    rw [Nat.max_zero]
  | y :: l, x => by
    rw [List.map_cons, maxI, mxN]
    by_cases h : (x : Int) < (y : Int)
    · rw [if_pos h, maxI_nat l y]
      congr 1
      omega
    · rw [if_neg h, maxI_nat l x]
      congr 1
      omega
theorem mx_list {x : Nat} (l : List Nat) : gMax1 [.lst ((x :: l).map fun k : Nat => D.int (k : Int))] = some (.int ((mxN (x :: l) : Nat) : Int)) := by
  have e : intsOf ((x :: l).map fun k : Nat => D.int (k : Int)) = some ((x :: l).map fun k : Nat => (k : Int)) := intsOf_map _ _
  simp only [gMM, items, e]
  rw [List.map_cons]
  show some (D.int (maxI (x : Int) (l.map fun k : Nat => (k : Int)))) = _
  rw [maxI_nat]
  rfl
theorem mx_zero (l : List Nat) : gMax1 [.lst (D.int 0 :: l.map fun k : Nat => D.int (k : Int))] = some (.int ((mxN l : Nat) : Int)) := by
  have := mx_list (x := 0) l
  rw [List.map_cons] at this
  rw [show mxN (0 :: l) = mxN l from Nat.zero_max _] at this
  exact this
/-- the greatest of 0 and the numbers of a comprehension -/
theorem max0_run {S : Type} {fi : Fn S (List D)} {b : Bd} {fe : Fn S D} {vs : List Nat} {env : SL.Env} {s : S} {xs : List D} (l : List Nat) (h : fi env s = some (xs, s)) (hl : xs.length ≤ 1000) (r : lcRun b fYes fe (wipeE env vs) xs s = some (l.map fun k : Nat => D.int (k : Int), s)) (ll : l.length ≤ 1000) :
    (fCall gMax1 (fCons (fL (fCatL (fL (fLst (fCons (fC (.int 0)) fNil))) (fL (fLc fi b fYes fe vs)))) fNil) : Fn S D) env s = some (.int ((mxN l : Nat) : Int), s) :=
  v_fCall (v_fCons (v_fL (v_fCatL (xs := [.int 0]) (ys := l.map fun k : Nat => D.int (k : Int)) rfl (v_fL (v_fLc h (by omega) r)) (by rw [List.length_map]; simp only [List.length_cons, List.length_nil]; omega))) v_fNil) (mx_zero l)
/-- what two columns share, counted by the program -/
theorem cnt_run {S : Type} {env : SL.Env} {s : S} {i j k : Nat} {T : Nat} {A : Nat → Nat → Bool} {a b : Nat} (hT : T ≤ 16) (he : ∀ d, ∃ e1, bName 20 (wipeE env [20]) d = some e1 ∧ e1[20]? = some (some d) ∧ (fOp gIx (fVar i) (fVar k) : Fn S D) e1 s = some (ti (plI T fun c => A c b), s)) (hr : (fOp gIx (fVar i) (fVar j) : Fn S D) env s = some (ti (plI T fun c => A c a), s)) :
    (fCall gLen (fCons (fL (fLc (fList (fOp gIx (fVar i) (fVar j))) (bName 20) (fTest (fOp gIn (fVar 20) (fOp gIx (fVar i) (fVar k)))) (fVar 20) [20])) fNil) : Fn S D) env s = some (.int ((cnt T A a b : Nat) : Int), s) := by
  have pl := pl16 hT fun c => A c a
  have r : lcRun (bName 20) (fTest (fOp gIn (fVar 20) (fOp gIx (fVar i) (fVar k)))) (fVar 20) (wipeE env [20]) ((plI T fun c => A c a).map D.int) s = some (((plI T fun c => A c a).filter fun x => A x.toNat b).map D.int, s) :=
    lcRun_if D.int D.int (fun x => A x.toNat b) _ fun x hx => by
      obtain ⟨c, rfl, hc, _⟩ := mem_plI.mp hx
      obtain ⟨e1, h1, h2, h3⟩ := he (.int (c : Int))
      exact ⟨e1, h1, v_fTest (v_fOp (p_fVar h2 rfl) h3 (by rw [gIn_ti, hasI_plI hc]; rfl)), fun _ => p_fVar h2 rfl⟩
  refine v_fCall (v_fCons (v_fL (v_fLc (vs := [20]) (v_fList hr rfl) (by rw [List.length_map]; omega) r)) v_fNil) ?_
  rw [gLen_lst, List.length_map, filt_pl T (fun c => A c a) fun c => A c b]
  rfl
theorem p3_run {M h t : Nat} (hM : M ≤ 16) (ht : t ≤ 16) {R : List (List Int)} (O : RowsOk M h t R) {x6 x7 x9 : Option D} (s : DS) : p3 (eL M h t (some (lsT R)) x6 x7 none x9) s = some (.nx (eL M h t (some (lsT R)) x6 x7 (some (.int ((shN M t (AR R) : Nat) : Int))) x9), s) := by
  have row : ∀ {k : Nat}, k < M → gIx (lsT R) (.int (k : Int)) = some (ti (plI t fun c => AR R c k)) := fun {k} hk => by
    rw [ix_lstT (by rw [O.len]; exact hk), (O.row hk).1]
  have inner : ∀ k, k < M → (fCall gMax1 (fCons (fL (fCatL (fL (fLst (fCons (fC (.int 0)) fNil))) (fL (fLc (fRng1 (fCons (fVar 6) fNil)) (bName 21) fYes (fCall gLen (fCons (fL (fLc (fList (fOp gIx (fVar 5) (fVar 6))) (bName 20) (fTest (fOp gIn (fVar 20) (fOp gIx (fVar 5) (fVar 21)))) (fVar 20) [20])) fNil)) [21])))) fNil) : Fn DS D) (eL M h t (some (lsT R)) (some (.int (k : Int))) x7 none x9) s = some (.int ((mxN (tb k fun j => cnt t (AR R) k j) : Nat) : Int), s) := fun k hk => by
    refine max0_run _ (rng_i (i := 6) (by omega) rfl) (by rw [List.length_map, List.length_range]; omega) ?_ (by rw [tb_len]; omega)
    show _ = some (((List.range k).map fun j => cnt t (AR R) k j).map fun k : Nat => D.int (k : Int), s)
    rw [List.map_map]
    refine lcRun_map (fun j : Nat => D.int (j : Int)) _ (List.range k) fun j hj => ?_
    have jk := List.mem_range.mp hj
    exact ⟨[none, some (.tok 0), some (.int (M : Int)), some (.int (h : Int)), some (.int (t : Int)), some (lsT R), some (.int (k : Int)), x7, none, x9, none, none, none, none, none, none, none, none, none, none, none, some (.int (j : Int)), none], rfl, rfl, cnt_run (A := AR R) (a := k) (b := j) ht (fun d => ⟨_, rfl, rfl, v_fOp rfl rfl (row (by omega))⟩) (v_fOp rfl rfl (row hk))⟩
  refine v_sAsg (max0_run (tb M fun k => mxN (tb k fun j => cnt t (AR R) k j)) (vs := [6]) (rng_i (i := 2) (by omega) rfl) (by rw [List.length_map, List.length_range]; omega) ?_ (by rw [tb_len]; omega)) rfl
  show _ = some (((List.range M).map fun k => mxN (tb k fun j => cnt t (AR R) k j)).map fun k : Nat => D.int (k : Int), s)
  rw [List.map_map]
  exact lcRun_map (fun j : Nat => D.int (j : Int)) _ (List.range M) fun k hk => ⟨eL M h t (some (lsT R)) (some (.int (k : Int))) x7 none x9, rfl, rfl, inner k (List.mem_range.mp hk)⟩
theorem eq_cov (k : Nat) (P : List Int) : gEq (covD k P) apartD = some (.bl false) := by
  have o : (covD k P).okd 60 = true := by
    show D.okds 59 [.str (Str.ofString "covered"), .int (k : Int), ti P] = true
    simp only [D.okds, okd_ti 58 P, Bool.and_true]
    rfl
  show (if (covD k P).okd 60 && apartD.okd 60 then some (D.bl (eqDs [.str (Str.ofString "covered"), .int (k : Int), ti P] [.str (Str.ofString "apart")])) else none) = _
  rw [o]
  rfl
theorem gLtN (a b : Nat) : gLt (.int (a : Int)) (.int (b : Int)) = some (.bl (decide (a < b))) := by
  show some (D.bl (decide ((a : Int) < (b : Int)))) = _
  congr 2
  exact decide_eq_decide.mpr (by omega)
theorem parts_len {M most : Nat} (hM : M ≤ 16) (hm : most ≤ 3) : (partsN (allI M) most).length ≤ 50000 := by
  have al := pl16 hM fun _ => true
  have l1 := layer_len (allI M) 1
  have l2 := layer_len (allI M) 2
  have l3 := layer_len (allI M) 3
  have b1 : (allI M).length ^ 1 ≤ 16 ^ 1 := Nat.pow_le_pow_left al 1
  have b2 : (allI M).length ^ 2 ≤ 16 ^ 2 := Nat.pow_le_pow_left al 2
  have b3 : (allI M).length ^ 3 ≤ 16 ^ 3 := Nat.pow_le_pow_left al 3
  rcases (show most = 0 ∨ most = 1 ∨ most = 2 ∨ most = 3 by omega) with rfl | rfl | rfl | rfl
  · exact Nat.le_trans (Nat.le_of_eq rfl) (show 1 ≤ 50000 by decide)
  · show ([[]] ++ layerN (allI M) 1).length ≤ 50000
    rw [List.length_append]
    have : ([[]] : List (List Int)).length = 1 := rfl
    omega
  · show (([[]] ++ layerN (allI M) 1) ++ layerN (allI M) 2).length ≤ 50000
    rw [List.length_append, List.length_append]
    have : ([[]] : List (List Int)).length = 1 := rfl
    omega
  · show ((([[]] ++ layerN (allI M) 1) ++ layerN (allI M) 2) ++ layerN (allI M) 3).length ≤ 50000
    rw [List.length_append, List.length_append, List.length_append]
    have : ([[]] : List (List Int)).length = 1 := rfl
    omega
abbrev coverF : Fn DS D := fCall (lenG 3 g_cover_paper) (fCons (fVar 2) (fCons (fVar 7) (fCons (fVar 9) fNil)))
abbrev bd4 : Stm DS := (sSeq (sIf (fAnd (fTest (fOp gLt (fOp gMulX (fVar 9) (fVar 8)) (fVar 3))) (fTest (fOp gNe coverF (fTup (fCons (fC (.str (Str.ofString "apart"))) fNil))))) (sRet (fC (.bl false)))
    sNext)
    (sIf (fAnd (fTest (fOp gEq coverF (fTup (fCons (fC (.str (Str.ofString "apart"))) fNil)))) (fTest (fOp gNe (fCall (lenG 3 g_same_paper) (fCons (fVar 2) (fCons (fVar 7) (fCons (fVar 9) fNil)))) (fTup (fCons (fC (.str (Str.ofString "told"))) fNil))))) (sRet (fC (.bl false)))
    sNext))
theorem turn4 {M h t : Nat} (hM : M ≤ 16) (ht : t ≤ 16) {R : List (List Int)} (O : RowsOk M h t R) {x6 : Option D} {most : Nat} (hm : most ≤ 3) (s : DS) : bd4 (eL M h t (some (lsT R)) x6 (some (tsD (testL M t (AR R)))) (some (.int ((shN M t (AR R) : Nat) : Int))) (some (.int (most : Int)))) s = some (.nx (eL M h t (some (lsT R)) x6 (some (tsD (testL M t (AR R)))) (some (.int ((shN M t (AR R) : Nat) : Int))) (some (.int (most : Int)))), s) := by
  have F := few_of O.hi
  have mul : gMulX (.int (most : Int)) (.int ((shN M t (AR R) : Nat) : Int)) = some (.int ((most * shN M t (AR R) : Nat) : Int)) := by
    rw [Int.natCast_mul]
    rcases (show most = 0 ∨ most = 1 ∨ most = 2 ∨ most = 3 by omega) with rfl | rfl | rfl | rfl <;> rfl
  have t1 : (fTest (fOp gLt (fOp gMulX (fVar 9) (fVar 8)) (fVar 3)) : Fn DS Bool) (eL M h t (some (lsT R)) x6 (some (tsD (testL M t (AR R)))) (some (.int ((shN M t (AR R) : Nat) : Int))) (some (.int (most : Int)))) s = some (decide (most * shN M t (AR R) < h), s) := v_fTest (v_fOp (v_fOp rfl rfl mul) rfl (gLtN _ _))
  have ap : ∀ {str : Str}, (fTup (fCons (fC (.str str)) fNil) : Fn DS D) (eL M h t (some (lsT R)) x6 (some (tsD (testL M t (AR R)))) (some (.int ((shN M t (AR R) : Nat) : Int))) (some (.int (most : Int)))) s = some (.tup [.str str], s) := v_fTup (v_fCons rfl v_fNil) (by simp)
  generalize shN M t (AR R) = S at *
  rcases cover_ok hM ht (AR R) hm with ⟨U, e⟩ | ⟨nU, k, P, e⟩
  · have cv : coverF (eL M h t (some (lsT R)) x6 (some (tsD (testL M t (AR R)))) (some (.int (S : Int))) (some (.int (most : Int)))) s = some (apartD, s) := v_fCall (v_fCons rfl (v_fCons rfl (v_fCons rfl v_fNil))) (v_lenG rfl e)
    have sm := same_ok hM ht (AR R) hm (un_keys U) (parts_len hM hm)
    have i1 : (fAnd (fTest (fOp gLt (fOp gMulX (fVar 9) (fVar 8)) (fVar 3))) (fTest (fOp gNe coverF (fTup (fCons (fC (.str (Str.ofString "apart"))) fNil)))) : Fn DS Bool) (eL M h t (some (lsT R)) x6 (some (tsD (testL M t (AR R)))) (some (.int (S : Int))) (some (.int (most : Int)))) s = some (false, s) := by
      cases q : decide (most * S < h) with
      | true => rw [q] at t1; exact p_fAndT t1 (v_fTest (v_fOp cv ap (by rfl)))
      | false => rw [q] at t1; exact p_fAndF t1
    have i2 : (fAnd (fTest (fOp gEq coverF (fTup (fCons (fC (.str (Str.ofString "apart"))) fNil)))) (fTest (fOp gNe (fCall (lenG 3 g_same_paper) (fCons (fVar 2) (fCons (fVar 7) (fCons (fVar 9) fNil)))) (fTup (fCons (fC (.str (Str.ofString "told"))) fNil)))) : Fn DS Bool) (eL M h t (some (lsT R)) x6 (some (tsD (testL M t (AR R)))) (some (.int (S : Int))) (some (.int (most : Int)))) s = some (false, s) :=
      p_fAndT (v_fTest (v_fOp cv ap (by rfl))) (v_fTest (v_fOp (v_fCall (v_fCons rfl (v_fCons rfl (v_fCons rfl v_fNil))) (v_lenG rfl sm)) ap (by rfl)))
    exact v_seq (v_sIfF (s1 := s) i1 p_sNext) (v_sIfF (s1 := s) i2 p_sNext)
  · have cv : coverF (eL M h t (some (lsT R)) x6 (some (tsD (testL M t (AR R)))) (some (.int (S : Int))) (some (.int (most : Int)))) s = some (covD k P, s) := v_fCall (v_fCons rfl (v_fCons rfl (v_fCons rfl v_fNil))) (v_lenG rfl e)
    have q : decide (most * S < h) = false := decide_eq_false fun lt => nU (F.un lt)
    rw [q] at t1
    exact v_seq (v_sIfF (s1 := s) (p_fAndF t1) p_sNext) (v_sIfF (s1 := s) (p_fAndF (v_fTest (v_fOp cv ap (eq_cov k P)))) p_sNext)
theorem p4_run {M h t : Nat} (hM : M ≤ 16) (ht : t ≤ 16) {R : List (List Int)} (O : RowsOk M h t R) {x6 x9 : Option D} (s : DS) : p4 (eL M h t (some (lsT R)) x6 (some (tsD (testL M t (AR R)))) (some (.int ((shN M t (AR R) : Nat) : Int))) x9) s = some (.nx (eL M h t (some (lsT R)) x6 (some (tsD (testL M t (AR R)))) (some (.int ((shN M t (AR R) : Nat) : Int))) (some (.int 3))), s) := by
  have T := fun most (hm : most ≤ 3) => turn4 hM ht O (x6 := x6) hm s
  generalize testL M t (AR R) = X at *
  generalize shN M t (AR R) = S at *
  exact v_sFor (xs := [.int 0, .int 1, .int 2, .int 3]) (s1 := s) rfl (p_forCons rfl (T 0 (by decide)) (p_forCons rfl (T 1 (by decide)) (p_forCons rfl (T 2 (by decide)) (p_forCons rfl (T 3 (by decide)) rfl))))
theorem p5_run {M h t : Nat} (hM : M ≤ 16) (ht : t ≤ 16) (h0 : 0 < h) {R : List (List Int)} (O : RowsOk M h t R) {x6 x9 : Option D} (s : DS) : p5 (eL M h t (some (lsT R)) x6 (some (tsD (testL M t (AR R)))) (some (.int ((shN M t (AR R) : Nat) : Int))) x9) s = some (.nx (eL M h t (some (lsT R)) x6 (some (tsD (testL M t (AR R)))) (some (.int ((shN M t (AR R) : Nat) : Int))) x9), s) := by
  refine v_sIfF (s1 := s) ?_ p_sNext
  have t1 : (fTest (fOp gEq (fVar 8) (fVar 3)) : Fn DS Bool) (eL M h t (some (lsT R)) x6 (some (tsD (testL M t (AR R)))) (some (.int ((shN M t (AR R) : Nat) : Int))) x9) s = some (decide (shN M t (AR R) = h), s) := by
    refine v_fTest (v_fOp rfl rfl ?_)
    show some (D.bl (((shN M t (AR R) : Nat) : Int) == (h : Int))) = _
    congr 2
    by_cases q : shN M t (AR R) = h
    · rw [q, decide_eq_true rfl]; simp
    · rw [decide_eq_false q]
      exact beq_eq_false_iff_ne.mpr (by omega)
  by_cases q : shN M t (AR R) = h
  · rw [decide_eq_true q] at t1
    refine p_fAndT t1 ?_
    have t2 : (fTest (fOp gGt (fVar 2) (fC (.int 1))) : Fn DS Bool) (eL M h t (some (lsT R)) x6 (some (tsD (testL M t (AR R)))) (some (.int ((shN M t (AR R) : Nat) : Int))) x9) s = some (decide ((1 : Int) < (M : Int)), s) := v_fTest (v_fOp rfl rfl rfl)
    cases q2 : decide ((1 : Int) < (M : Int)) with
    | false => rw [q2] at t2; exact p_fAndF t2
    | true =>
      rw [q2] at t2
      rcases cover_ok hM ht (AR R) (show 1 ≤ 3 by decide) with ⟨U, e⟩ | ⟨_, k, P, e⟩
      · exact absurd U (not_un O.hi h0 q)
      · exact p_fAndT t2 (v_fTest (v_fOp (v_fCall (v_fCons rfl (v_fCons rfl (v_fCons rfl v_fNil))) (v_lenG rfl e)) (v_fTup (v_fCons rfl v_fNil) (by simp)) (eq_cov k P)))
  · rw [decide_eq_false q] at t1
    exact p_fAndF t1
end Lawk57
namespace Lawk57
open PySem PyProof.Rows L2 SL
/-! squares: closed facts -/
def AT (tab : List Nat) : Nat → Nat → Bool := fun a k => Nat.testBit (tab.getD a 0) k
def codeX (q m : Int) : D := match g_reed_solomon [.int q, .int m] with
  | some (.tup [_, c]) => c
  | _ => .non
def farX (F : D) (q : Int) (c : D) : Option D := match g_distance_paper [F, .int q, c] with
  | some d => gIx d (.int 0)
  | none => none
structure Square (q m n far ag mo : Nat) (ds : List D) (tab : List Nat) : Prop where
  fld : g_Field (q : Int) = some ds
  tests : g_square_tests [.ins 0 ds, .int (m : Int)] = some (.tup [.int (n : Int), tsD (testL n (q * q) (AT tab))])
  code : g_reed_solomon [.int (q : Int), .int (m : Int)] = some (.tup [.int (q : Int), codeX q m])
  fa : farX (.ins 0 ds) q (codeX q m) = some (.int (far : Int))
  hi : ∀ k, k < n → (plI (q * q) fun a => AT tab a k).length = q
  sh : shN n (q * q) (AT tab) = ag
  af : ag + far = q
  n1 : 1 ≤ n
  n16 : n ≤ 16
  t16 : q * q ≤ 16
  mo3 : mo ≤ 3
  lt : mo * ag < q
  up : mo = 3 ∨ q ≤ (mo + 1) * ag
  low : ∀ i, i < mo → (i + 1) * ag < q
def tab22 : List Nat := [3, 12, 9, 6]
theorem sq22 : Square 2 2 4 1 1 1 F2ds tab22 where
  fld := rfl
  tests := by kernel_rfl
  code := by kernel_rfl
  fa := by kernel_rfl
  hi := by decide +kernel
  sh := by decide +kernel
  af := rfl
  n1 := by decide
  n16 := by decide
  t16 := by decide
  mo3 := by decide
  lt := by decide
  up := by decide
  low := by decide
def tab31 : List Nat := [1, 2, 4, 1, 2, 4, 1, 2, 4]
theorem sq31 : Square 3 1 3 3 0 3 F3ds tab31 where
  fld := rfl
  tests := by kernel_rfl
  code := by kernel_rfl
  fa := by kernel_rfl
  hi := by decide +kernel
  sh := by decide +kernel
  af := rfl
  n1 := by decide
  n16 := by decide
  t16 := by decide
  mo3 := by decide
  lt := by decide
  up := by decide
  low := by decide
def tab32 : List Nat := [7, 56, 448, 161, 266, 84, 273, 140, 98]
theorem sq32 : Square 3 2 9 2 1 2 F3ds tab32 where
  fld := rfl
  tests := by kernel_rfl
  code := by kernel_rfl
  fa := by kernel_rfl
  hi := by decide +kernel
  sh := by decide +kernel
  af := rfl
  n1 := by decide
  n16 := by decide
  t16 := by decide
  mo3 := by decide
  lt := by decide
  up := by decide
  low := by decide
def tab42 : List Nat := [15, 240, 3840, 61440, 33825, 18450, 8580, 4680, 17025, 9240, 33090, 6180, 10305, 33300, 16680, 5250]
theorem sq42 : Square 4 2 16 3 1 3 F4ds tab42 where
  fld := rfl
  tests := by kernel_rfl
  code := by kernel_rfl
  fa := by kernel_rfl
  hi := by decide +kernel
  sh := by decide +kernel
  af := rfl
  n1 := by decide
  n16 := by decide
  t16 := by decide
  mo3 := by decide
  lt := by decide
  up := by decide
  low := by decide
def tab21 : List Nat := [1, 2, 1, 2]
theorem sq21 : Square 2 1 2 2 0 3 F2ds tab21 where
  fld := rfl
  tests := by kernel_rfl
  code := by kernel_rfl
  fa := by kernel_rfl
  hi := by decide +kernel
  sh := by decide +kernel
  af := rfl
  n1 := by decide
  n16 := by decide
  t16 := by decide
  mo3 := by decide
  lt := by decide
  up := by decide
  low := by decide
end Lawk57
namespace Lawk57
open PySem PyProof.Rows L2 SL
theorem v_fSortSet {S : Type} {env : SL.Env} {s s1 : S} {fa : Fn S D} {ns : List Int} (h : fa env s = some (.lst (ns.map D.int), s1)) (hl : ns.length < 64) : fSortSet fa env s = some ((sortU ns).map D.int, s1) := by
  simp only [fSortSet, h, items, intsOf_ints, if_pos hl]
theorem sortU_len : ∀ xs : List Int, (sortU xs).length ≤ xs.length := by
  have ins : ∀ (x : Int) (l : List Int), (insU x l).length ≤ l.length + 1 := by
    intro x l
    induction l with
    | nil => exact Nat.le_refl _
    | cons y l ih =>
      unfold insU
      split
      · simp
      · split
        · simp
        · simp only [List.length_cons]; omega
  intro xs
  induction xs with
  | nil => exact Nat.le_refl _
  | cons x xs ih =>
    have := ins x (sortU xs)
    rw [sortU, List.length_cons]
    omega
abbrev eK (a2 a3 a4 a5 a6 x7 a8 x9 x10 x11 x12 x13 x14 x15 x16 x17 x18 x19 : Option D) : SL.Env := [none, some (.tok 0), a2, a3, a4, a5, a6, x7, a8, x9, x10, x11, x12, x13, x14, x15, x16, x17, x18, x19, none, none, none]
theorem bad_run {n : Nat} (n0 : 0 < n) (n9 : n ≤ 1000) {env : SL.Env} (he : ∀ d, ∃ e1, bName 6 env d = some e1 ∧ e1[1]? = some (some (.tok 0)) ∧ e1[13]? = some (some (.int (n : Int)))) : ∀ (l : List D) (s : DS), InvD s → ∃ (ns : List Int) (s' : DS), lcRun (bName 6) fYes (fCallS (lenGS 2 g__law_take) (fCons (fVar 1) (fCons (fVar 13) fNil))) env l s = some (ns.map D.int, s') ∧ ns.length = l.length ∧ (∀ x ∈ ns, ∃ j : Nat, x = j ∧ j < n) ∧ InvD s'
  | [], s, i => ⟨[], s, rfl, rfl, fun x hx => (by cases hx), i⟩
  | d :: l, s, i => by
    obtain ⟨e1, h0, h1, h2⟩ := he d
    obtain ⟨r, s1, e, r1, i1⟩ := take2 i n n0 (by omega)
    obtain ⟨ns, s2, e2, hl, hn, i2⟩ := bad_run n0 n9 he l s1 i1
    have v : (fCallS (lenGS 2 g__law_take) (fCons (fVar 1) (fCons (fVar 13) fNil)) : Fn DS D) env s = (fCallS (lenGS 2 g__law_take) (fCons (fVar 1) (fCons (fVar 13) fNil)) : Fn DS D) env s := rfl
    have c : (fCallS (lenGS 2 g__law_take) (fCons (fVar 1) (fCons (fVar 13) fNil)) : Fn DS D) e1 s = some (.int (r : Int), s1) := v_fCallS (v_fCons (p_fVar h1 rfl) (v_fCons (p_fVar h2 rfl) v_fNil)) (v_lenGS rfl e)
    refine ⟨(r : Int) :: ns, s2, ?_, by rw [List.length_cons, List.length_cons, hl], fun x hx => ?_, i2⟩
    · simp only [lcRun, h0, fYes, c, e2, List.map_cons]
    · rcases List.mem_cons.mp hx with rfl | hx
      · exact ⟨r, rfl, r1⟩
      · exact hn x hx
theorem while_run {q ag mo : Nat} (q9 : q ≤ 1000) (a9 : ag ≤ 1000) (mo3 : mo ≤ 3) (up : mo = 3 ∨ q ≤ (mo + 1) * ag) (low : ∀ i, i < mo → (i + 1) * ag < q) {a2 a3 a4 a5 a6 x7 a8 x11 x12 x13 x14 x15 x16 x17 x19 : Option D} (s : DS) : p16 (eK a2 a3 a4 a5 a6 x7 a8 (some (.int 0)) (some (.int (q : Int))) x11 x12 x13 x14 x15 x16 x17 (some (.int (ag : Int))) x19) s = some (.nx (eK a2 a3 a4 a5 a6 x7 a8 (some (.int (mo : Int))) (some (.int (q : Int))) x11 x12 x13 x14 x15 x16 x17 (some (.int (ag : Int))) x19), s) := by
  have test : ∀ i : Nat, i ≤ 3 → (fAnd (fTest (fOp gLt (fVar 9) (fC (.int 3)))) (fTest (fOp gLt (fOp gMulX (fOp gAdd (fVar 9) (fC (.int 1))) (fVar 18)) (fVar 10))) : Fn DS Bool) (eK a2 a3 a4 a5 a6 x7 a8 (some (.int (i : Int))) (some (.int (q : Int))) x11 x12 x13 x14 x15 x16 x17 (some (.int (ag : Int))) x19) s = some (decide (i < 3) && decide ((i + 1) * ag < q), s) := fun i hi => by
    have t1 : (fTest (fOp gLt (fVar 9) (fC (.int 3))) : Fn DS Bool) (eK a2 a3 a4 a5 a6 x7 a8 (some (.int (i : Int))) (some (.int (q : Int))) x11 x12 x13 x14 x15 x16 x17 (some (.int (ag : Int))) x19) s = some (decide (i < 3), s) := v_fTest (v_fOp rfl rfl (gLtN i 3))
    cases z : decide (i < 3) with
    | false => rw [z] at t1; exact p_fAndF t1
    | true =>
      rw [z] at t1
      refine p_fAndT t1 (v_fTest (v_fOp (x := .int (((i + 1) * ag : Nat) : Int)) (v_fOp (x := .int ((i + 1 : Nat) : Int)) (v_fOp rfl rfl rfl) rfl ?_) rfl (gLtN _ _)))
      rw [Int.natCast_mul]
      show (if (smallI ((i + 1 : Nat) : Int) || smallI (ag : Int)) = true then some (D.int (((i + 1 : Nat) : Int) * (ag : Int))) else none) = _
      rw [show smallI ((i + 1 : Nat) : Int) = true by rcases (show i = 0 ∨ i = 1 ∨ i = 2 ∨ i = 3 by omega) with rfl | rfl | rfl | rfl <;> rfl]
      rfl
  have body : ∀ i : Nat, (sAsg (fOp gAdd (fVar 9) (fC (.int 1))) (bName 9) : Stm DS) (eK a2 a3 a4 a5 a6 x7 a8 (some (.int (i : Int))) (some (.int (q : Int))) x11 x12 x13 x14 x15 x16 x17 (some (.int (ag : Int))) x19) s = some (.nx (eK a2 a3 a4 a5 a6 x7 a8 (some (.int ((i + 1 : Nat) : Int))) (some (.int (q : Int))) x11 x12 x13 x14 x15 x16 x17 (some (.int (ag : Int))) x19), s) := fun i => v_sAsg (x := .int ((i + 1 : Nat) : Int)) (v_fOp rfl rfl rfl) rfl
  have go : ∀ (d i f : Nat), i + d = mo → d < f → sWhile (fAnd (fTest (fOp gLt (fVar 9) (fC (.int 3)))) (fTest (fOp gLt (fOp gMulX (fOp gAdd (fVar 9) (fC (.int 1))) (fVar 18)) (fVar 10)))) (sAsg (fOp gAdd (fVar 9) (fC (.int 1))) (bName 9)) f (eK a2 a3 a4 a5 a6 x7 a8 (some (.int (i : Int))) (some (.int (q : Int))) x11 x12 x13 x14 x15 x16 x17 (some (.int (ag : Int))) x19) s = some (.nx (eK a2 a3 a4 a5 a6 x7 a8 (some (.int (mo : Int))) (some (.int (q : Int))) x11 x12 x13 x14 x15 x16 x17 (some (.int (ag : Int))) x19), s) := by
    intro d
    induction d with
    | zero =>
      intro i f e hf
      rw [Nat.add_zero] at e
      subst e
      match f, hf with
      | f + 1, _ =>
        have t := test i mo3
        have : (decide (i < 3) && decide ((i + 1) * ag < q)) = false := by
          rcases up with u | u
          · rw [decide_eq_false (by omega)]; rfl
          · rw [decide_eq_false (show ¬ (i + 1) * ag < q by omega), Bool.and_false]
        rw [this] at t
        simp only [sWhile, t]
    | succ d ih =>
      intro i f e hf
      match f, hf with
      | f + 1, hf =>
        have t := test i (by omega)
        rw [decide_eq_true (show i < 3 by omega), decide_eq_true (low i (by omega))] at t
        simp only [sWhile, t, body i, Bool.and_self]
        exact ih (i + 1) f (by omega) (by omega)
  exact go mo 0 200 (by omega) (by omega)
end Lawk57
namespace Lawk57
open PySem PyProof.Rows L2 SL
theorem p13_run {q n T ag : Nat} {A : Nat → Nat → Bool} (n1 : 1 ≤ n) (n16 : n ≤ 16) (hT : T ≤ 16) (sh : shN n T A = ag) {a2 a3 a4 a5 a6 x7 a8 x9 x10 x11 x12 x14 x15 x16 x19 : Option D} (s : DS) : p13 (eK a2 a3 a4 a5 a6 x7 a8 x9 x10 x11 x12 (some (.int (n : Int))) x14 x15 x16 (some (tsD (colL n T A))) none x19) s = some (.nx (eK a2 a3 a4 a5 a6 x7 a8 x9 x10 x11 x12 (some (.int (n : Int))) x14 x15 x16 (some (tsD (colL n T A))) (some (.int (ag : Int))) x19), s) := by
  have inner : ∀ k, k < n → (fCall gMax1 (fCons (fL (fCatL (fL (fLst (fCons (fC (.int 0)) fNil))) (fL (fLc (fRng1 (fCons (fVar 6) fNil)) (bName 21) fYes (fCall gLen (fCons (fL (fLc (fList (fOp gIx (fVar 17) (fVar 6))) (bName 20) (fTest (fOp gIn (fVar 20) (fOp gIx (fVar 17) (fVar 21)))) (fVar 20) [20])) fNil)) [21])))) fNil) : Fn DS D) (eK a2 a3 a4 a5 (some (.int (k : Int))) x7 a8 x9 x10 x11 x12 (some (.int (n : Int))) x14 x15 x16 (some (tsD (colL n T A))) none x19) s = some (.int ((mxN (tb k fun j => cnt T A k j) : Nat) : Int), s) := fun k hk => by
    refine max0_run _ (rng_i (i := 6) (by omega) rfl) (by rw [List.length_map, List.length_range]; omega) ?_ (by rw [tb_len]; omega)
    show _ = some (((List.range k).map fun j => cnt T A k j).map fun k : Nat => D.int (k : Int), s)
    rw [List.map_map]
    refine lcRun_map (fun j : Nat => D.int (j : Int)) _ (List.range k) fun j hj => ?_
    have jk := List.mem_range.mp hj
    exact ⟨[none, some (.tok 0), a2, a3, a4, a5, some (.int (k : Int)), x7, a8, x9, x10, x11, x12, some (.int (n : Int)), x14, x15, x16, some (tsD (colL n T A)), none, x19, none, some (.int (j : Int)), none], rfl, rfl, cnt_run (A := A) (a := k) (b := j) hT (fun d => ⟨_, rfl, rfl, v_fOp rfl rfl (ix_tup _ (by omega))⟩) (v_fOp rfl rfl (ix_tup _ hk))⟩
  have run : lcRun (bName 6) fYes (fCall gMax1 (fCons (fL (fCatL (fL (fLst (fCons (fC (.int 0)) fNil))) (fL (fLc (fRng1 (fCons (fVar 6) fNil)) (bName 21) fYes (fCall gLen (fCons (fL (fLc (fList (fOp gIx (fVar 17) (fVar 6))) (bName 20) (fTest (fOp gIn (fVar 20) (fOp gIx (fVar 17) (fVar 21)))) (fVar 20) [20])) fNil)) [21])))) fNil)) (eK a2 a3 a4 a5 none x7 a8 x9 x10 x11 x12 (some (.int (n : Int))) x14 x15 x16 (some (tsD (colL n T A))) none x19) ((List.range n).map fun j : Nat => D.int (j : Int)) s = some ((tb n fun k => mxN (tb k fun j => cnt T A k j)).map (fun k : Nat => D.int (k : Int)), s) := by
    rw [List.map_map]
    exact lcRun_map (fun j : Nat => D.int (j : Int)) _ (List.range n) fun k hk => ⟨eK a2 a3 a4 a5 (some (.int (k : Int))) x7 a8 x9 x10 x11 x12 (some (.int (n : Int))) x14 x15 x16 (some (tsD (colL n T A))) none x19, rfl, rfl, inner k (List.mem_range.mp hk)⟩
  have mx : gMax1 [.lst ((tb n fun k => mxN (tb k fun j => cnt T A k j)).map (fun k : Nat => D.int (k : Int)))] = some (.int (ag : Int)) := by
    unfold shN at sh
    rw [← sh]
    obtain ⟨n', rfl⟩ : ∃ n', n = n' + 1 := ⟨n - 1, by omega⟩
    rw [tb_succ]
    exact mx_list _
  exact v_sAsg (v_fCall (v_fCons (v_fL (v_fLc (vs := [6]) (rng_i (i := 13) (by omega) rfl) (by rw [List.length_map, List.length_range]; omega) run)) v_fNil) mx) rfl
theorem eq_ti (xs : List Int) : gEq (ti xs) (ti xs) = some (.bl true) := by
  show (if (ti xs).okd 60 && (ti xs).okd 60 then some (D.bl (eqDs (xs.map D.int) (xs.map D.int))) else none) = _
  rw [okd_ti 59 xs, eqs_ints]
  rfl
theorem tail_run {q m n far ag mo : Nat} {ds : List D} {tab : List Nat} (Q : Square q m n far ag mo ds tab) {a2 a3 a4 a5 a6 x7 a8 x9 : Option D} {s : DS} (i : InvD s) : ∃ s', tail7 (eK a2 a3 a4 a5 a6 x7 a8 x9 (some (.int (q : Int))) (some (.int (m : Int))) none none none none none none none none) s = some (.rt (.bl true), s') := by
  have q16 : q ≤ 16 := by
    have := Q.t16
    have q1 := Nat.le_mul_self q
    omega
  have ha := Q.af
  have F : Few n (q * q) (AT tab) q ag := by
    have := few_of Q.hi
    rw [Q.sh] at this
    exact this
  have U := F.un Q.lt
  have c7 : p7 (eK a2 a3 a4 a5 a6 x7 a8 x9 (some (.int (q : Int))) (some (.int (m : Int))) none none none none none none none none) s = some (.nx (eK a2 a3 a4 a5 a6 x7 a8 x9 (some (.int (q : Int))) (some (.int (m : Int))) (some (.ins 0 ds)) none none none none none none none), s) := by
    have mk : (fMk g_Field (fCons (fVar 10) fNil) : Fn DS D) (eK a2 a3 a4 a5 a6 x7 a8 x9 (some (.int (q : Int))) (some (.int (m : Int))) none none none none none none none none) s = some (.ins 0 ds, s) := by
      have v : (fCons (fVar 10) fNil : Fn DS (List D)) (eK a2 a3 a4 a5 a6 x7 a8 x9 (some (.int (q : Int))) (some (.int (m : Int))) none none none none none none none none) s = some ([.int (q : Int)], s) := v_fCons rfl v_fNil
      unfold fMk
      simp only [v, Q.fld]
    exact v_sAsg mk rfl
  generalize hT : testL n (q * q) (AT tab) = X at *
  have qt := Q.tests
  rw [hT] at qt
  have c8 : p8 (eK a2 a3 a4 a5 a6 x7 a8 x9 (some (.int (q : Int))) (some (.int (m : Int))) (some (.ins 0 ds)) none none none none none none none) s = some (.nx (eK a2 a3 a4 a5 a6 (some (tsD X)) a8 x9 (some (.int (q : Int))) (some (.int (m : Int))) (some (.ins 0 ds)) (some (.int (n : Int))) none none none none none none), s) := v_sAsg (v_fCall (v_fCons rfl (v_fCons rfl v_fNil)) (v_lenG rfl qt)) rfl
  have qc := Q.code
  have qf := Q.fa
  generalize codeX (q : Int) (m : Int) = C at *
  have c9 : p9 (eK a2 a3 a4 a5 a6 (some (tsD X)) a8 x9 (some (.int (q : Int))) (some (.int (m : Int))) (some (.ins 0 ds)) (some (.int (n : Int))) none none none none none none) s = some (.nx (eK a2 a3 a4 a5 a6 (some (tsD X)) a8 x9 (some (.int (q : Int))) (some (.int (m : Int))) (some (.ins 0 ds)) (some (.int (n : Int))) (some (.int (q : Int))) (some C) none none none none), s) := v_sAsg (v_fCall (v_fCons rfl (v_fCons rfl v_fNil)) (v_lenG rfl qc)) rfl
  have co : C.isOwn = false := by
    cases C <;> first | rfl | (unfold farX at qf; cases qf)
  have c10 : p10 (eK a2 a3 a4 a5 a6 (some (tsD X)) a8 x9 (some (.int (q : Int))) (some (.int (m : Int))) (some (.ins 0 ds)) (some (.int (n : Int))) (some (.int (q : Int))) (some C) none none none none) s = some (.nx (eK a2 a3 a4 a5 a6 (some (tsD X)) a8 x9 (some (.int (q : Int))) (some (.int (m : Int))) (some (.ins 0 ds)) (some (.int (n : Int))) (some (.int (q : Int))) (some C) (some (.int (far : Int))) none none none), s) := by
    unfold farX at qf
    split at qf
    · rename_i d e
      exact v_sAsg (v_fOp (v_fCall (v_fCons rfl (v_fCons rfl (v_fCons (p_fVar rfl co) v_fNil))) (v_lenG rfl e)) rfl qf) rfl
    · cases qf
  have cl := columns_ok Q.n16 Q.t16 (AT tab)
  rw [hT] at cl
  have c11 : p11 (eK a2 a3 a4 a5 a6 (some (tsD X)) a8 x9 (some (.int (q : Int))) (some (.int (m : Int))) (some (.ins 0 ds)) (some (.int (n : Int))) (some (.int (q : Int))) (some C) (some (.int (far : Int))) none none none) s = some (.nx (eK a2 a3 a4 a5 a6 (some (tsD X)) a8 x9 (some (.int (q : Int))) (some (.int (m : Int))) (some (.ins 0 ds)) (some (.int (n : Int))) (some (.int (q : Int))) (some C) (some (.int (far : Int))) (some (tsD (colL n (q * q) (AT tab)))) none none), s) := v_sAsg (v_fCall (v_fCons rfl (v_fCons rfl v_fNil)) (v_lenG rfl cl)) rfl
  have c12 : p12 (eK a2 a3 a4 a5 a6 (some (tsD X)) a8 x9 (some (.int (q : Int))) (some (.int (m : Int))) (some (.ins 0 ds)) (some (.int (n : Int))) (some (.int (q : Int))) (some C) (some (.int (far : Int))) (some (tsD (colL n (q * q) (AT tab)))) none none) s = some (.nx (eK a2 a3 a4 a5 a6 (some (tsD X)) a8 x9 (some (.int (q : Int))) (some (.int (m : Int))) (some (.ins 0 ds)) (some (.int (n : Int))) (some (.int (q : Int))) (some C) (some (.int (far : Int))) (some (tsD (colL n (q * q) (AT tab)))) none none), s) := by
    refine v_sIfF (s1 := s) ?_ p_sNext
    have r : lcRun (bName 22) fYes (fOp gNe (fCall gLen (fCons (fVar 22) fNil)) (fVar 10)) (eK a2 a3 a4 a5 a6 (some (tsD X)) a8 x9 (some (.int (q : Int))) (some (.int (m : Int))) (some (.ins 0 ds)) (some (.int (n : Int))) (some (.int (q : Int))) (some C) (some (.int (far : Int))) (some (tsD (colL n (q * q) (AT tab)))) none none) ((colL n (q * q) (AT tab)).map ti) s = some ((colL n (q * q) (AT tab)).map (fun _ => D.bl false), s) :=
      lcRun_map ti (fun _ => D.bl false) _ fun c hc => by
        obtain ⟨k, hk, rfl⟩ := List.mem_map.mp hc
        refine ⟨[none, some (.tok 0), a2, a3, a4, a5, a6, some (tsD X), a8, x9, some (.int (q : Int)), some (.int (m : Int)), some (.ins 0 ds), some (.int (n : Int)), some (.int (q : Int)), some C, some (.int (far : Int)), some (tsD (colL n (q * q) (AT tab))), none, none, none, none, some (ti (plI (q * q) fun a => AT tab a k))], rfl, rfl, v_fOp (v_fCall (v_fCons rfl v_fNil) (gLen_tup _)) rfl ?_⟩
        rw [List.length_map, Q.hi k (List.mem_range.mp hk)]
        show some (D.bl (!((q : Int) == (q : Int)))) = _
        rw [beq_self_eq_true]
        rfl
    have n16 := Q.n16
    exact v_fTest (v_fCall (v_fCons (v_fL (v_fLc (vs := [22]) (v_fList (x := tsD (colL n (q * q) (AT tab))) rfl rfl) (by rw [List.length_map, tb_len]; omega) r)) v_fNil) (any_no (fun _ => D.bl false) (colL n (q * q) (AT tab)) rfl (fun _ _ => rfl) fun _ _ => rfl))
  have c13 := p13_run (q := q) Q.n1 Q.n16 Q.t16 Q.sh (a2 := a2) (a3 := a3) (a4 := a4) (a5 := a5) (a6 := a6) (x7 := some (tsD X)) (a8 := a8) (x9 := x9) (x10 := some (.int (q : Int))) (x11 := some (.int (m : Int))) (x12 := some (.ins 0 ds)) (x14 := some (.int (q : Int))) (x15 := some C) (x16 := some (.int (far : Int))) (x19 := none) s
  generalize tsD (colL n (q * q) (AT tab)) = Y at *
  have c14 : p14 (eK a2 a3 a4 a5 a6 (some (tsD X)) a8 x9 (some (.int (q : Int))) (some (.int (m : Int))) (some (.ins 0 ds)) (some (.int (n : Int))) (some (.int (q : Int))) (some C) (some (.int (far : Int))) (some Y) (some (.int (ag : Int))) none) s = some (.nx (eK a2 a3 a4 a5 a6 (some (tsD X)) a8 x9 (some (.int (q : Int))) (some (.int (m : Int))) (some (.ins 0 ds)) (some (.int (n : Int))) (some (.int (q : Int))) (some C) (some (.int (far : Int))) (some Y) (some (.int (ag : Int))) none), s) := by
    refine v_sIfF (s1 := s) (v_fTest (v_fOp (y := .int ((q : Int) - (far : Int))) rfl (v_fOp rfl rfl rfl) ?_)) p_sNext
    rw [show (q : Int) - (far : Int) = (ag : Int) by omega]
    show some (D.bl (!((ag : Int) == (ag : Int)))) = _
    rw [beq_self_eq_true]
    rfl
  have c15 : p15 (eK a2 a3 a4 a5 a6 (some (tsD X)) a8 x9 (some (.int (q : Int))) (some (.int (m : Int))) (some (.ins 0 ds)) (some (.int (n : Int))) (some (.int (q : Int))) (some C) (some (.int (far : Int))) (some Y) (some (.int (ag : Int))) none) s = some (.nx (eK a2 a3 a4 a5 a6 (some (tsD X)) a8 (some (.int 0)) (some (.int (q : Int))) (some (.int (m : Int))) (some (.ins 0 ds)) (some (.int (n : Int))) (some (.int (q : Int))) (some C) (some (.int (far : Int))) (some Y) (some (.int (ag : Int))) none), s) := v_sAsg rfl rfl
  have c16 := while_run (q := q) (ag := ag) (mo := mo) (by omega) (by omega) Q.mo3 Q.up Q.low (a2 := a2) (a3 := a3) (a4 := a4) (a5 := a5) (a6 := a6) (x7 := some (tsD X)) (a8 := a8) (x11 := some (.int (m : Int))) (x12 := some (.ins 0 ds)) (x13 := some (.int (n : Int))) (x14 := some (.int (q : Int))) (x15 := some C) (x16 := some (.int (far : Int))) (x17 := some Y) (x19 := none) s
  have cv : g_cover_paper [.int (n : Int), tsD X, .int (mo : Int)] = some apartD := by
    rw [← hT]
    rcases cover_ok Q.n16 Q.t16 (AT tab) Q.mo3 with ⟨_, e⟩ | ⟨nU, _⟩
    · exact e
    · exact absurd U nU
  have c17 : p17 (eK a2 a3 a4 a5 a6 (some (tsD X)) a8 (some (.int (mo : Int))) (some (.int (q : Int))) (some (.int (m : Int))) (some (.ins 0 ds)) (some (.int (n : Int))) (some (.int (q : Int))) (some C) (some (.int (far : Int))) (some Y) (some (.int (ag : Int))) none) s = some (.nx (eK a2 a3 a4 a5 a6 (some (tsD X)) a8 (some (.int (mo : Int))) (some (.int (q : Int))) (some (.int (m : Int))) (some (.ins 0 ds)) (some (.int (n : Int))) (some (.int (q : Int))) (some C) (some (.int (far : Int))) (some Y) (some (.int (ag : Int))) none), s) :=
    v_sIfF (s1 := s) (v_fTest (v_fOp (v_fCall (v_fCons rfl (v_fCons rfl (v_fCons rfl v_fNil))) (v_lenG rfl cv)) (v_fTup (v_fCons rfl v_fNil) (by simp)) (by rfl))) p_sNext
  have n1 := Q.n1
  have n16 := Q.n16
  have mo3 := Q.mo3
  obtain ⟨r, s1, e1, r1, i1⟩ := take2 i (mo + 1) (by omega) (by omega)
  obtain ⟨ns, s2, e2, nl, nn, i2⟩ := bad_run (n := n) n1 (by omega) (env := eK a2 a3 a4 a5 none (some (tsD X)) a8 (some (.int (mo : Int))) (some (.int (q : Int))) (some (.int (m : Int))) (some (.ins 0 ds)) (some (.int (n : Int))) (some (.int (q : Int))) (some C) (some (.int (far : Int))) (some Y) (some (.int (ag : Int))) none) (fun d => ⟨_, rfl, rfl, rfl⟩) ((List.range r).map fun j : Nat => D.int (j : Int)) s1 i1
  rw [List.length_map, List.length_range] at nl
  let B := sortU ns
  have c18 : p18 (eK a2 a3 a4 a5 a6 (some (tsD X)) a8 (some (.int (mo : Int))) (some (.int (q : Int))) (some (.int (m : Int))) (some (.ins 0 ds)) (some (.int (n : Int))) (some (.int (q : Int))) (some C) (some (.int (far : Int))) (some Y) (some (.int (ag : Int))) none) s = some (.nx (eK a2 a3 a4 a5 a6 (some (tsD X)) a8 (some (.int (mo : Int))) (some (.int (q : Int))) (some (.int (m : Int))) (some (.ins 0 ds)) (some (.int (n : Int))) (some (.int (q : Int))) (some C) (some (.int (far : Int))) (some Y) (some (.int (ag : Int))) (some (ti B))), s2) := by
    have tk : (fCons (fCallS (lenGS 2 g__law_take) (fCons (fVar 1) (fCons (fOp gAdd (fVar 9) (fC (.int 1))) fNil))) fNil : Fn DS (List D)) (eK a2 a3 a4 a5 a6 (some (tsD X)) a8 (some (.int (mo : Int))) (some (.int (q : Int))) (some (.int (m : Int))) (some (.ins 0 ds)) (some (.int (n : Int))) (some (.int (q : Int))) (some C) (some (.int (far : Int))) (some Y) (some (.int (ag : Int))) none) s = some ([.int (r : Int)], s1) :=
      v_fCons (v_fCallS (v_fCons rfl (v_fCons (x := .int ((mo + 1 : Nat) : Int)) (v_fOp rfl rfl rfl) v_fNil)) (v_lenGS rfl e1)) v_fNil
    have rg : (fRng1 (fCons (fCallS (lenGS 2 g__law_take) (fCons (fVar 1) (fCons (fOp gAdd (fVar 9) (fC (.int 1))) fNil))) fNil) : Fn DS (List D)) (eK a2 a3 a4 a5 a6 (some (tsD X)) a8 (some (.int (mo : Int))) (some (.int (q : Int))) (some (.int (m : Int))) (some (.ins 0 ds)) (some (.int (n : Int))) (some (.int (q : Int))) (some C) (some (.int (far : Int))) (some Y) (some (.int (ag : Int))) none) s = some ((List.range r).map fun j : Nat => D.int (j : Int), s1) := by
      unfold fRng1
      rw [tk]
      show (if okI (r : Int) = true then some (rangeD 0 (r : Int).toNat, s1) else none) = _
      have ok : okI (r : Int) = true := by
        unfold okI
        rw [Bool.and_eq_true, decide_eq_true_eq, decide_eq_true_eq]
        omega
      rw [if_pos ok, show ((r : Int)).toNat = r by omega, List.range_eq_range', show (0 : Int) = ((0 : Nat) : Int) from rfl, rk0]
    exact v_sAsg (v_fCall (g := gTuple) (d := ti B) (v_fCons (v_fL (v_fSortSet (v_fL (v_fLc (vs := [6]) rg (by rw [List.length_map, List.length_range]; omega) e2)) (by omega))) v_fNil) rfl) rfl
  have bl : B.length ≤ mo := by
    have : B.length ≤ ns.length := sortU_len ns
    omega
  have bM : ∀ x ∈ B, ∃ j : Nat, x = j ∧ j < n := fun x hx => nn x ((mem_sortU x ns).mp hx)
  have bad := F.told (B := B) (sortU_pw ns) bM (Nat.lt_of_le_of_lt (Nat.mul_le_mul_right ag bl) Q.lt)
  have oc := outcome_ok (M := n) Q.t16 (AT tab) (P := B) (fun x hx => by
    obtain ⟨j, rfl, hj⟩ := bM x hx
    omega) (by omega)
  have tl := told_ok Q.n16 Q.t16 (AT tab) (outB (AT tab) B)
  rw [bad] at tl
  rw [hT] at oc tl
  have c19 : p19 (eK a2 a3 a4 a5 a6 (some (tsD X)) a8 (some (.int (mo : Int))) (some (.int (q : Int))) (some (.int (m : Int))) (some (.ins 0 ds)) (some (.int (n : Int))) (some (.int (q : Int))) (some C) (some (.int (far : Int))) (some Y) (some (.int (ag : Int))) (some (ti B))) s2 = some (.rt (.bl true), s2) :=
    v_sRet (v_fOp (v_fCall (v_fCons rfl (v_fCons rfl (v_fCons (v_fCall (v_fCons rfl (v_fCons rfl v_fNil)) (v_lenG rfl oc)) v_fNil))) (v_lenG rfl tl)) rfl (eq_ti B))
  exact ⟨s2, v_seq c7 (v_seq c8 (v_seq c9 (v_seq c10 (v_seq c11 (v_seq c12 (v_seq c13 (v_seq c14 (v_seq c15 (v_seq c16 (v_seq c17 (v_seq c18 c19)))))))))))⟩
end Lawk57
namespace Lawk57
open PySem PyProof.Rows L2 SL
abbrev twoD (a b : Int) : D := .tup [.int a, .int b]
theorem pick_ok {s : DS} (hs : InvD s) : ∃ (d : D) (s' : DS), g__law_pick [.tok 0, .lst [twoD 2 2, twoD 3 1, twoD 3 2, twoD 4 2, twoD 2 1]] s = some (d, s') ∧ (d = twoD 2 2 ∨ d = twoD 3 1 ∨ d = twoD 3 2 ∨ d = twoD 4 2 ∨ d = twoD 2 1) ∧ InvD s' := by
  obtain ⟨r, s', e, r1, i⟩ := take2 hs 5 (by omega) (by omega)
  have go : ∀ (d : D), d.isOwn = false → gIx (.lst [twoD 2 2, twoD 3 1, twoD 3 2, twoD 4 2, twoD 2 1]) (.int (r : Int)) = some d → g__law_pick [.tok 0, .lst [twoD 2 2, twoD 3 1, twoD 3 2, twoD 4 2, twoD 2 1]] s = some (d, s') := fun d ho h =>
    v_runS rfl (v_sRet (v_fOp rfl (v_fCallS (v_fCons rfl (v_fCons (v_fCall (v_fCons rfl v_fNil) rfl) v_fNil)) (v_lenGS rfl e)) h) ho)
  rcases (show r = 0 ∨ r = 1 ∨ r = 2 ∨ r = 3 ∨ r = 4 by omega) with rfl | rfl | rfl | rfl | rfl
  · exact ⟨_, s', go _ rfl rfl, .inl rfl, i⟩
  · exact ⟨_, s', go _ rfl rfl, .inr (.inl rfl), i⟩
  · exact ⟨_, s', go _ rfl rfl, .inr (.inr (.inl rfl)), i⟩
  · exact ⟨_, s', go _ rfl rfl, .inr (.inr (.inr (.inl rfl))), i⟩
  · exact ⟨_, s', go _ rfl rfl, .inr (.inr (.inr (.inr rfl))), i⟩
theorem tail6_run {a2 a3 a4 a5 a6 x7 a8 x9 : Option D} {s : DS} (i : InvD s) : ∃ s', tail6 (eK a2 a3 a4 a5 a6 x7 a8 x9 none none none none none none none none none none) s = some (.rt (.bl true), s') := by
  obtain ⟨d, s1, e, hd, i1⟩ := pick_ok i
  have c6 : ∀ q m : Int, d = twoD q m → p6 (eK a2 a3 a4 a5 a6 x7 a8 x9 none none none none none none none none none none) s = some (.nx (eK a2 a3 a4 a5 a6 x7 a8 x9 (some (.int q)) (some (.int m)) none none none none none none none none), s1) := fun q m h => by
    rw [h] at e
    exact v_sAsg (v_fCallS (v_fCons rfl (v_fCons rfl v_fNil)) (v_lenGS rfl e)) rfl
  rcases hd with h | h | h | h | h
  · obtain ⟨s2, t⟩ := tail_run sq22 (a2 := a2) (a3 := a3) (a4 := a4) (a5 := a5) (a6 := a6) (x7 := x7) (a8 := a8) (x9 := x9) i1
    exact ⟨s2, v_seq (c6 2 2 h) t⟩
  · obtain ⟨s2, t⟩ := tail_run sq31 (a2 := a2) (a3 := a3) (a4 := a4) (a5 := a5) (a6 := a6) (x7 := x7) (a8 := a8) (x9 := x9) i1
    exact ⟨s2, v_seq (c6 3 1 h) t⟩
  · obtain ⟨s2, t⟩ := tail_run sq32 (a2 := a2) (a3 := a3) (a4 := a4) (a5 := a5) (a6 := a6) (x7 := x7) (a8 := a8) (x9 := x9) i1
    exact ⟨s2, v_seq (c6 3 2 h) t⟩
  · obtain ⟨s2, t⟩ := tail_run sq42 (a2 := a2) (a3 := a3) (a4 := a4) (a5 := a5) (a6 := a6) (x7 := x7) (a8 := a8) (x9 := x9) i1
    exact ⟨s2, v_seq (c6 4 2 h) t⟩
  · obtain ⟨s2, t⟩ := tail_run sq21 (a2 := a2) (a3 := a3) (a4 := a4) (a5 := a5) (a6 := a6) (x7 := x7) (a8 := a8) (x9 := x9) i1
    exact ⟨s2, v_seq (c6 2 1 h) t⟩
theorem runs : ∀ ns : List Int, ns.length ≤ 63 → ∃ s', b_law (none :: some (.tok 0) :: List.replicate (N_law.length - 2) none) ⟨ns, 0, 0, seedOf 5 ns⟩ = some (.rt (.bl true), s') := by
  intro ns _
  have i0 : InvD ⟨ns, 0, 0, seedOf 5 ns⟩ := ⟨Int.le_refl _, Int.le_refl _⟩
  generalize (⟨ns, 0, 0, seedOf 5 ns⟩ : DS) = s0 at *
  obtain ⟨r0, s1, e1, b1, i1⟩ := take2 i0 7 (by omega) (by omega)
  obtain ⟨r1, s2, e2, b2, i2⟩ := take2 i1 3 (by omega) (by omega)
  obtain ⟨r2, s3, e3, b3, i3⟩ := take2 i2 6 (by omega) (by omega)
  obtain ⟨M, hM⟩ : ∃ M, M = 1 + r0 := ⟨_, rfl⟩
  obtain ⟨h, hh⟩ : ∃ h, h = 2 + r1 := ⟨_, rfl⟩
  obtain ⟨t, ht⟩ : ∃ t, t = h + r2 := ⟨_, rfl⟩
  obtain ⟨R, x6, s4, e4, i4, hR, lR⟩ := rows_run (M := M) (h := h) (t := t) (by omega) (by omega) ((List.range M).map fun j : Nat => D.int (j : Int)) [] none s3 i3 (fun _ => nofun) (by rw [List.length_map, List.length_range]; simp only [List.length_nil]; omega)
  have O : RowsOk M h t R := ⟨by rw [lR, List.length_map, List.length_range]; simp only [List.length_nil]; omega, hR⟩
  have M16 : M ≤ 16 := by omega
  have t16 : t ≤ 16 := by omega
  obtain ⟨s5, t6⟩ := tail6_run (a2 := some (.int (M : Int))) (a3 := some (.int (h : Int))) (a4 := some (.int (t : Int))) (a5 := some (lsT R)) (a6 := x6) (x7 := some (tsD (testL M t (AR R)))) (a8 := some (.int ((shN M t (AR R) : Nat) : Int))) (x9 := some (.int 3)) i4
  refine ⟨s5, ?_⟩
  rw [b_split]
  have c1 : q1 (none :: some (.tok 0) :: List.replicate (N_law.length - 2) none) s0 = some (.nx [none, some (.tok 0), some (.int (M : Int)), none, none, none, none, none, none, none, none, none, none, none, none, none, none, none, none, none, none, none, none], s1) := by
    refine v_sAsg (x := .int (M : Int)) (v_fOp rfl (v_fCallS (v_fCons rfl (v_fCons rfl v_fNil)) (v_lenGS rfl e1)) ?_) rfl
    show some (D.int ((1 : Int) + (r0 : Int))) = _
    rw [show (M : Int) = (1 : Int) + (r0 : Int) by omega]
  have c2 : q2 [none, some (.tok 0), some (.int (M : Int)), none, none, none, none, none, none, none, none, none, none, none, none, none, none, none, none, none, none, none, none] s1 = some (.nx [none, some (.tok 0), some (.int (M : Int)), some (.int (h : Int)), none, none, none, none, none, none, none, none, none, none, none, none, none, none, none, none, none, none, none], s2) := by
    refine v_sAsg (x := .int (h : Int)) (v_fOp rfl (v_fCallS (v_fCons rfl (v_fCons rfl v_fNil)) (v_lenGS rfl e2)) ?_) rfl
    show some (D.int ((2 : Int) + (r1 : Int))) = _
    rw [show (h : Int) = (2 : Int) + (r1 : Int) by omega]
  have c3 : q3 [none, some (.tok 0), some (.int (M : Int)), some (.int (h : Int)), none, none, none, none, none, none, none, none, none, none, none, none, none, none, none, none, none, none, none] s2 = some (.nx (eL M h t none none none none none), s3) := by
    refine v_sAsg (x := .int (t : Int)) (v_fOp rfl (v_fCallS (v_fCons rfl (v_fCons rfl v_fNil)) (v_lenGS rfl e3)) ?_) rfl
    show some (D.int ((h : Int) + (r2 : Int))) = _
    rw [show (t : Int) = (h : Int) + (r2 : Int) by omega]
  have c4 := p_sOwn (i := 5) (ds := []) (fl := fLst fNil) (env := eL M h t none none none none none) (s := s3) (s1 := s3) rfl
  have c5 : q5 (eL M h t (some (.own (([] : List (List Int)).map ti))) none none none none) s3 = some (.nx (eL M h t (some (.own (R.map ti))) x6 none none none), s4) := v_sFor (rng_i (i := 2) (by omega) rfl) e4
  refine v_seq c1 (v_seq c2 (v_seq c3 (v_seq c4 (v_seq c5 ?_))))
  refine p_freeze (ds := R.map ti) rfl ?_
  have h1 := p1_run M16 t16 O (x6 := x6) (x7 := none) (x8 := none) (x9 := none) s4
  have h2 := p2_run M16 t16 O (x6 := x6) (x8 := none) (x9 := none) s4
  have h3 := p3_run M16 t16 O (x6 := x6) (x7 := some (tsD (testL M t (AR R)))) (x9 := none) s4
  have h4 := p4_run M16 t16 O (x6 := x6) (x9 := none) s4
  have h5 := p5_run M16 t16 (show 0 < h by omega) O (x6 := x6) (x9 := some (.int 3)) s4
  generalize testL M t (AR R) = X at *
  generalize shN M t (AR R) = S at *
  exact v_seq h1 (v_seq h2 (v_seq h3 (v_seq h4 (v_seq h5 t6))))
end Lawk57
open PySem PySem.W PySem.Calls PyProof.Rows
set_option maxHeartbeats 0 in
theorem PySem.Challenge.cw_codehall_k57_whole_columns_that_share_li_holds : PySem.Challenge.rw_codehall_k57_whole_columns_that_share_li.Holds := by
  w_on; o_law; k_head; (case hw => w_witness2)
  k_fill
  refine L2.walk_of (l := PySem.Challenge.rw_codehall_k57_whole_columns_that_share_li) (n := 63) (k := 9) (x := "script") (CX := fun _ => L2.CX0) (sp := fun w => SL.spLawX _) rfl (by decide) rfl ⟨rfl, by decide, by decide⟩ (fun w h Y => PySem.W.kIn_of Y) ?F (fun _ _ a ns hl _ hS => ⟨a, ns, rfl, hS, hl, fun _ => rfl⟩) (fun _ _ _ _ _ h => h)
  case F =>
    intro w mg fa h KX G hmg
    exact Lawk57.ends Lawk57.runs KX G hmg ⟨(show He.obsT Lawk57.fas Lawk57.fns [] _ = He.valT Lawk57.fns [] w by kernel_rfl), (show Lawk57.exB _ = true by kernel_rfl), nofun, nofun, nofun⟩
